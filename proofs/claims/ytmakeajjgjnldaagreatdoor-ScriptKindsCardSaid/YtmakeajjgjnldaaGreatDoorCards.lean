/-
  DERIVED. GIVEN WITH THE SEED: THE CARDS: each row of YtmakeajjgjnldaaGreatDoorRows.lean that lists a variable, with what it lists TIED to the program's text (the seventh form; the later family's looks); each row that meets fmt, with fmt's text TOLD by the authors' own Lean function (tested against real Go, not proved from fmt's source: count such statements apart). THE CARD IS WHAT COUNTS. Prove the row's statement (the work); the ties are given (YtmakeajjgjnldaaGreatDoorTie.lean); close each card by the builder's one call (the guide's Derived/Test/ToyasCard.lean, 'card_holds'). Laid BY PROGRAM, IN A SANDBOX (cutbox-door.mjs). By AI agents, Wed Nov 11 2026. No macro, syntax, notation, axiom, sorry.
-/
import Derived.Test.YtmakeajjgjnldaaGreatDoorRows
import GoSem.ClaimSeven
namespace Go.Proofs.YtmakeajjgjnldaaGreatDoor
namespace Rows

/-- THE TIED CARD OF 'garretlaw25.VfsKinds'. -/
def vfsKindsCard : Claim7 := { stood := { row := vfsKindsRow, standIns := [], harness := (true, "3dbef5473cd67c352a7da4ec5afb4973f2fc53550e90d892859309f8fc3c5d56"), looks := false }, kinds := [], alts := [], laidByText := true, laidKinds := [.data, .pinned], laidTests := true, laidLooks := .later }
def VfsKindsCardSaid : Prop := Claim7.holds Tryz.pinned (.plain (OpenSpec.ofChange vfsKindsSpec)) vfsKindsCard

/-- THE TIED CARD OF 'garretlaw25.VfsNil'. -/
def vfsNilCard : Claim7 := { stood := { row := vfsNilRow, standIns := [], harness := (true, "3dbef5473cd67c352a7da4ec5afb4973f2fc53550e90d892859309f8fc3c5d56"), looks := false }, kinds := [], alts := [], laidByText := true, laidKinds := [.data, .pinned], laidTests := true, laidLooks := .later }
def VfsNilCardSaid : Prop := Claim7.holds Tryz.pinned (.plain (OpenSpec.ofChange vfsNilSpec)) vfsNilCard

/-- THE TIED CARD OF 'garretlaw28.ScriptDecodes'. -/
def scriptDecodesCard : Claim7 := { stood := { row := scriptDecodesRow, standIns := [], harness := (true, "3dbef5473cd67c352a7da4ec5afb4973f2fc53550e90d892859309f8fc3c5d56"), looks := false }, kinds := [], alts := [], laidByText := true, laidKinds := [.data, .data, .data, .data, .pinned], laidTests := true, laidLooks := .later }
def ScriptDecodesCardSaid : Prop := Claim7.holds Tryz.pinned (.plain (OpenSpec.ofChange scriptDecodesSpec)) scriptDecodesCard

/-- THE TIED CARD OF 'garretlaw28.ScriptTexts'. -/
def scriptTextsCard : Claim7 := { stood := { row := scriptTextsRow, standIns := [], harness := (true, "3dbef5473cd67c352a7da4ec5afb4973f2fc53550e90d892859309f8fc3c5d56"), looks := false }, kinds := [], alts := [], laidByText := true, laidKinds := [.data, .data, .data, .data, .pinned], laidTests := true, laidLooks := .later }
def ScriptTextsCardSaid : Prop := Claim7.holds Tryz.pinned (.plain (OpenSpec.ofChange scriptTextsSpec)) scriptTextsCard

/-- THE TIED CARD OF 'garretlaw28.ScriptKinds'. -/
def scriptKindsCard : Claim7 := { stood := { row := scriptKindsRow, standIns := [], harness := (true, "3dbef5473cd67c352a7da4ec5afb4973f2fc53550e90d892859309f8fc3c5d56"), looks := false }, kinds := [], alts := [], laidByText := true, laidKinds := [.data, .data, .data, .data, .pinned], laidTests := true, laidLooks := .later }
def ScriptKindsCardSaid : Prop := Claim7.holds Tryz.pinned (.plain (OpenSpec.ofChange scriptKindsSpec)) scriptKindsCard

/-- THE TIED CARD OF 'garretlaw28.ScriptLines'. -/
def scriptLinesCard : Claim7 := { stood := { row := scriptLinesRow, standIns := [], harness := (true, "3dbef5473cd67c352a7da4ec5afb4973f2fc53550e90d892859309f8fc3c5d56"), looks := false }, kinds := [], alts := [], laidByText := true, laidKinds := [.data, .data, .data, .data, .pinned], laidTests := true, laidLooks := .later }
def ScriptLinesCardSaid : Prop := Claim7.holds Tryz.pinned (.plain (OpenSpec.ofChange scriptLinesSpec)) scriptLinesCard

/-- THE SECOND FORM's CARD OF 'garretlaw25.VfsKinds'. -/
def vfsKindsUptoCard : Claim7 := { stood := { row := vfsKindsUptoRow, standIns := [], harness := (true, "3dbef5473cd67c352a7da4ec5afb4973f2fc53550e90d892859309f8fc3c5d56"), looks := false }, kinds := [], alts := [], laidByText := true, laidKinds := [.data, .pinned], laidTests := true, laidLooks := .later }
def VfsKindsUptoCardSaid : Prop := Claim7.holds Tryz.pinned (.plain (OpenSpec.upto vfsKindsSpec)) vfsKindsUptoCard

/-- THE SECOND FORM's CARD OF 'garretlaw25.VfsNil'. -/
def vfsNilUptoCard : Claim7 := { stood := { row := vfsNilUptoRow, standIns := [], harness := (true, "3dbef5473cd67c352a7da4ec5afb4973f2fc53550e90d892859309f8fc3c5d56"), looks := false }, kinds := [], alts := [], laidByText := true, laidKinds := [.data, .pinned], laidTests := true, laidLooks := .later }
def VfsNilUptoCardSaid : Prop := Claim7.holds Tryz.pinned (.plain (OpenSpec.upto vfsNilSpec)) vfsNilUptoCard

/-- THE SECOND FORM's CARD OF 'garretlaw28.ScriptDecodes'. -/
def scriptDecodesUptoCard : Claim7 := { stood := { row := scriptDecodesUptoRow, standIns := [], harness := (true, "3dbef5473cd67c352a7da4ec5afb4973f2fc53550e90d892859309f8fc3c5d56"), looks := false }, kinds := [], alts := [], laidByText := true, laidKinds := [.data, .data, .data, .data, .pinned], laidTests := true, laidLooks := .later }
def ScriptDecodesUptoCardSaid : Prop := Claim7.holds Tryz.pinned (.plain (OpenSpec.upto scriptDecodesSpec)) scriptDecodesUptoCard

/-- THE SECOND FORM's CARD OF 'garretlaw28.ScriptTexts'. -/
def scriptTextsUptoCard : Claim7 := { stood := { row := scriptTextsUptoRow, standIns := [], harness := (true, "3dbef5473cd67c352a7da4ec5afb4973f2fc53550e90d892859309f8fc3c5d56"), looks := false }, kinds := [], alts := [], laidByText := true, laidKinds := [.data, .data, .data, .data, .pinned], laidTests := true, laidLooks := .later }
def ScriptTextsUptoCardSaid : Prop := Claim7.holds Tryz.pinned (.plain (OpenSpec.upto scriptTextsSpec)) scriptTextsUptoCard

/-- THE SECOND FORM's CARD OF 'garretlaw28.ScriptKinds'. -/
def scriptKindsUptoCard : Claim7 := { stood := { row := scriptKindsUptoRow, standIns := [], harness := (true, "3dbef5473cd67c352a7da4ec5afb4973f2fc53550e90d892859309f8fc3c5d56"), looks := false }, kinds := [], alts := [], laidByText := true, laidKinds := [.data, .data, .data, .data, .pinned], laidTests := true, laidLooks := .later }
def ScriptKindsUptoCardSaid : Prop := Claim7.holds Tryz.pinned (.plain (OpenSpec.upto scriptKindsSpec)) scriptKindsUptoCard

/-- THE SECOND FORM's CARD OF 'garretlaw28.ScriptLines'. -/
def scriptLinesUptoCard : Claim7 := { stood := { row := scriptLinesUptoRow, standIns := [], harness := (true, "3dbef5473cd67c352a7da4ec5afb4973f2fc53550e90d892859309f8fc3c5d56"), looks := false }, kinds := [], alts := [], laidByText := true, laidKinds := [.data, .data, .data, .data, .pinned], laidTests := true, laidLooks := .later }
def ScriptLinesUptoCardSaid : Prop := Claim7.holds Tryz.pinned (.plain (OpenSpec.upto scriptLinesSpec)) scriptLinesUptoCard
end Rows
end Go.Proofs.YtmakeajjgjnldaaGreatDoor
