/- garretlaw28.ScriptKinds: for every slice of bytes the law returns true, and the slice reads behind the call as it read before. -/
import Derived.Test.YtmakeajjgjnldaaGreatDoorSKa
import Derived.Test.YtmakeajjgjnldaaGreatDoorSKf
set_option maxRecDepth 100000
namespace Go.Proofs.YtmakeajjgjnldaaGreatDoor.scriptKinds
open Go Go.Ab Go.ChangeShapes Go.WideShapes Go.ChangeAt Go.RowKit

theorem named : Tryz.prog.funcNamed "garret/garretlaw28.ScriptKinds" = some 7 := by kernel_rfl
theorem said : Rows.ScriptKindsSaid :=
  OpenClaim.holds_of_wide 7 Tryz.f7 rfl rfl rfl rfl rfl rfl rfl ⟨rfl, rfl, rfl, rfl, rfl⟩ rfl rfl rfl rfl rfl named Tryz.func7 facts
    (of_decide_eq_true (by kernel_rfl)) (by unfold Func.isWrapper; first | (rw [if_pos (by decide +kernel)]; kernel_rfl) | (rw [if_neg (by decide +kernel)]; exact ⟨rfl, rfl⟩))
    (fun os started H enc _ => lifted os started H enc)
theorem facts1 : Rows.scriptKindsRow.wfByText (OpenSpec.ofChange Rows.scriptKindsSpec) = true := by kernel_rfl
theorem facts2 : Tryz.pinned.checked.prog.mainIs = some (true, "3dbef5473cd67c352a7da4ec5afb4973f2fc53550e90d892859309f8fc3c5d56".toList) := by kernel_rfl
theorem facts3 : false = Tryz.pinned.checked.prog.looks [] := by kernel_rfl
theorem facts4 : false = Rows.scriptKindsRow.goesBy Tryz.pinned.checked.prog := by kernel_rfl
theorem facts5 : [26].all (fun u => !Tryz.prog.wantsStandIn u) = true := by kernel_rfl
theorem plain (f : FuncId) (fn : Func) (hf : Tryz.pinned.checked.prog.funcNamed "garret/garretlaw28.ScriptKinds" = some f) (hfn : Tryz.pinned.checked.prog.funcs[f]? = some fn) :
    false = Tryz.pinned.checked.prog.looks [] ∧ ∀ (j : Nat) t, fn.params[j]? = some t → Tryz.pinned.checked.prog.wantsStandIn t = false := by
  obtain rfl : f = 7 := Option.some.inj (named.symm.trans hf) |>.symm
  obtain rfl : fn = Tryz.f7 := (Option.some.inj (Tryz.func7.symm.trans hfn)).symm
  refine ⟨facts3, fun j t ht => ?_⟩
  rw [Tryz.params7] at ht
  have hm : t ∈ [26] := by simpa using Array.mem_of_getElem? ht
  exact (show Tryz.prog.wantsStandIn t = false by simpa using List.all_eq_true.1 facts5 t hm)
theorem card : Rows.ScriptKindsCardSaid :=
  Claim7.holds_tied_plain_at .later [] _ _ _ _ said (fun _ h => by cases h) facts1 (fun _ h => by cases h) scriptKinds_row_tie rfl ⟨rfl, rfl⟩ facts2 rfl plain facts4
#print axioms card
end Go.Proofs.YtmakeajjgjnldaaGreatDoor.scriptKinds
