/- garretlaw28.ScriptKinds: for every slice of bytes the law returns true, and the slice reads behind the call as it read before. -/
import Derived.Test.YtmakeajjgjnldaaGreatDoorS26
import Derived.Test.YtmakeajjgjnldaaGreatDoorM4
import Derived.Test.YtmakeajjgjnldaaGreatDoorCards
import Derived.Test.YtmakeajjgjnldaaGreatDoorTie
set_option maxRecDepth 100000
namespace Go.Proofs.YtmakeajjgjnldaaGreatDoor.scriptKinds
open Go Go.Ab Go.ChangeShapes Go.WideShapes Go.ChangeAt Go.RowKit

theorem own : ownKnob Tryz.prog.godebug = none := by kernel_rfl
theorem laidOut : laidOutB Tryz.prog = true := by kernel_rfl
theorem cells5 : Tryz.prog.cellsOf 5 = 1 := by kernel_rfl
theorem readable : [26].all (fun t => Tryz.prog.readableRec t && Nat.blt t Tryz.prog.types.size) = true := by kernel_rfl

theorem lifted (os : Os) (started : os.Started) (H : Type) (enc : TypeId × Value → H) :
    ReturnsInHanded {} Tryz.checked os 7 .any (fun w args => (Rows.scriptKindsSpec.pre enc Tryz.prog Tryz.f7 Rows.scriptKindsRow.domain false w args ∧ laidMetH Tryz.prog Rows.scriptKindsRow.laid w) ∧ sizedMet enc Tryz.prog Tryz.f7 (OpenSpec.ofChange Rows.scriptKindsSpec) false w args)
      (Rows.scriptKindsSpec.post enc Tryz.prog Tryz.f7 false true false false) := by
  refine returnsInHanded_of_change_and (C := Tryz.checked) (X := fun w _ => laidMetH Tryz.prog Rows.scriptKindsRow.laid w) (fun _ _ _ hh h => h.of_heap hh) own started (by kernel_rfl) Tryz.func7
    (ChangeSpec.witness_shaped (enc := enc) (C := Tryz.checked) (os := os) (X := fun w _ => laidMetH Tryz.prog Rows.scriptKindsRow.laid w) false (World.laidAll Tryz.prog os Rows.scriptKindsRow.laid) #[.slice none 0 0] 8 (World.laidAll_os _ _ _)
      (World.shaped_of_ZipB (by kernel_rfl) (by kernel_rfl)) (by kernel_rfl) (by kernel_rfl) (by kernel_rfl)
      (by rw [MakeChecks.laidMetH_plain _ _ _ (by kernel_rfl)]; exact laidMet_laidAll _ (by kernel_rfl) (by kernel_rfl))) ?_
  intro W base args ds gs before hval hW _ _ _ _
  have hW' := hW
  obtain ⟨p, q, hA0, hV, rfl, _, _⟩ := hW
  have hA : DataW.TrodAll enc Tryz.prog W 0 (fun _ => true) true Tryz.f7.params.toList args.toList ds p := hA0
  rw [Tryz.params7] at hA
  obtain ⟨v0, d0, rfl, rfl, h0⟩ := trodAll_one hA
  obtain ⟨l, hl⟩ := RA_bytes Tryz.underlying26 Tryz.underlying5 cells5 (hval 0 26 v0 (by rw [Tryz.params7]; rfl) rfl) h0
  refine (law_run (vs := [v0]) Tryz.func7 rfl (by kernel_rfl) (C_garretlaw28_ScriptKinds l) (by simp only [RAs]; exact ⟨v0, [], rfl, hl, rfl⟩)).mono fun e W' ⟨he, hb⟩ => ?_
  subst he
  exact ⟨_, rfl, law_post laidOut (by rw [Tryz.params7]; exact readable) rfl rfl Tryz.underlying4 rfl hW' hb⟩

end Go.Proofs.YtmakeajjgjnldaaGreatDoor.scriptKinds
