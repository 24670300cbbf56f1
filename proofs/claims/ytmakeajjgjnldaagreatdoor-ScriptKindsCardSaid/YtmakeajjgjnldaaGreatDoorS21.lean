/- Walks, part 21: texts built. -/
import Derived.Test.YtmakeajjgjnldaaGreatDoorS20
import Derived.Test.YtmakeajjgjnldaaGreatDoorM4
set_option linter.unusedVariables false
set_option linter.unusedSimpArgs false
set_option maxRecDepth 100000
namespace Go.Proofs.YtmakeajjgjnldaaGreatDoor
open Go Go.Ab

theorem C_NoEscape : ACalls Tryz.prog 124 [.ptr 370 0] [] [] (fun r G => r = .ptr 370 0 ∧ G = []) :=
  acalls_same Tryz.func124 (by kernel_rfl) (by kernel_rfl) (by kernel_rfl) (by kernel_rfl) 370 0
/-- A builder that bears these bytes. -/
abbrev bldG (l : List UInt8) : GS := [(370, .row 105 [.ptrN 370 0, .own 1 371 0 l.length]), (371, .els 5 1 (bs l))]

theorem ty103 : TyIs Tryz.prog 103 (.pointer 105) 1 := ⟨Tryz.underlying103, by kernel_rfl⟩
abbrev fs104 : Array Field := #[⟨ "addr", 103, 0, false, "", "strings", 0⟩, ⟨ "buf", 26, 1, false, "", "strings", 8⟩]
theorem ty105 : TyIs Tryz.prog 105 (.struct fs104) 2 := ⟨Tryz.underlying105, by kernel_rfl⟩
theorem ty162 : TyIs Tryz.prog 162 (.pointer 5) 1 := ⟨Tryz.underlying162, by kernel_rfl⟩
theorem ty201 : TyIs Tryz.prog 201 (.unsafePointer) 1 := ⟨Tryz.underlying201, by kernel_rfl⟩

theorem C_strings_Builder_copyCheck (m : Nat) : ACalls Tryz.prog 79 [.ptr 370 0] ([(370, .row 105 [.ptrN 370 0, .own 1 371 0 m])]) ([]) (fun r G => r = .tup [] ∧ G = [(370, .row 105 [.ptrN 370 0, .own 1 371 0 m])]) := by
  refine acalls_of_body 20 [370, 371] Tryz.func79 rfl (by kernel_rfl) Tryz.ntmps79 (Nat.le_of_ble_eq_true rfl) rfl ?_
  refine AW.seq ?_
  refine AW.region ?_
  refine AL.casePN 370 0 rfl rfl ?_ ?_
  · skip
    refine AL.pure rfl rfl (by decide) (P_move rfl) ?_
    refine AL.pure rfl rfl (by decide) (P_nilCheck rfl) ?_
    refine AL.pure rfl rfl (by decide) (P_fieldAddr ty105 rfl ty103 rfl) ?_
    refine AL.pure rfl rfl (by decide) (P_load ty103 rfl rfl rfl rfl) ?_
    refine AL.pure rfl rfl (by decide) (P_eqlNN ty103 rfl rfl) ?_
    refine AL.nil ?_
    refine Then.go ?_
    refine AW.condT rfl ?_
    refine AW.region ?_
    refine AL.pure rfl rfl (by decide) (P_move rfl) ?_
    refine AL.pure rfl rfl (by decide) (P_move rfl) ?_
    refine AL.pure rfl rfl (by decide) (P_toUnsafe ty103 ty201 ty105 rfl rfl rfl) ?_
    refine AL.call (C_NoEscape ) _ [] [] _ rfl (by decide) rfl rfl rfl SubG.nil ?_
    rintro _ _ ⟨rfl, rfl⟩
    refine ⟨rfl, rfl, ?_⟩
    refine AL.pure rfl rfl (by decide) (P_fromUnsafe ty201 ty103 ty105 rfl rfl (Nat.le_of_ble_eq_true rfl)) ?_
    refine AL.pure rfl rfl (by decide) (P_nilCheck rfl) ?_
    refine AL.pure rfl rfl (by decide) (P_fieldAddr ty105 rfl ty103 rfl) ?_
    refine AL.eff0 rfl rfl (E_store ty103 rfl rfl rfl rfl rfl (Nat.le_of_ble_eq_true rfl)) ?_
    refine AL.ptrNO 370 0 rfl rfl ?_
    refine AL.nil ?_
    refine ⟨(by exact .inl rfl), _, _, .nil, (SubG.cons (l := 370) rfl SubG.nil), ?_, rfl, rfl⟩
    exact ⟨rfl, rfl⟩
  · skip
    refine AL.pure rfl rfl (by decide) (P_move rfl) ?_
    refine AL.pure rfl rfl (by decide) (P_nilCheck rfl) ?_
    refine AL.pure rfl rfl (by decide) (P_fieldAddr ty105 rfl ty103 rfl) ?_
    refine AL.pure rfl rfl (by decide) (P_load ty103 rfl rfl rfl rfl) ?_
    refine AL.pure rfl rfl (by decide) (P_eqlPN ty103 rfl rfl) ?_
    refine AL.nil ?_
    refine Then.go ?_
    refine AW.condF rfl ?_
    refine AW.seq ?_
    refine AW.region ?_
    refine AL.pure rfl rfl (by decide) (P_move rfl) ?_
    refine AL.pure rfl rfl (by decide) (P_nilCheck rfl) ?_
    refine AL.pure rfl rfl (by decide) (P_fieldAddr ty105 rfl ty103 rfl) ?_
    refine AL.pure rfl rfl (by decide) (P_load ty103 rfl rfl rfl rfl) ?_
    refine AL.pure rfl rfl (by decide) (P_move rfl) ?_
    refine AL.pure rfl rfl (by decide) (P_neqPP ty103 ty105 rfl rfl) ?_
    refine AL.ptrNO 370 0 rfl rfl ?_
    refine AL.nil ?_
    refine Then.go ?_
    refine AW.condF rfl ?_
    refine AW.skip ?_
    refine ⟨(by exact .inl rfl), _, _, .nil, (SubG.cons (l := 370) rfl SubG.nil), ?_, rfl, rfl⟩
    exact ⟨rfl, rfl⟩
theorem C_strings_Builder_WriteString (l : List UInt8) (s : ByteArray) (hl : l.length + s.size ≤ 1000000000) : ACalls Tryz.prog 52 [.ptr 370 0, vS s] (bldG l) ([371]) (fun r G => r = .tup [vI .i64 (s.size : Nat), .tr (.val .nilIface)] ∧ G = bldG (l ++ s.data.toList)) := by
  refine acalls_of_body 19 [370] Tryz.func52 rfl (by kernel_rfl) Tryz.ntmps52 (Nat.le_of_ble_eq_true rfl) rfl ?_
  refine AW.seq ?_
  refine AW.region ?_
  refine AL.pure rfl rfl (by decide) (P_assign rfl) ?_
  refine AL.pure rfl rfl (by decide) (P_assign rfl) ?_
  refine AL.nil ?_
  refine Then.go ?_
  refine AW.seq ?_
  refine AW.region ?_
  refine AL.pure rfl rfl (by decide) (P_move rfl) ?_
  refine AL.call (C_strings_Builder_copyCheck _ ) _ [] [] _ rfl (by decide) rfl rfl rfl (SubG.cons rfl SubG.nil) ?_
  rintro _ _ ⟨rfl, rfl⟩
  refine ⟨rfl, rfl, ?_⟩
  refine AL.nil ?_
  refine Then.go ?_
  refine AW.seq ?_
  refine AW.region ?_
  refine AL.pure rfl rfl (by decide) (P_move rfl) ?_
  refine AL.pure rfl rfl (by decide) (P_move rfl) ?_
  refine AL.pure rfl rfl (by decide) (P_nilCheck rfl) ?_
  refine AL.pure rfl rfl (by decide) (P_fieldAddr ty105 rfl ty26 rfl) ?_
  refine AL.pure rfl rfl (by decide) (P_load ty26 rfl rfl rfl rfl) ?_
  refine AL.pure rfl rfl (by decide) (P_move rfl) ?_
  refine AL.eff rfl rfl (by decide) (E_appendS ty26 ty9 ty5 tz5 tb5 rfl rfl rfl rfl rfl (by (simp only [bs_length, List.length_map, List.length_append, List.length_replicate, List.length_set, List.length_take, List.length_nil, List.length_cons]; omega)) (by omega)) ?_
  refine AL.pure rfl rfl (by decide) (P_nilCheck rfl) ?_
  refine AL.pure rfl rfl (by decide) (P_fieldAddr ty105 rfl ty26 rfl) ?_
  refine AL.eff0 rfl rfl (E_store ty26 rfl rfl rfl rfl rfl (Nat.le_of_ble_eq_true rfl)) ?_
  refine AL.recastO 371 (.els 5 1 (bs (l ++ s.data.toList))) rfl (els_congr (by rw [List.take_of_length_le (by simp)]; exact List.map_append.symm)) ?_
  refine AL.recastO 370 (.row 105 [.ptrN 370 0, .own 1 371 0 (l ++ s.data.toList).length]) rfl (by rw [List.length_append, ← size_data]; rfl) ?_
  refine AL.nil ?_
  refine Then.go ?_
  refine AW.seq ?_
  refine AW.region ?_
  refine AL.pure rfl rfl (by decide) (P_move rfl) ?_
  refine AL.pure rfl rfl (by decide) (P_lenStr ty9 rfl) ?_
  refine AL.pure rfl rfl (by decide) (P_assign rfl) ?_
  refine AL.pure rfl rfl (by decide) (P_assign rfl) ?_
  refine AL.nil ?_
  refine Then.go ?_
  refine AW.ret ?_
  refine ⟨(by exact .inr rfl), _, _, (.cons (.tmp rfl) (.cons (.tmp rfl) .nil)), (SubG.cons (l := 370) rfl (SubG.cons (l := 371) rfl SubG.nil)), ?_, rfl, rfl⟩
  exact ⟨rfl, rfl⟩
theorem C_Builder_String (l : List UInt8) (h0 : 0 < l.length) (hl : l.length ≤ 1000000000) : ACalls Tryz.prog 54 [.ptr 370 0] (bldG l) ([371]) (fun r G => r = vS (strL l) ∧ G = []) := by
  refine acalls_of_body 14 [370] Tryz.func54 rfl (by kernel_rfl) Tryz.ntmps54 (Nat.le_of_ble_eq_true rfl) rfl ?_
  refine AW.seq ?_
  refine AW.region ?_
  refine AL.pure rfl rfl (by decide) (P_assign rfl) ?_
  refine AL.nil ?_
  refine Then.go ?_
  refine AW.seq ?_
  refine AD.start ?_
  refine AD.op 0 3 [] _ rfl rfl rfl (B_pure (P_move rfl)) ?_
  refine AD.op 1 4 [0] _ rfl rfl rfl (B_pure (P_nilCheck rfl)) ?_
  refine AD.op 2 5 [0, 1] _ rfl rfl rfl (B_pure (P_fieldAddr ty105 rfl ty26 rfl)) ?_
  refine AD.op 3 6 [0, 1, 2] _ rfl rfl rfl (B_pure (P_load ty26 rfl rfl rfl rfl)) ?_
  refine AD.op 4 7 [0, 1, 2, 3] _ rfl rfl rfl (B_pure (P_sliceData rfl (by omega))) ?_
  refine AD.op 5 8 [] _ rfl rfl rfl (B_pure (P_move rfl)) ?_
  refine AD.op 6 9 [5] _ rfl rfl rfl (B_pure (P_nilCheck rfl)) ?_
  refine AD.op 7 10 [5, 6] _ rfl rfl rfl (B_pure (P_fieldAddr ty105 rfl ty26 rfl)) ?_
  refine AD.op 8 11 [5, 6, 7] _ rfl rfl rfl (B_pure (P_load ty26 rfl rfl rfl rfl)) ?_
  refine AD.op 9 12 [5, 6, 7, 8] _ rfl rfl rfl (B_pure (P_lenOwn ty26 rfl)) ?_
  refine AD.tail mixed rfl (by kernel_rfl) rfl ?_
  refine AL.eff rfl rfl (by decide) (E_unsafeString ty162 (by kernel_rfl) rfl rfl rfl rfl (by omega) (by omega) (by omega)) ?_
  refine AL.pure rfl rfl (by decide) (P_assign rfl) ?_
  refine AL.nil ?_
  refine Then.go ?_
  refine AW.ret ?_
  refine ⟨(by exact .inr rfl), _, _, (.cons (.tmp rfl) .nil), SubG.nil, ?_, rfl, rfl⟩
  (refine ⟨?_, rfl⟩; simp [oneOr, *])
theorem C_Builder_String_nil  : ACalls Tryz.prog 54 [.ptr 370 0] ([(370, .row 105 [nilP, .tr (.val (.slice none 0 0))])]) ([]) (fun r G => r = vS ⟨#[]⟩ ∧ G = []) := by
  refine acalls_of_body 14 [370] Tryz.func54 rfl (by kernel_rfl) Tryz.ntmps54 (Nat.le_of_ble_eq_true rfl) rfl ?_
  refine AW.seq ?_
  refine AW.region ?_
  refine AL.pure rfl rfl (by decide) (P_assign rfl) ?_
  refine AL.nil ?_
  refine Then.go ?_
  refine AW.seq ?_
  refine AD.start ?_
  refine AD.op 0 3 [] _ rfl rfl rfl (B_pure (P_move rfl)) ?_
  refine AD.op 1 4 [0] _ rfl rfl rfl (B_pure (P_nilCheck rfl)) ?_
  refine AD.op 2 5 [0, 1] _ rfl rfl rfl (B_pure (P_fieldAddr ty105 rfl ty26 rfl)) ?_
  refine AD.op 3 6 [0, 1, 2] _ rfl rfl rfl (B_pure (P_load ty26 rfl rfl rfl rfl)) ?_
  refine AD.op 4 7 [0, 1, 2, 3] _ rfl rfl rfl (B_pure (P_sliceDataNil rfl)) ?_
  refine AD.op 5 8 [] _ rfl rfl rfl (B_pure (P_move rfl)) ?_
  refine AD.op 6 9 [5] _ rfl rfl rfl (B_pure (P_nilCheck rfl)) ?_
  refine AD.op 7 10 [5, 6] _ rfl rfl rfl (B_pure (P_fieldAddr ty105 rfl ty26 rfl)) ?_
  refine AD.op 8 11 [5, 6, 7] _ rfl rfl rfl (B_pure (P_load ty26 rfl rfl rfl rfl)) ?_
  refine AD.op 9 12 [5, 6, 7, 8] _ rfl rfl rfl (B_pure (P_lenNil ty26 rfl)) ?_
  refine AD.tail mixed rfl (by kernel_rfl) rfl ?_
  refine AL.pure rfl rfl (by decide) (P_unsafeStringNil rfl rfl) ?_
  refine AL.pure rfl rfl (by decide) (P_assign rfl) ?_
  refine AL.nil ?_
  refine Then.go ?_
  refine AW.ret ?_
  refine ⟨(by exact .inr rfl), _, _, (.cons (.tmp rfl) .nil), SubG.nil, ?_, rfl, rfl⟩
  exact ⟨rfl, rfl⟩
end Go.Proofs.YtmakeajjgjnldaaGreatDoor
