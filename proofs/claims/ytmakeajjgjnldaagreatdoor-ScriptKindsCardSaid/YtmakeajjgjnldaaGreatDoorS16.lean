/- Walks, part 16: names, paths split. -/
import Derived.Test.YtmakeajjgjnldaaGreatDoorS15
import Derived.Test.YtmakeajjgjnldaaGreatDoorM4
set_option linter.unusedVariables false
set_option linter.unusedSimpArgs false
set_option maxRecDepth 100000
namespace Go.Proofs.YtmakeajjgjnldaaGreatDoor
open Go Go.Ab

theorem C_IndexByte (s : ByteArray) : ACalls Tryz.prog 278 [vS s, vI .u8 0] [] [] (fun r G => r = vI .i64 (Lib.indexByte s.data.toList 0) ∧ G = []) :=
  acalls_of_calls (vs0 := [.string s, .int .u8 0]) Tryz.func278 rfl (by kernel_rfl) (fun M ι w us h => by
      simp only [RAs, RA, RT] at h
      obtain ⟨u, us', rfl, rfl, v, vs, rfl, rfl, rfl⟩ := h
      rfl) (fun M ι w => by simp only [RA, RT]; rfl) (fun w => Tryz.strings_IndexByte s 0 w)
theorem C_Index_one (s : ByteArray) (c : UInt8) : ACalls Tryz.prog 372 [vS s, vS ⟨#[c]⟩] [] [] (fun r G => r = vI .i64 (Lib.indexByte s.data.toList c) ∧ G = []) :=
  acalls_of_calls (vs0 := [.string s, .string ⟨#[c]⟩]) Tryz.func372 rfl (by kernel_rfl) (fun M ι w us h => by
      simp only [RAs, RA, RT] at h
      obtain ⟨u, us', rfl, rfl, v, vs, rfl, rfl, rfl⟩ := h
      rfl) (fun M ι w => by simp only [RA, RT]) (fun w => Tryz.strings_Index_one s c w)
theorem C_Count_one (s : ByteArray) (c : UInt8) : ACalls Tryz.prog 371 [vS s, vS ⟨#[c]⟩] [] [] (fun r G => r = vI .i64 ((s.data.toList.count c : Nat) : Int) ∧ G = []) :=
  acalls_of_calls (vs0 := [.string s, .string ⟨#[c]⟩]) Tryz.func371 rfl (by kernel_rfl) (fun M ι w us h => by
      simp only [RAs, RA, RT] at h
      obtain ⟨u, us', rfl, rfl, v, vs, rfl, rfl, rfl⟩ := h
      rfl) (fun M ι w => by simp only [RA, RT]; rfl) (fun w => Tryz.strings_Count_one s c w)

/-- A text, parted at each byte c. -/
def spl (c : UInt8) (s : ByteArray) : List ByteArray := Lib.splitB ⟨#[c]⟩ 0 (s.data.toList.count c) s
theorem size_data (s : ByteArray) : s.size = s.data.toList.length := Array.length_toList.symm
theorem countB_eq (c : UInt8) (s : ByteArray) : Lib.countB s ⟨#[c]⟩ = s.data.toList.count c := Lib.count_one c _
theorem indexB_eq (c : UInt8) (s : ByteArray) : Lib.indexB s ⟨#[c]⟩ = Lib.indexByte s.data.toList c := Lib.index_one _ c
theorem spl_none {c : UInt8} {s : ByteArray} (h : s.data.toList.count c = 0) : spl c s = [s] := by simp [spl, h, Lib.splitB]
theorem spl_length (c : UInt8) (s : ByteArray) : (spl c s).length = s.data.toList.count c + 1 := Lib.splitB_all ⟨#[c]⟩ (Nat.le_refl 1) 0 _ s (countB_eq c s)
theorem spl_miss {c : UInt8} {s : ByteArray} (h : Lib.indexByte s.data.toList c < 0) : s.data.toList.count c = 0 := by
  rw [← countB_eq]
  refine Lib.countB_miss _ _ ?_
  rw [indexB_eq]
  have := Lib.indexByte_ge s.data.toList c
  omega
theorem spl_hit {c : UInt8} {s : ByteArray} {i : Nat} (h : Lib.indexByte s.data.toList c = i) : i + 1 ≤ s.size ∧ s.data.toList.count c = 1 + (s.extract (i + 1) s.size).data.toList.count c ∧ spl c s = s.extract 0 i :: spl c (s.extract (i + 1) s.size) := by
  have h2 : Lib.indexB s ⟨#[c]⟩ = i := (indexB_eq c s).trans h
  have h3 : i + 1 ≤ s.size := by
    rcases Lib.indexB_cases s ⟨#[c]⟩ with e | ⟨k, e, hk⟩
    · omega
    · have : (⟨#[c]⟩ : ByteArray).size = 1 := rfl
      omega
  have h4 := Lib.countB_hit s ⟨#[c]⟩ i (Nat.le_refl 1) h2
  rw [countB_eq, countB_eq] at h4
  refine ⟨h3, h4, ?_⟩
  unfold spl
  rw [h4, Nat.add_comm 1, Lib.splitB_hit _ _ _ _ i h2]
  rfl
theorem spl_count_le (c : UInt8) (s : ByteArray) : s.data.toList.count c ≤ s.size := by rw [size_data]; exact List.count_le_length

theorem tb9 : TyB Tryz.prog 9 16 := ⟨by kernel_rfl⟩
theorem tz9 : TyZ Tryz.prog 9 (.string ⟨#[]⟩) := ⟨by kernel_rfl⟩
theorem ty27 : TyIs Tryz.prog 27 (.slice 9) 1 := ⟨Tryz.underlying27, by kernel_rfl⟩
theorem ty435 : TyIs Tryz.prog 435 (.array 256 3) 256 := ⟨Tryz.underlying435, by kernel_rfl⟩
theorem tz435 : TyZ Tryz.prog 435 (.agg #[.int .i64 0, .int .i64 0, .int .i64 0, .int .i64 0, .int .i64 0, .int .i64 0, .int .i64 0, .int .i64 0, .int .i64 0, .int .i64 0, .int .i64 0, .int .i64 0, .int .i64 0, .int .i64 0, .int .i64 0, .int .i64 0, .int .i64 0, .int .i64 0, .int .i64 0, .int .i64 0, .int .i64 0, .int .i64 0, .int .i64 0, .int .i64 0, .int .i64 0, .int .i64 0, .int .i64 0, .int .i64 0, .int .i64 0, .int .i64 0, .int .i64 0, .int .i64 0, .int .i64 0, .int .i64 0, .int .i64 0, .int .i64 0, .int .i64 0, .int .i64 0, .int .i64 0, .int .i64 0, .int .i64 0, .int .i64 0, .int .i64 0, .int .i64 0, .int .i64 0, .int .i64 0, .int .i64 0, .int .i64 0, .int .i64 0, .int .i64 0, .int .i64 0, .int .i64 0, .int .i64 0, .int .i64 0, .int .i64 0, .int .i64 0, .int .i64 0, .int .i64 0, .int .i64 0, .int .i64 0, .int .i64 0, .int .i64 0, .int .i64 0, .int .i64 0, .int .i64 0, .int .i64 0, .int .i64 0, .int .i64 0, .int .i64 0, .int .i64 0, .int .i64 0, .int .i64 0, .int .i64 0, .int .i64 0, .int .i64 0, .int .i64 0, .int .i64 0, .int .i64 0, .int .i64 0, .int .i64 0, .int .i64 0, .int .i64 0, .int .i64 0, .int .i64 0, .int .i64 0, .int .i64 0, .int .i64 0, .int .i64 0, .int .i64 0, .int .i64 0, .int .i64 0, .int .i64 0, .int .i64 0, .int .i64 0, .int .i64 0, .int .i64 0, .int .i64 0, .int .i64 0, .int .i64 0, .int .i64 0, .int .i64 0, .int .i64 0, .int .i64 0, .int .i64 0, .int .i64 0, .int .i64 0, .int .i64 0, .int .i64 0, .int .i64 0, .int .i64 0, .int .i64 0, .int .i64 0, .int .i64 0, .int .i64 0, .int .i64 0, .int .i64 0, .int .i64 0, .int .i64 0, .int .i64 0, .int .i64 0, .int .i64 0, .int .i64 0, .int .i64 0, .int .i64 0, .int .i64 0, .int .i64 0, .int .i64 0, .int .i64 0, .int .i64 0, .int .i64 0, .int .i64 0, .int .i64 0, .int .i64 0, .int .i64 0, .int .i64 0, .int .i64 0, .int .i64 0, .int .i64 0, .int .i64 0, .int .i64 0, .int .i64 0, .int .i64 0, .int .i64 0, .int .i64 0, .int .i64 0, .int .i64 0, .int .i64 0, .int .i64 0, .int .i64 0, .int .i64 0, .int .i64 0, .int .i64 0, .int .i64 0, .int .i64 0, .int .i64 0, .int .i64 0, .int .i64 0, .int .i64 0, .int .i64 0, .int .i64 0, .int .i64 0, .int .i64 0, .int .i64 0, .int .i64 0, .int .i64 0, .int .i64 0, .int .i64 0, .int .i64 0, .int .i64 0, .int .i64 0, .int .i64 0, .int .i64 0, .int .i64 0, .int .i64 0, .int .i64 0, .int .i64 0, .int .i64 0, .int .i64 0, .int .i64 0, .int .i64 0, .int .i64 0, .int .i64 0, .int .i64 0, .int .i64 0, .int .i64 0, .int .i64 0, .int .i64 0, .int .i64 0, .int .i64 0, .int .i64 0, .int .i64 0, .int .i64 0, .int .i64 0, .int .i64 0, .int .i64 0, .int .i64 0, .int .i64 0, .int .i64 0, .int .i64 0, .int .i64 0, .int .i64 0, .int .i64 0, .int .i64 0, .int .i64 0, .int .i64 0, .int .i64 0, .int .i64 0, .int .i64 0, .int .i64 0, .int .i64 0, .int .i64 0, .int .i64 0, .int .i64 0, .int .i64 0, .int .i64 0, .int .i64 0, .int .i64 0, .int .i64 0, .int .i64 0, .int .i64 0, .int .i64 0, .int .i64 0, .int .i64 0, .int .i64 0, .int .i64 0, .int .i64 0, .int .i64 0, .int .i64 0, .int .i64 0, .int .i64 0, .int .i64 0, .int .i64 0, .int .i64 0, .int .i64 0, .int .i64 0, .int .i64 0, .int .i64 0, .int .i64 0, .int .i64 0, .int .i64 0, .int .i64 0, .int .i64 0, .int .i64 0, .int .i64 0, .int .i64 0, .int .i64 0, .int .i64 0, .int .i64 0, .int .i64 0, .int .i64 0, .int .i64 0, .int .i64 0, .int .i64 0, .int .i64 0, .int .i64 0, .int .i64 0]) := ⟨by kernel_rfl⟩


def splXs (P : List ByteArray) (m : Nat) : List Tr := P.map sT ++ List.replicate m (sT ⟨#[]⟩)
theorem splXs_length (P : List ByteArray) (m : Nat) : (splXs P m).length = P.length + m := by simp [splXs]
theorem splXs_set {P : List ByteArray} {m i : Nat} (x : ByteArray) (h : P.length = i) (hm : 0 < m) : (splXs P m).set i (sT x) = splXs (P ++ [x]) (m - 1) := by
  subst h
  obtain ⟨k, rfl⟩ : ∃ k, m = k + 1 := ⟨m - 1, by omega⟩
  simp [splXs, List.replicate_succ]
theorem splXs_take {P : List ByteArray} {m i : Nat} (h : P.length = i) : (splXs P m).take i = P.map sT := by subst h; simp [splXs]

theorem C_strings_genSplit (c : UInt8) (s : ByteArray) (hs : s.size ≤ 1000000000) : ACalls Tryz.prog 355 [vS s, vS ⟨#[c]⟩, vI .i64 0, vI .i64 (-1)] ([]) ([]) (fun r G => r = .tr (.sl 1 ((spl c s).map sT)) ∧ G = []) := by
  have hc := spl_count_le c s
  generalize hn : s.data.toList.count c = n at hc
  refine acalls_of_body 66 [] Tryz.func355 rfl (by kernel_rfl) Tryz.ntmps355 (Nat.le_of_ble_eq_true rfl) rfl ?_
  refine AW.seq ?_
  refine AW.region ?_
  refine AL.pure rfl rfl (by decide) (P_assign rfl) ?_
  refine AL.nil ?_
  refine Then.go ?_
  refine AW.seq ?_
  refine AW.seq ?_
  refine AW.region ?_
  refine AL.pure rfl rfl (by decide) (P_move rfl) ?_
  refine AL.pure rfl rfl (by decide) (P_eql rfl rfl) ?_
  refine AL.nil ?_
  refine Then.go ?_
  refine AW.condD _ rfl ?_ ?_
  · intro h1
    exfalso; omega
  · intro h1
    refine AW.skip ?_
    refine Then.go ?_
    refine AW.seq ?_
    refine AW.seq ?_
    refine AW.region ?_
    refine AL.pure rfl rfl (by decide) (P_move rfl) ?_
    refine AL.pure rfl rfl (by decide) (P_seqD rfl rfl) ?_
    refine AL.nil ?_
    refine Then.go ?_
    refine AW.condD _ rfl ?_ ?_
    · intro h2
      exfalso; simp_all
    · intro h2
      refine AW.skip ?_
      refine Then.go ?_
      refine AW.seq ?_
      refine AW.seq ?_
      refine AW.region ?_
      refine AL.pure rfl rfl (by decide) (P_move rfl) ?_
      refine AL.pure rfl rfl (by decide) (P_lss rfl rfl) ?_
      refine AL.nil ?_
      refine Then.go ?_
      refine AW.condD _ rfl ?_ ?_
      · intro h3
        refine AW.region ?_
        refine AL.pure rfl rfl (by decide) (P_move rfl) ?_
        refine AL.pure rfl rfl (by decide) (P_move rfl) ?_
        refine AL.call (C_Count_one s c ) _ [] [] _ rfl (by decide) rfl rfl rfl SubG.nil ?_
        rintro _ _ ⟨rfl, rfl⟩
        refine ⟨rfl, rfl, ?_⟩
        refine AL.pure rfl rfl (by decide) (P_addN rfl rfl (by omega) (by omega)) ?_
        refine AL.pure rfl rfl (by decide) (P_assign rfl) ?_
        refine AL.nil ?_
        refine Then.go ?_
        refine AW.seq ?_
        refine AW.region ?_
        refine AL.pure rfl rfl (by decide) (P_move rfl) ?_
        refine AL.pure rfl rfl (by decide) (P_move rfl) ?_
        refine AL.pure rfl rfl (by decide) (P_lenStr ty9 rfl) ?_
        refine AL.pure rfl rfl (by decide) (P_addN rfl rfl (by omega) (by omega)) ?_
        refine AL.pure rfl rfl (by decide) (P_min rfl rfl) ?_
        refine AL.recast 29 (vI .i64 ((n + 1 : Nat) : Int)) rfl (vI_congr (by rw [hn]; split <;> omega)) ?_
        refine AL.pure rfl rfl (by decide) (P_assign rfl) ?_
        refine AL.nil ?_
        refine Then.go ?_
        refine AW.seq ?_
        refine AW.region ?_
        refine AL.pure rfl rfl (by decide) (P_move rfl) ?_
        refine AL.eff rfl rfl (by decide) (E_make 131 ty27 ty9 tz9 tb9 rfl rfl rfl (by omega) rfl rfl rfl) ?_
        refine AL.recastO 131 (.els 9 1 (splXs [] (n + 1))) rfl rfl ?_
        refine AL.recast 31 (.own 1 131 0 (n + 1)) rfl rfl ?_
        refine AL.pure rfl rfl (by decide) (P_assign rfl) ?_
        refine AL.nil ?_
        refine Then.go ?_
        refine AW.seq ?_
        refine AW.region ?_
        refine AL.pure rfl rfl (by decide) (P_move rfl) ?_
        refine AL.pure rfl rfl (by decide) (P_subN rfl rfl (by omega) (by omega)) ?_
        refine AL.recast 33 (vI .i64 (n : Nat)) rfl (vI_congr (by omega)) ?_
        refine AL.pure rfl rfl (by decide) (P_assign rfl) ?_
        refine AL.nil ?_
        refine Then.go ?_
        refine AW.seq ?_
        refine AW.region ?_
        refine AL.pure rfl rfl (by decide) (P_assign rfl) ?_
        refine AL.nil ?_
        refine Then.go ?_
        refine AW.seq ?_
        refine AW.block ?_
        refine AW.loopK (σ := ByteArray × Nat × List ByteArray) [1, 2, 3, 8, 9] [] (.cons rfl (.cons rfl (.cons rfl (.cons rfl (.cons rfl .nil))))) .nil rfl (fun (z, i, P) => [(0, vS z), (10, vI .i64 (i : Nat))]) (fun (z, i, P) => [(131, .els 9 1 (splXs P (n + 1 - i)))]) (fun (z, i, P) => P.length = i ∧ spl c s = P ++ spl c z ∧ i + z.data.toList.count c = n ∧ z.size ≤ s.size) (fun (z, i, P) => n - i) ((s, 0, [])) ?_ ?_ ?_ ?_
        · skip
          exact ⟨rfl, rfl, by omega, Nat.le_refl _⟩
        · skip
          refine SubT.cons' (by decide) rfl ?_ ?_
          · skip
            rfl
          refine SubT.cons' (by decide) rfl ?_ ?_
          · skip
            rfl
          exact SubT.nil
        · skip
          refine SubG.cons' rfl ?_ ?_
          · skip
            rfl
          exact SubG.nil
        · rintro ⟨z, i, P⟩ hs
          try dsimp only at hs
          dsimp only [List.cons_append, List.nil_append]
          obtain ⟨i0, i1, i2, i3⟩ := hs
          refine AW.seq ?_
          refine AW.seq ?_
          refine AW.region ?_
          refine AL.pure rfl rfl (by decide) (P_move rfl) ?_
          refine AL.pure rfl rfl (by decide) (P_move rfl) ?_
          refine AL.pure rfl rfl (by decide) (P_lss rfl rfl) ?_
          refine AL.nil ?_
          refine Then.go ?_
          refine AW.condD _ rfl ?_ ?_
          · intro h5
            refine AW.skip ?_
            refine Then.go ?_
            refine AW.block ?_
            refine AW.seq ?_
            refine AW.region ?_
            refine AL.pure rfl rfl (by decide) (P_move rfl) ?_
            refine AL.pure rfl rfl (by decide) (P_move rfl) ?_
            refine AL.call (C_Index_one z c ) _ [] [] _ rfl (by decide) rfl rfl rfl SubG.nil ?_
            rintro _ _ ⟨rfl, rfl⟩
            refine ⟨rfl, rfl, ?_⟩
            refine AL.pure rfl rfl (by decide) (P_assign rfl) ?_
            refine AL.nil ?_
            refine Then.go ?_
            refine AW.seq ?_
            refine AW.seq ?_
            refine AW.region ?_
            refine AL.pure rfl rfl (by decide) (P_move rfl) ?_
            refine AL.pure rfl rfl (by decide) (P_lss rfl rfl) ?_
            refine AL.nil ?_
            refine Then.go ?_
            refine AW.condD _ rfl ?_ ?_
            · intro h6
              refine AW.exit ?_
              refine Then.e ?_
              refine InBlock.o rfl ?_
              refine Round.e ?_
              refine InBlock.e ?_
              refine Then.go ?_
              refine AW.seq ?_
              have hz : z.data.toList.count c = 0 := by first | omega | exact spl_miss (by omega)
              have hin : i = n := by omega
              subst hin
              refine AW.region ?_
              refine AL.pure rfl rfl (by decide) (P_move rfl) ?_
              refine AL.pure rfl rfl (by decide) (P_move rfl) ?_
              refine AL.pure rfl rfl (by decide) (P_move rfl) ?_
              refine AL.pure rfl rfl (by decide) (P_indexOwn1 ty27 ty9 rfl rfl (by omega)) ?_
              refine AL.eff0 rfl rfl (E_storeE1 ty9 rfl rfl rfl rfl (by omega) rfl) ?_
              refine AL.nil ?_
              refine Then.go ?_
              refine AW.seq ?_
              refine AW.region ?_
              refine AL.pure rfl rfl (by decide) (P_move rfl) ?_
              refine AL.pure rfl rfl (by decide) (P_move rfl) ?_
              refine AL.pure rfl rfl (by decide) (P_addN rfl rfl (by omega) (by omega)) ?_
              refine AL.pure rfl rfl (by decide) (P_sliceOH ty27 ty9 rfl rfl (by omega)) ?_
              refine AL.pure rfl rfl (by decide) (P_assign rfl) ?_
              refine AL.letGo 8 131 0 rfl rfl rfl (by decide) rfl (by omega) ?_
              refine AL.nil ?_
              refine Then.go ?_
              refine AW.ret ?_
              refine ⟨(by exact .inr rfl), _, _, (.cons (.tmp rfl) .nil), SubG.nil, ?_, rfl, rfl⟩
              refine ⟨sl_congr ?_, rfl⟩
              rw [List.drop_zero, i1, spl_none hz, ← splXs_take (P := P ++ [z]) (m := 0) (i := i + 1) (by simp [i0])]
              rw [splXs_set _ i0 (by omega)]
              rw [show i + 1 - i - 1 = 0 by omega]
              rfl
            · intro h6
              obtain ⟨k, hk⟩ : ∃ k : Nat, Lib.indexByte z.data.toList c = k := ⟨_, (Int.toNat_of_nonneg (by omega)).symm⟩
              obtain ⟨q1, q2, q3⟩ := spl_hit hk
              rw [hk]
              refine AW.skip ?_
              refine Then.go ?_
              refine AW.seq ?_
              refine AW.region ?_
              refine AL.pure rfl rfl (by decide) (P_move rfl) ?_
              refine AL.pure rfl rfl (by decide) (P_move rfl) ?_
              refine AL.pure rfl rfl (by decide) (P_move rfl) ?_
              refine AL.pure rfl rfl (by decide) (P_move rfl) ?_
              refine AL.pure rfl rfl (by decide) (P_move rfl) ?_
              refine AL.pure rfl rfl (by decide) (P_addN rfl rfl (by omega) (by omega)) ?_
              refine AL.pure rfl rfl (by decide) (P_sliceSH ty9 rfl rfl (by omega)) ?_
              refine AL.pure rfl rfl (by decide) (P_indexOwn1 ty27 ty9 rfl rfl (by omega)) ?_
              refine AL.eff0 rfl rfl (E_storeE1 ty9 rfl rfl rfl rfl (by (simp only [bs_length, List.length_map, List.length_append, List.length_replicate, List.length_set, List.length_take, List.length_nil, List.length_cons, splXs_length]; omega)) rfl) ?_
              refine AL.nil ?_
              refine Then.go ?_
              refine AW.seq ?_
              refine AW.region ?_
              refine AL.pure rfl rfl (by decide) (P_move rfl) ?_
              refine AL.pure rfl rfl (by decide) (P_move rfl) ?_
              refine AL.pure rfl rfl (by decide) (P_move rfl) ?_
              refine AL.pure rfl rfl (by decide) (P_lenStr ty9 rfl) ?_
              refine AL.recast 53 (vI .i64 1) rfl (vI_congr rfl) ?_
              refine AL.pure rfl rfl (by decide) (P_addN rfl rfl (by omega) (by omega)) ?_
              refine AL.pure rfl rfl (by decide) (P_sliceSL ty9 rfl rfl (by omega)) ?_
              refine AL.pure rfl rfl (by decide) (P_assign rfl) ?_
              refine AL.nil ?_
              refine Then.go ?_
              refine AW.region ?_
              refine AL.pure rfl rfl (by decide) (P_move rfl) ?_
              refine AL.pure rfl rfl (by decide) (P_addN rfl rfl (by omega) (by omega)) ?_
              refine AL.pure rfl rfl (by decide) (P_assign rfl) ?_
              refine AL.nil ?_
              refine InBlock.go ?_
              refine Round.go ((z.extract (k + 1) z.size, i + 1, P ++ [z.extract 0 k])) ?_ ?_ ?_ ?_
              · try dsimp only
                exact ⟨by simp [i0], by rw [i1, q3]; simp, by omega, by rw [ByteArray.size_extract]; omega⟩
              · try dsimp only
                omega
              · skip
                refine SubT.cons' (by decide) rfl ?_ ?_
                · skip
                  rfl
                refine SubT.cons' (by decide) rfl ?_ ?_
                · skip
                  rfl
                exact (SubT.cons (by decide) rfl (SubT.cons (by decide) rfl (SubT.cons (by decide) rfl (SubT.cons (by decide) rfl (SubT.cons (by decide) rfl SubT.nil)))))
              · skip
                refine SubG.cons' rfl ?_ ?_
                · skip
                  refine els_congr ?_
                  exact splXs_set _ i0 (by omega)
                exact SubG.nil
          · intro h5
            refine AW.exit ?_
            refine Then.e ?_
            refine Round.e ?_
            refine InBlock.e ?_
            refine Then.go ?_
            refine AW.seq ?_
            have hz : z.data.toList.count c = 0 := by first | omega | exact spl_miss (by omega)
            have hin : i = n := by omega
            subst hin
            refine AW.region ?_
            refine AL.pure rfl rfl (by decide) (P_move rfl) ?_
            refine AL.pure rfl rfl (by decide) (P_move rfl) ?_
            refine AL.pure rfl rfl (by decide) (P_move rfl) ?_
            refine AL.pure rfl rfl (by decide) (P_indexOwn1 ty27 ty9 rfl rfl (by omega)) ?_
            refine AL.eff0 rfl rfl (E_storeE1 ty9 rfl rfl rfl rfl (by (simp only [bs_length, List.length_map, List.length_append, List.length_replicate, List.length_set, List.length_take, List.length_nil, List.length_cons, splXs_length]; omega)) rfl) ?_
            refine AL.nil ?_
            refine Then.go ?_
            refine AW.seq ?_
            refine AW.region ?_
            refine AL.pure rfl rfl (by decide) (P_move rfl) ?_
            refine AL.pure rfl rfl (by decide) (P_move rfl) ?_
            refine AL.pure rfl rfl (by decide) (P_addN rfl rfl (by omega) (by omega)) ?_
            refine AL.pure rfl rfl (by decide) (P_sliceOH ty27 ty9 rfl rfl (by omega)) ?_
            refine AL.pure rfl rfl (by decide) (P_assign rfl) ?_
            refine AL.letGo 8 131 0 rfl rfl rfl (by decide) rfl (by (simp only [bs_length, List.length_map, List.length_append, List.length_replicate, List.length_set, List.length_take, List.length_nil, List.length_cons, splXs_length]; omega)) ?_
            refine AL.nil ?_
            refine Then.go ?_
            refine AW.ret ?_
            refine ⟨(by exact .inr rfl), _, _, (.cons (.tmp rfl) .nil), SubG.nil, ?_, rfl, rfl⟩
            refine ⟨sl_congr ?_, rfl⟩
            rw [List.drop_zero, i1, spl_none hz, ← splXs_take (P := P ++ [z]) (m := 0) (i := i + 1) (by simp [i0])]
            rw [splXs_set _ i0 (by omega)]
            rw [show i + 1 - i - 1 = 0 by omega]
            rfl
      · intro h3
        exfalso; omega
theorem C_strings_Split (c : UInt8) (s : ByteArray) (hs : s.size ≤ 1000000000) : ACalls Tryz.prog 328 [vS s, vS ⟨#[c]⟩] ([]) ([]) (fun r G => r = .tr (.sl 1 ((spl c s).map sT)) ∧ G = []) := by
  refine acalls_of_body 8 [] Tryz.func328 rfl (by kernel_rfl) Tryz.ntmps328 (Nat.le_of_ble_eq_true rfl) rfl ?_
  refine AW.seq ?_
  refine AW.region ?_
  refine AL.pure rfl rfl (by decide) (P_assign rfl) ?_
  refine AL.nil ?_
  refine Then.go ?_
  refine AW.seq ?_
  refine AW.region ?_
  refine AL.pure rfl rfl (by decide) (P_move rfl) ?_
  refine AL.pure rfl rfl (by decide) (P_move rfl) ?_
  refine AL.call (C_strings_genSplit _ _ (by assumption)) _ [] [] _ rfl (by decide) rfl rfl rfl SubG.nil ?_
  rintro _ _ ⟨rfl, rfl⟩
  refine ⟨rfl, rfl, ?_⟩
  refine AL.pure rfl rfl (by decide) (P_assign rfl) ?_
  refine AL.nil ?_
  refine Then.go ?_
  refine AW.ret ?_
  refine ⟨(by exact .inr rfl), _, _, (.cons (.tmp rfl) .nil), SubG.nil, ?_, rfl, rfl⟩
  exact ⟨rfl, rfl⟩

def rightName (s : ByteArray) : Bool := s.data.toList.all (fun x => decide (x ≠ 0 ∧ x ≠ 47)) && decide (1 ≤ (s.size : Int)) && decide ((s.size : Int) ≤ 32) && decide (s ≠ ⟨#[46]⟩) && decide (s ≠ ⟨#[46, 46]⟩)
theorem atB_mem {s : ByteArray} {i : Nat} (h : i < s.size) : atB s i ∈ s.data.toList := by
  have h2 : i < s.data.toList.length := by rw [← size_data]; exact h
  simp only [atB, List.getD, List.getElem?_eq_getElem h2, Option.getD_some]; exact List.getElem_mem _
theorem rightName_at {s : ByteArray} {i : Nat} (h : i < s.size) (hx : atB s i = 0 ∨ atB s i = 47) : rightName s = false := by
  have : s.data.toList.all (fun x => decide (x ≠ 0 ∧ x ≠ 47)) = false := by
    rw [List.all_eq_false]
    refine ⟨_, atB_mem h, fun q => ?_⟩
    have := of_decide_eq_true q
    rcases hx with e | e
    · exact this.1 e
    · exact this.2 e
  simp only [rightName, this, Bool.false_and]
theorem rightName_all {s : ByteArray} {i : Nat} (hi : ¬ (i : Int) < (s.size : Int)) (h : ∀ j, j < i → ¬ (atB s j = 0 ∨ atB s j = 47)) : rightName s = (decide (1 ≤ (s.size : Int)) && decide ((s.size : Int) ≤ 32) && decide (s ≠ ⟨#[46]⟩) && decide (s ≠ ⟨#[46, 46]⟩)) := by
  have : s.data.toList.all (fun x => decide (x ≠ 0 ∧ x ≠ 47)) = true := by
    rw [List.all_eq_true]
    intro x hx
    obtain ⟨j, hj, rfl⟩ := List.getElem_of_mem hx
    have := h j (by rw [← size_data] at hj; omega)
    simp only [atB, List.getD, List.getElem?_eq_getElem hj, Option.getD_some, not_or] at this
    exact decide_eq_true ⟨this.1, this.2⟩
  simp only [rightName, this, Bool.true_and]
def badT : List Tr := (List.range 256).map fun k => i8 (if k = 0 ∨ k = 47 then 1 else 0)
theorem badT_at (x : UInt8) : (badT.map AV.tr)[0 + x.toNat * 1]? = some (vI .i64 (if x = 0 ∨ x = 47 then 1 else 0)) := by
  have h := x.toNat_lt
  rw [Nat.zero_add, Nat.mul_one]
  simp only [badT, List.getElem?_map, List.getElem?_range h, Option.map_some]
  congr 3
  have e1 : (x.toNat = 0) ↔ x = 0 := ⟨fun e => UInt8.toNat_inj.1 e, fun e => by subst e; rfl⟩
  have e2 : (x.toNat = 47) ↔ x = 47 := ⟨fun e => UInt8.toNat_inj.1 e, fun e => by subst e; rfl⟩
  simp only [e1, e2]

theorem C_name_bad  : ACalls Tryz.prog 341 [] ([]) ([]) (fun r G => r = .tr (.agg badT) ∧ G = []) := by
  refine acalls_of_body 5 [] Tryz.func341 rfl (by kernel_rfl) Tryz.ntmps341 (Nat.le_of_ble_eq_true rfl) rfl ?_
  refine AW.seq ?_
  refine AW.region ?_
  refine AL.eff rfl rfl (by decide) (E_alloc 100 tz435 rfl rfl rfl) ?_
  refine AL.nil ?_
  refine Then.go ?_
  refine AW.seq ?_
  refine AW.region ?_
  refine AL.eff rfl rfl (by decide) (E_alloc 101 tz435 rfl rfl rfl) ?_
  refine AL.nil ?_
  refine Then.go ?_
  refine AW.seq ?_
  refine AW.region ?_
  refine AL.pure rfl rfl (by decide) (P_indexArr (j := 0) ty435 ty3 rfl rfl (by omega)) ?_
  refine AL.eff0 rfl rfl (E_store ty3 rfl rfl rfl rfl rfl (Nat.le_of_ble_eq_true rfl)) ?_
  refine AL.pure rfl rfl (by decide) (P_indexArr (j := 47) ty435 ty3 rfl rfl (by omega)) ?_
  refine AL.eff0 rfl rfl (E_store ty3 rfl rfl rfl rfl rfl (Nat.le_of_ble_eq_true rfl)) ?_
  refine AL.nil ?_
  refine Then.go ?_
  refine AW.seq ?_
  refine AW.region ?_
  refine AL.pure rfl rfl (by decide) (P_loadA ty435 rfl rfl rfl (Nat.le_of_ble_eq_true rfl)) ?_
  refine AL.eff0 rfl rfl (E_store ty435 rfl rfl rfl rfl rfl (Nat.le_of_ble_eq_true rfl)) ?_
  refine AL.nil ?_
  refine Then.go ?_
  refine AW.ret ?_
  refine ⟨(by exact .inr rfl), _, _, (.cons (.cellA rfl rfl ty435 rfl (Nat.le_of_ble_eq_true rfl)) .nil), SubG.nil, ?_, rfl, rfl⟩
  exact ⟨rfl, rfl⟩
theorem C_name_Right (s : ByteArray) (hs : s.size ≤ 1000000000) : ACalls Tryz.prog 300 [vS s] ([]) ([]) (fun r G => r = vB (rightName s) ∧ G = []) := by
  refine acalls_of_body 34 [] Tryz.func300 rfl (by kernel_rfl) Tryz.ntmps300 (Nat.le_of_ble_eq_true rfl) rfl ?_
  refine AW.seq ?_
  refine AW.region ?_
  refine AL.pure rfl rfl (by decide) (P_assign rfl) ?_
  refine AL.nil ?_
  refine Then.go ?_
  refine AW.seq ?_
  refine AW.region ?_
  refine AL.call (C_name_bad ) _ [] [] _ rfl (by decide) rfl rfl rfl SubG.nil ?_
  rintro _ _ ⟨rfl, rfl⟩
  refine ⟨rfl, rfl, ?_⟩
  refine AL.eff rfl rfl (by decide) (E_alloc 103 tz435 rfl rfl rfl) ?_
  refine AL.eff0 rfl rfl (E_store ty435 rfl rfl rfl rfl rfl (Nat.le_of_ble_eq_true rfl)) ?_
  refine AL.recastO 103 (.row 435 (badT.map AV.tr)) rfl rfl ?_
  refine AL.nil ?_
  refine Then.go ?_
  refine AW.seq ?_
  refine AW.seq ?_
  refine AW.region ?_
  refine AL.pure rfl rfl (by decide) (P_move rfl) ?_
  refine AL.pure rfl rfl (by decide) (P_lenStr ty9 rfl) ?_
  refine AL.pure rfl rfl (by decide) (P_move rfl) ?_
  refine AL.nil ?_
  refine Then.go ?_
  refine AW.block ?_
  refine AW.loopK (σ := Nat) [0, 3, 7] [103] (.cons rfl (.cons rfl (.cons rfl .nil))) (.cons rfl .nil) rfl (fun i => [(8, vI .i64 (i : Nat))]) (fun i => []) (fun i => i ≤ s.size ∧ ∀ j, j < i → ¬ (atB s j = 0 ∨ atB s j = 47)) (fun i => s.size - i) (0) ?_ ?_ ?_ ?_
  · skip
    exact ⟨by omega, fun j h => by omega⟩
  · skip
    refine SubT.cons' (by decide) rfl ?_ ?_
    · skip
      rfl
    exact SubT.nil
  · skip
    exact SubG.nil
  · rintro i hs
    try dsimp only at hs
    dsimp only [List.cons_append, List.nil_append]
    obtain ⟨i0, i1⟩ := hs
    refine AW.seq ?_
    refine AW.region ?_
    refine AL.pure rfl rfl (by decide) (P_lss rfl rfl) ?_
    refine AL.nil ?_
    refine Then.go ?_
    refine AW.seq ?_
    refine AW.condD _ rfl ?_ ?_
    · intro h2
      refine AW.skip ?_
      refine Then.go ?_
      refine AW.seq ?_
      refine AW.block ?_
      refine AW.seq ?_
      refine AW.region ?_
      refine AL.pure rfl rfl (by decide) (P_move rfl) ?_
      refine AL.pure rfl rfl (by decide) (P_assign rfl) ?_
      refine AL.nil ?_
      refine Then.go ?_
      refine AW.seq ?_
      refine AW.region ?_
      refine AL.pure rfl rfl (by decide) (P_move rfl) ?_
      refine AL.pure rfl rfl (by decide) (P_move rfl) ?_
      refine AL.pure rfl rfl (by decide) (P_indexStrG ty9 rfl rfl (by omega)) ?_
      have hb := UInt8.toNat_lt (atB s i)
      refine AL.pure rfl rfl (by decide) (P_indexArr (j := (atB s i).toNat) ty435 ty3 rfl rfl (by omega)) ?_
      refine AL.pure rfl rfl (by decide) (P_load ty3 rfl rfl rfl (badT_at _)) ?_
      refine AL.pure rfl rfl (by decide) (P_neq rfl rfl) ?_
      refine AL.nil ?_
      refine Then.go ?_
      refine AW.condN _ rfl ?_ ?_
      · intro h3
        have hx : atB s i = 0 ∨ atB s i = 47 := Classical.byContradiction fun e => by rw [if_neg e] at h3; omega
        refine AW.seq ?_
        refine AW.region ?_
        refine AL.pure rfl rfl (by decide) (P_assign rfl) ?_
        refine AL.nil ?_
        refine Then.go ?_
        refine AW.ret ?_
        refine InBlock.r ?_
        refine Then.r ?_
        refine Round.r ?_
        refine InBlock.r ?_
        refine Then.r ?_
        refine ⟨(by exact .inr rfl), _, _, (.cons (.tmp rfl) .nil), SubG.nil, ?_, rfl, rfl⟩
        refine ⟨vB_congr ?_, rfl⟩
        exact (rightName_at (by omega) hx).symm
      · intro h3
        have hx : ¬ (atB s i = 0 ∨ atB s i = 47) := by intro e; rw [if_pos e] at h3; omega
        refine AW.skip ?_
        refine InBlock.go ?_
        refine Then.go ?_
        refine AW.region ?_
        refine AL.pure rfl rfl (by decide) (P_addN rfl rfl (by omega) (by omega)) ?_
        refine AL.pure rfl rfl (by decide) (P_move rfl) ?_
        refine AL.nil ?_
        refine Round.go (i + 1) ?_ ?_ ?_ ?_
        · try dsimp only
          refine ⟨by omega, fun j h => ?_⟩
          by_cases e : j = i
          · subst e; exact hx
          · exact i1 j (by omega)
        · try dsimp only
          omega
        · skip
          refine SubT.cons' (by decide) rfl ?_ ?_
          · skip
            rfl
          exact (SubT.cons (by decide) rfl (SubT.cons (by decide) rfl (SubT.cons (by decide) rfl SubT.nil)))
        · skip
          exact (SubG.cons rfl SubG.nil)
    · intro h2
      refine AW.exit ?_
      refine Then.e ?_
      refine Round.e ?_
      refine InBlock.e ?_
      refine Then.go ?_
      refine AW.seq ?_
      refine AW.region ?_
      refine AL.pure rfl rfl (by decide) (P_move rfl) ?_
      refine AL.pure rfl rfl (by decide) (P_lenStr ty9 rfl) ?_
      refine AL.pure rfl rfl (by decide) (P_geq rfl rfl) ?_
      refine AL.pure rfl rfl (by decide) (P_move rfl) ?_
      refine AL.caseD (t := 21) _ rfl (by decide) ?_ ?_
      · intro h5
        refine AL.pure rfl rfl (by decide) (P_move rfl) ?_
        refine AL.pure rfl rfl (by decide) (P_lenStr ty9 rfl) ?_
        refine AL.pure rfl rfl (by decide) (P_leq rfl rfl) ?_
        refine AL.pure rfl rfl (by decide) (P_pickT rfl rfl) ?_
        refine AL.pure rfl rfl (by decide) (P_move rfl) ?_
        refine AL.caseD (t := 26) _ rfl (by decide) ?_ ?_
        · intro h7
          refine AL.pure rfl rfl (by decide) (P_move rfl) ?_
          refine AL.pure rfl rfl (by decide) (P_sneD rfl rfl) ?_
          refine AL.pure rfl rfl (by decide) (P_pickT rfl rfl) ?_
          refine AL.pure rfl rfl (by decide) (P_move rfl) ?_
          refine AL.caseN (t := 30) _ rfl (by decide) ?_ ?_
          · intro h8
            refine AL.pure rfl rfl (by decide) (P_move rfl) ?_
            refine AL.pure rfl rfl (by decide) (P_sneD rfl rfl) ?_
            refine AL.pure rfl rfl (by decide) (P_pickT rfl rfl) ?_
            refine AL.pure rfl rfl (by decide) (P_assign rfl) ?_
            refine AL.nil ?_
            refine Then.go ?_
            refine AW.ret ?_
            refine ⟨(by exact .inr rfl), _, _, (.cons (.tmp rfl) .nil), SubG.nil, ?_, rfl, rfl⟩
            refine ⟨vB_congr ?_, rfl⟩
            (rw [rightName_all h2 i1]; simp [*]; done)
          · intro h8
            refine AL.not rfl rfl (by decide) ?_
            refine AL.not rfl rfl (by decide) ?_
            refine AL.pure rfl rfl (by decide) (P_pickF rfl rfl) ?_
            refine AL.pure rfl rfl (by decide) (P_assign rfl) ?_
            refine AL.nil ?_
            refine Then.go ?_
            refine AW.ret ?_
            refine ⟨(by exact .inr rfl), _, _, (.cons (.tmp rfl) .nil), SubG.nil, ?_, rfl, rfl⟩
            refine ⟨vB_congr ?_, rfl⟩
            (rw [rightName_all h2 i1]; simp [*]; done)
        · intro h7
          refine AL.not rfl rfl (by decide) ?_
          refine AL.not rfl rfl (by decide) ?_
          refine AL.pure rfl rfl (by decide) (P_pickF rfl rfl) ?_
          refine AL.pure rfl rfl (by decide) (P_move rfl) ?_
          refine AL.not rfl rfl (by decide) ?_
          refine AL.not rfl rfl (by decide) ?_
          refine AL.pure rfl rfl (by decide) (P_pickF rfl rfl) ?_
          refine AL.pure rfl rfl (by decide) (P_assign rfl) ?_
          refine AL.nil ?_
          refine Then.go ?_
          refine AW.ret ?_
          refine ⟨(by exact .inr rfl), _, _, (.cons (.tmp rfl) .nil), SubG.nil, ?_, rfl, rfl⟩
          refine ⟨vB_congr ?_, rfl⟩
          (rw [rightName_all h2 i1]; simp [*]; done)
      · intro h5
        refine AL.not rfl rfl (by decide) ?_
        refine AL.not rfl rfl (by decide) ?_
        refine AL.not rfl rfl (by decide) ?_
        refine AL.pure rfl rfl (by decide) (P_pickF rfl rfl) ?_
        refine AL.pure rfl rfl (by decide) (P_move rfl) ?_
        refine AL.not rfl rfl (by decide) ?_
        refine AL.not rfl rfl (by decide) ?_
        refine AL.pure rfl rfl (by decide) (P_pickF rfl rfl) ?_
        refine AL.pure rfl rfl (by decide) (P_move rfl) ?_
        refine AL.not rfl rfl (by decide) ?_
        refine AL.not rfl rfl (by decide) ?_
        refine AL.pure rfl rfl (by decide) (P_pickF rfl rfl) ?_
        refine AL.pure rfl rfl (by decide) (P_assign rfl) ?_
        refine AL.nil ?_
        refine Then.go ?_
        refine AW.ret ?_
        refine ⟨(by exact .inr rfl), _, _, (.cons (.tmp rfl) .nil), SubG.nil, ?_, rfl, rfl⟩
        refine ⟨vB_congr ?_, rfl⟩
        (rw [rightName_all h2 i1]; simp [*]; done)

theorem size_zero {s : ByteArray} (h : s.size = 0) : s = ⟨#[]⟩ := by
  cases s with
  | mk a => have : a.size = 0 := h; rw [Array.size_eq_zero_iff] at this; rw [this]
abbrev emS : ByteArray := ⟨#[]⟩
def skipN (s : ByteArray) : Bool := decide (s = ⟨#[]⟩) || decide (s = ⟨#[46]⟩)
def badN (s : ByteArray) : Bool := !decide (s = ⟨#[46, 46]⟩) && !rightName s
def partsF : List ByteArray → Option (List ByteArray)
  | [] => some []
  | s :: l => if skipN s = true then partsF l else if badN s = true then none else (partsF l).map (s :: ·)
def partsN (t : ByteArray) : Option (List ByteArray) := if t = ⟨#[]⟩ ∨ 400 < (t.size : Int) ∨ 0 ≤ Lib.indexByte t.data.toList 0 then none else partsF (spl 47 t)
theorem splitB_size (sep : ByteArray) (n : Nat) : ∀ (k : Nat) (s : ByteArray), s.size ≤ n → ∀ x ∈ Lib.splitB sep 0 k s, x.size ≤ n
  | 0, s, h, x, hx => by simp [Lib.splitB] at hx; subst hx; exact h
  | k + 1, s, h, x, hx => by
    rw [Lib.splitB] at hx
    split at hx
    · simp at hx; subst hx; exact h
    · rcases List.mem_cons.1 hx with rfl | hx
      · rw [ByteArray.size_extract]; omega
      · exact splitB_size sep n k _ (by rw [ByteArray.size_extract]; omega) x hx
theorem spl_size {c : UInt8} {s x : ByteArray} (h : x ∈ spl c s) : x.size ≤ s.size := splitB_size _ _ _ _ (Nat.le_refl _) x h
theorem partsF_drop {l : List ByteArray} {i : Nat} {P : List ByteArray} (hi : i < l.length) (h : partsF l = (partsF (l.drop i)).map (P ++ ·)) :
    (skipN (l.getD i emS) = true → partsF l = (partsF (l.drop (i + 1))).map (P ++ ·)) ∧ (skipN (l.getD i emS) = false → badN (l.getD i emS) = true → partsF l = none) ∧
    (skipN (l.getD i emS) = false → badN (l.getD i emS) = false → partsF l = (partsF (l.drop (i + 1))).map ((P ++ [l.getD i emS]) ++ ·)) := by
  have hg : l.getD i emS = l[i] := by simp [List.getD, hi]
  rw [hg, h, List.drop_eq_getElem_cons hi, partsF]
  refine ⟨fun e => by rw [if_pos e], fun e f => by simp [e, f], fun e f => ?_⟩
  rw [if_neg (by simp [e]), if_neg (by simp [f]), Option.map_map]
  congr 1
  funext x
  simp

theorem C_name_Parts (t : ByteArray) (hs : t.size ≤ 1000000000) : ACalls Tryz.prog 286 [vS t] ([]) ([]) (fun r G => r = .tup [.tr (.sl 1 (((partsN t).getD []).map sT)), vB ((partsN t).isSome && decide (((atB t 0).toNat : Int) = 47)), vI .i64 (if (partsN t).isSome then 0 else 17)] ∧ G = []) := by
  refine acalls_of_body 51 [] Tryz.func286 rfl (by kernel_rfl) Tryz.ntmps286 (Nat.le_of_ble_eq_true rfl) rfl ?_
  refine AW.seq ?_
  refine AW.region ?_
  refine AL.pure rfl rfl (by decide) (P_assign rfl) ?_
  refine AL.pure rfl rfl (by decide) (P_assign rfl) ?_
  refine AL.pure rfl rfl (by decide) (P_assign rfl) ?_
  refine AL.nil ?_
  refine Then.go ?_
  refine AW.seq ?_
  refine AW.seq ?_
  refine AW.region ?_
  refine AL.pure rfl rfl (by decide) (P_move rfl) ?_
  refine AL.pure rfl rfl (by decide) (P_seqD rfl rfl) ?_
  refine AL.pure rfl rfl (by decide) (P_move rfl) ?_
  refine AL.caseD (t := 10) _ rfl (by decide) ?_ ?_
  · intro h1
    refine AL.not rfl rfl (by decide) ?_
    refine AL.not rfl rfl (by decide) ?_
    refine AL.not rfl rfl (by decide) ?_
    refine AL.pure rfl rfl (by decide) (P_pickT rfl rfl) ?_
    refine AL.pure rfl rfl (by decide) (P_move rfl) ?_
    refine AL.not rfl rfl (by decide) ?_
    refine AL.not rfl rfl (by decide) ?_
    refine AL.not rfl rfl (by decide) ?_
    refine AL.pure rfl rfl (by decide) (P_pickT rfl rfl) ?_
    refine AL.nil ?_
    refine Then.go ?_
    refine AW.condT rfl ?_
    refine AW.seq ?_
    refine AW.region ?_
    refine AL.pure rfl rfl (by decide) (P_assign rfl) ?_
    refine AL.pure rfl rfl (by decide) (P_assign rfl) ?_
    refine AL.pure rfl rfl (by decide) (P_assign rfl) ?_
    refine AL.nilS 2 1 rfl ?_
    refine AL.nil ?_
    refine Then.go ?_
    refine AW.ret ?_
    refine Then.r ?_
    refine ⟨(by exact .inr rfl), _, _, (.cons (.tmp rfl) (.cons (.tmp rfl) (.cons (.tmp rfl) .nil))), SubG.nil, ?_, rfl, rfl⟩
    first
      | (exfalso; contradiction)
      | (rw [show partsN t = none from if_pos (by exact .inl (by assumption))]; exact ⟨rfl, rfl⟩)
      | (rw [show partsN t = none from (if_neg (by rintro (q | q | q) <;> contradiction)).trans (d2 e f)]; exact ⟨rfl, rfl⟩)
      | (rw [partsN, if_neg (by rintro (q | q | q) <;> contradiction), i2, List.drop_of_length_le (by omega), partsF, Option.map_some, List.append_nil]; exact ⟨rfl, rfl⟩)
  · intro h1
    refine AL.pure rfl rfl (by decide) (P_move rfl) ?_
    refine AL.pure rfl rfl (by decide) (P_lenStr ty9 rfl) ?_
    refine AL.pure rfl rfl (by decide) (P_gtr rfl rfl) ?_
    refine AL.pure rfl rfl (by decide) (P_pickF rfl rfl) ?_
    refine AL.pure rfl rfl (by decide) (P_move rfl) ?_
    refine AL.caseD (t := 15) _ rfl (by decide) ?_ ?_
    · intro h3
      refine AL.not rfl rfl (by decide) ?_
      refine AL.not rfl rfl (by decide) ?_
      refine AL.not rfl rfl (by decide) ?_
      refine AL.pure rfl rfl (by decide) (P_pickT rfl rfl) ?_
      refine AL.nil ?_
      refine Then.go ?_
      refine AW.condT rfl ?_
      refine AW.seq ?_
      refine AW.region ?_
      refine AL.pure rfl rfl (by decide) (P_assign rfl) ?_
      refine AL.pure rfl rfl (by decide) (P_assign rfl) ?_
      refine AL.pure rfl rfl (by decide) (P_assign rfl) ?_
      refine AL.nilS 2 1 rfl ?_
      refine AL.nil ?_
      refine Then.go ?_
      refine AW.ret ?_
      refine Then.r ?_
      refine ⟨(by exact .inr rfl), _, _, (.cons (.tmp rfl) (.cons (.tmp rfl) (.cons (.tmp rfl) .nil))), SubG.nil, ?_, rfl, rfl⟩
      first
        | (exfalso; contradiction)
        | (rw [show partsN t = none from if_pos (by exact .inr (.inl (by assumption)))]; exact ⟨rfl, rfl⟩)
        | (rw [show partsN t = none from (if_neg (by rintro (q | q | q) <;> contradiction)).trans (d2 e f)]; exact ⟨rfl, rfl⟩)
        | (rw [partsN, if_neg (by rintro (q | q | q) <;> contradiction), i2, List.drop_of_length_le (by omega), partsF, Option.map_some, List.append_nil]; exact ⟨rfl, rfl⟩)
    · intro h3
      refine AL.pure rfl rfl (by decide) (P_move rfl) ?_
      refine AL.call (C_IndexByte t ) _ [] [] _ rfl (by decide) rfl rfl rfl SubG.nil ?_
      rintro _ _ ⟨rfl, rfl⟩
      refine ⟨rfl, rfl, ?_⟩
      refine AL.pure rfl rfl (by decide) (P_geq rfl rfl) ?_
      refine AL.pure rfl rfl (by decide) (P_pickF rfl rfl) ?_
      refine AL.nil ?_
      refine Then.go ?_
      refine AW.condD _ rfl ?_ ?_
      · intro h4
        refine AW.seq ?_
        refine AW.region ?_
        refine AL.pure rfl rfl (by decide) (P_assign rfl) ?_
        refine AL.pure rfl rfl (by decide) (P_assign rfl) ?_
        refine AL.pure rfl rfl (by decide) (P_assign rfl) ?_
        refine AL.nilS 2 1 rfl ?_
        refine AL.nil ?_
        refine Then.go ?_
        refine AW.ret ?_
        refine Then.r ?_
        refine ⟨(by exact .inr rfl), _, _, (.cons (.tmp rfl) (.cons (.tmp rfl) (.cons (.tmp rfl) .nil))), SubG.nil, ?_, rfl, rfl⟩
        first
          | (exfalso; contradiction)
          | (rw [show partsN t = none from if_pos (by exact .inr (.inr (by assumption)))]; exact ⟨rfl, rfl⟩)
          | (rw [show partsN t = none from (if_neg (by rintro (q | q | q) <;> contradiction)).trans (d2 e f)]; exact ⟨rfl, rfl⟩)
          | (rw [partsN, if_neg (by rintro (q | q | q) <;> contradiction), i2, List.drop_of_length_le (by omega), partsF, Option.map_some, List.append_nil]; exact ⟨rfl, rfl⟩)
      · intro h4
        refine AW.skip ?_
        refine Then.go ?_
        refine AW.seq ?_
        refine AW.region ?_
        refine AL.pure rfl rfl (by decide) (P_assign rfl) ?_
        refine AL.ghost 5 203 9 1 rfl rfl rfl rfl ?_
        refine AL.nil ?_
        refine Then.go ?_
        refine AW.seq ?_
        refine AW.seq ?_
        refine AW.region ?_
        refine AL.pure rfl rfl (by decide) (P_move rfl) ?_
        refine AL.call (C_strings_Split 47 t (by omega) ) _ [] [] _ rfl (by decide) rfl rfl rfl SubG.nil ?_
        rintro _ _ ⟨rfl, rfl⟩
        refine ⟨rfl, rfl, ?_⟩
        have hl := spl_length 47 t
        have hc := spl_count_le 47 t
        refine AL_lenM rfl rfl (by decide) ty27 rfl fun h5 => ?_
        try simp only [bs_length, List.length_map, List.length_append, List.length_replicate, List.length_cons, List.length_nil, List.length_take, List.length_set] at h5
        refine AL.pure rfl rfl (by decide) (P_move rfl) ?_
        refine AL.nil ?_
        refine Then.go ?_
        refine AW.block ?_
        refine AW.loopK (σ := Nat × List ByteArray) [0, 21, 22] [] (.cons rfl (.cons rfl (.cons rfl .nil))) .nil rfl (fun (i, P) => [(23, vI .i64 (i : Nat)), (5, .own 1 203 0 P.length)]) (fun (i, P) => [(203, .els 9 1 (P.map sT))]) (fun (i, P) => i ≤ (spl 47 t).length ∧ P.length ≤ i ∧ partsF (spl 47 t) = (partsF ((spl 47 t).drop i)).map (P ++ ·)) (fun (i, P) => (spl 47 t).length - i) ((0, [])) ?_ ?_ ?_ ?_
        · skip
          exact ⟨by omega, by simp, by simp⟩
        · skip
          refine SubT.cons' (by decide) rfl ?_ ?_
          · skip
            rfl
          refine SubT.cons' (by decide) rfl ?_ ?_
          · skip
            rfl
          exact SubT.nil
        · skip
          refine SubG.cons' rfl ?_ ?_
          · skip
            rfl
          exact SubG.nil
        · rintro ⟨i, P⟩ hs
          try dsimp only at hs
          dsimp only [List.cons_append, List.nil_append]
          obtain ⟨i0, i1, i2⟩ := hs
          refine AW.seq ?_
          refine AW.region ?_
          refine AL.pure rfl rfl (by decide) (P_lss rfl rfl) ?_
          refine AL.nil ?_
          refine Then.go ?_
          refine AW.seq ?_
          refine AW.condD _ rfl ?_ ?_
          · intro h6
            have hm := spl_size (getD_mem emS (show i < (spl 47 t).length by omega))
            obtain ⟨d1, d2, d3⟩ := partsF_drop (by omega) i2
            refine AW.skip ?_
            refine Then.go ?_
            refine AW.seq ?_
            refine AW.block ?_
            refine AW.seq ?_
            refine AW.region ?_
            refine AL.pure rfl rfl (by decide) (P_indexSl ty27 ty9 rfl rfl (by exact map_at emS (by omega)) (by rfl)) ?_
            refine AL.pure rfl rfl (by decide) (P_loadR ty9 rfl rfl rfl) ?_
            generalize hx : (spl 47 t).getD i emS = x at hm d1 d2 d3 ⊢
            refine AL.pure rfl rfl (by decide) (P_assign rfl) ?_
            refine AL.nil ?_
            refine Then.go ?_
            refine AW.seq ?_
            refine AW.block ?_
            refine AW.seq ?_
            refine AW.region ?_
            refine AL.pure rfl rfl (by decide) (P_move rfl) ?_
            refine AL.pure rfl rfl (by decide) (P_seqD rfl rfl) ?_
            refine AL.pure rfl rfl (by decide) (P_move rfl) ?_
            refine AL.caseD (t := 30) _ rfl (by decide) ?_ ?_
            · intro h7
              refine AL.not rfl rfl (by decide) ?_
              refine AL.not rfl rfl (by decide) ?_
              refine AL.pure rfl rfl (by decide) (P_pickT rfl rfl) ?_
              refine AL.pure rfl rfl (by decide) (P_assign rfl) ?_
              refine AL.nil ?_
              refine Then.go ?_
              refine AW.condT rfl ?_
              have e : skipN x = true := by simp only [skipN, *, decide_true, Bool.true_or, Bool.or_true]
              refine AW.exit ?_
              refine InBlock.o rfl ?_
              refine Then.e ?_
              refine InBlock.e ?_
              refine Then.go ?_
              refine AW.region ?_
              refine AL.pure rfl rfl (by decide) (P_addN rfl rfl (by omega) (by omega)) ?_
              refine AL.pure rfl rfl (by decide) (P_move rfl) ?_
              refine AL.nil ?_
              refine Round.go ((i + 1, if skipN x = true then P else P ++ [x])) ?_ ?_ ?_ ?_
              · try dsimp only
                first
                  | (rw [if_pos e]; exact ⟨by omega, by omega, d1 e⟩)
                  | (rw [e, if_neg Bool.false_ne_true]; exact ⟨by omega, by simp; omega, d3 e f⟩)
              · try dsimp only
                omega
              · skip
                refine SubT.cons' (by decide) rfl ?_ ?_
                · skip
                  rfl
                refine SubT.cons' (by decide) rfl ?_ ?_
                · skip
                  (rw [if_pos e]; done)
                exact (SubT.cons (by decide) rfl (SubT.cons (by decide) rfl (SubT.cons (by decide) rfl SubT.nil)))
              · skip
                refine SubG.cons' rfl ?_ ?_
                · skip
                  (rw [if_pos e]; done)
                exact SubG.nil
            · intro h7
              refine AL.pure rfl rfl (by decide) (P_move rfl) ?_
              refine AL.pure rfl rfl (by decide) (P_seqD rfl rfl) ?_
              refine AL.pure rfl rfl (by decide) (P_pickF rfl rfl) ?_
              refine AL.pure rfl rfl (by decide) (P_assign rfl) ?_
              refine AL.nil ?_
              refine Then.go ?_
              refine AW.condD _ rfl ?_ ?_
              · intro h8
                have e : skipN x = true := by simp only [skipN, *, decide_true, Bool.true_or, Bool.or_true]
                refine AW.exit ?_
                refine InBlock.o rfl ?_
                refine Then.e ?_
                refine InBlock.e ?_
                refine Then.go ?_
                refine AW.region ?_
                refine AL.pure rfl rfl (by decide) (P_addN rfl rfl (by omega) (by omega)) ?_
                refine AL.pure rfl rfl (by decide) (P_move rfl) ?_
                refine AL.nil ?_
                refine Round.go ((i + 1, if skipN x = true then P else P ++ [x])) ?_ ?_ ?_ ?_
                · try dsimp only
                  first
                    | (rw [if_pos e]; exact ⟨by omega, by omega, d1 e⟩)
                    | (rw [e, if_neg Bool.false_ne_true]; exact ⟨by omega, by simp; omega, d3 e f⟩)
                · try dsimp only
                  omega
                · skip
                  refine SubT.cons' (by decide) rfl ?_ ?_
                  · skip
                    rfl
                  refine SubT.cons' (by decide) rfl ?_ ?_
                  · skip
                    (rw [if_pos e]; done)
                  exact (SubT.cons (by decide) rfl (SubT.cons (by decide) rfl (SubT.cons (by decide) rfl SubT.nil)))
                · skip
                  refine SubG.cons' rfl ?_ ?_
                  · skip
                    (rw [if_pos e]; done)
                  exact SubG.nil
              · intro h8
                have e : skipN x = false := by simp only [skipN, *, decide_false, Bool.or_self]
                refine AW.seq ?_
                refine AW.region ?_
                refine AL.pure rfl rfl (by decide) (P_move rfl) ?_
                refine AL.pure rfl rfl (by decide) (P_sneD rfl rfl) ?_
                refine AL.pure rfl rfl (by decide) (P_move rfl) ?_
                refine AL.caseN (t := 37) _ rfl (by decide) ?_ ?_
                · intro h9
                  refine AL.pure rfl rfl (by decide) (P_move rfl) ?_
                  refine AL.call (C_name_Right x (by omega) ) _ [] [] _ rfl (by decide) rfl rfl rfl SubG.nil ?_
                  rintro _ _ ⟨rfl, rfl⟩
                  refine ⟨rfl, rfl, ?_⟩
                  refine AL.pure rfl rfl (by decide) (P_not rfl) ?_
                  refine AL.pure rfl rfl (by decide) (P_pickT rfl rfl) ?_
                  refine AL.pure rfl rfl (by decide) (P_assign rfl) ?_
                  refine AL.nil ?_
                  refine Then.go ?_
                  refine AW.cond _ rfl ?_ ?_
                  · intro h10
                    have f : badN x = true := by simp_all [badN]
                    refine AW.seq ?_
                    refine AW.region ?_
                    refine AL.pure rfl rfl (by decide) (P_assign rfl) ?_
                    refine AL.pure rfl rfl (by decide) (P_assign rfl) ?_
                    refine AL.pure rfl rfl (by decide) (P_assign rfl) ?_
                    refine AL.nilS 2 1 rfl ?_
                    refine AL.nil ?_
                    refine Then.go ?_
                    refine AW.ret ?_
                    refine InBlock.r ?_
                    refine Then.r ?_
                    refine InBlock.r ?_
                    refine Then.r ?_
                    refine Round.r ?_
                    refine InBlock.r ?_
                    refine Then.r ?_
                    refine ⟨(by exact .inr rfl), _, _, (.cons (.tmp rfl) (.cons (.tmp rfl) (.cons (.tmp rfl) .nil))), SubG.nil, ?_, rfl, rfl⟩
                    first
                      | (exfalso; contradiction)
                      | (rw [show partsN t = none from if_pos (by first | exact .inl (by assumption) | exact .inr (.inl (by assumption)) | exact .inr (.inr (by assumption)))]; exact ⟨rfl, rfl⟩)
                      | (rw [show partsN t = none from (if_neg (by rintro (q | q | q) <;> contradiction)).trans (d2 e f)]; exact ⟨rfl, rfl⟩)
                      | (rw [partsN, if_neg (by rintro (q | q | q) <;> contradiction), i2, List.drop_of_length_le (by omega), partsF, Option.map_some, List.append_nil]; exact ⟨rfl, rfl⟩)
                  · intro h10
                    have f : badN x = false := by simp_all [badN]
                    refine AW.skip ?_
                    refine InBlock.go ?_
                    refine Then.go ?_
                    refine AW.region ?_
                    refine AL.pure rfl rfl (by decide) (P_move rfl) ?_
                    refine AL.pure rfl rfl (by decide) (P_move rfl) ?_
                    refine AL.mk rfl rfl (by decide) (E_lit ty27 ty9 tz9 rfl rfl) ?_
                    refine AL.eff rfl rfl (by decide) (E_append ty27 ty9 tz9 tb9 rfl rfl rfl rfl rfl (by (simp only [bs_length, List.length_map, List.length_append, List.length_replicate, List.length_set, List.length_take, List.length_nil, List.length_cons]; omega)) (by (simp only [bs_length, List.length_map, List.length_append, List.length_replicate, List.length_set, List.length_take, List.length_nil, List.length_cons]; omega))) ?_
                    refine AL.pure rfl rfl (by decide) (P_assign rfl) ?_
                    refine AL.nil ?_
                    refine InBlock.go ?_
                    refine Then.go ?_
                    refine AW.region ?_
                    refine AL.pure rfl rfl (by decide) (P_addN rfl rfl (by omega) (by omega)) ?_
                    refine AL.pure rfl rfl (by decide) (P_move rfl) ?_
                    refine AL.nil ?_
                    refine Round.go ((i + 1, if skipN x = true then P else P ++ [x])) ?_ ?_ ?_ ?_
                    · try dsimp only
                      first
                        | (rw [if_pos e]; exact ⟨by omega, by omega, d1 e⟩)
                        | (rw [e, if_neg Bool.false_ne_true]; exact ⟨by omega, by simp; omega, d3 e f⟩)
                    · try dsimp only
                      omega
                    · skip
                      refine SubT.cons' (by decide) rfl ?_ ?_
                      · skip
                        rfl
                      refine SubT.cons' (by decide) rfl ?_ ?_
                      · skip
                        (rw [e, if_neg Bool.false_ne_true, List.length_append]; rfl)
                      exact (SubT.cons (by decide) rfl (SubT.cons (by decide) rfl (SubT.cons (by decide) rfl SubT.nil)))
                    · skip
                      refine SubG.cons' rfl ?_ ?_
                      · skip
                        (rw [e, if_neg Bool.false_ne_true, List.map_append]; refine els_congr ?_; rw [List.take_of_length_le (by simp)]; rfl)
                      exact SubG.nil
                · intro h9
                  refine AL.not rfl rfl (by decide) ?_
                  refine AL.not rfl rfl (by decide) ?_
                  refine AL.not rfl rfl (by decide) ?_
                  refine AL.pure rfl rfl (by decide) (P_pickF rfl rfl) ?_
                  refine AL.pure rfl rfl (by decide) (P_assign rfl) ?_
                  refine AL.nil ?_
                  refine Then.go ?_
                  refine AW.condF rfl ?_
                  have f : badN x = false := by simp_all [badN]
                  refine AW.skip ?_
                  refine InBlock.go ?_
                  refine Then.go ?_
                  refine AW.region ?_
                  refine AL.pure rfl rfl (by decide) (P_move rfl) ?_
                  refine AL.pure rfl rfl (by decide) (P_move rfl) ?_
                  refine AL.mk rfl rfl (by decide) (E_lit ty27 ty9 tz9 rfl rfl) ?_
                  refine AL.eff rfl rfl (by decide) (E_append ty27 ty9 tz9 tb9 rfl rfl rfl rfl rfl (by (simp only [bs_length, List.length_map, List.length_append, List.length_replicate, List.length_set, List.length_take, List.length_nil, List.length_cons]; omega)) (by (simp only [bs_length, List.length_map, List.length_append, List.length_replicate, List.length_set, List.length_take, List.length_nil, List.length_cons]; omega))) ?_
                  refine AL.pure rfl rfl (by decide) (P_assign rfl) ?_
                  refine AL.nil ?_
                  refine InBlock.go ?_
                  refine Then.go ?_
                  refine AW.region ?_
                  refine AL.pure rfl rfl (by decide) (P_addN rfl rfl (by omega) (by omega)) ?_
                  refine AL.pure rfl rfl (by decide) (P_move rfl) ?_
                  refine AL.nil ?_
                  refine Round.go ((i + 1, if skipN x = true then P else P ++ [x])) ?_ ?_ ?_ ?_
                  · try dsimp only
                    first
                      | (rw [if_pos e]; exact ⟨by omega, by omega, d1 e⟩)
                      | (rw [e, if_neg Bool.false_ne_true]; exact ⟨by omega, by simp; omega, d3 e f⟩)
                  · try dsimp only
                    omega
                  · skip
                    refine SubT.cons' (by decide) rfl ?_ ?_
                    · skip
                      rfl
                    refine SubT.cons' (by decide) rfl ?_ ?_
                    · skip
                      (rw [e, if_neg Bool.false_ne_true, List.length_append]; rfl)
                    exact (SubT.cons (by decide) rfl (SubT.cons (by decide) rfl (SubT.cons (by decide) rfl SubT.nil)))
                  · skip
                    refine SubG.cons' rfl ?_ ?_
                    · skip
                      (rw [e, if_neg Bool.false_ne_true, List.map_append]; refine els_congr ?_; rw [List.take_of_length_le (by simp)]; rfl)
                    exact SubG.nil
          · intro h6
            refine AW.exit ?_
            refine Then.e ?_
            refine Round.e ?_
            refine InBlock.e ?_
            refine Then.go ?_
            refine AW.seq ?_
            refine AW.letGo 5 203 0 rfl rfl rfl (by decide) rfl (by (simp only [bs_length, List.length_map, List.length_append, List.length_replicate, List.length_set, List.length_take, List.length_nil, List.length_cons]; omega)) ?_
            refine AW.recast 5 (.tr (.sl 1 (P.map sT))) rfl (sl_congr (by rw [List.drop_zero, List.take_of_length_le (by simp)])) ?_
            have h0 : 0 < t.size := by
              rcases Nat.eq_zero_or_pos t.size with e | e
              · exfalso; exact absurd (size_zero e) (by assumption)
              · exact e
            refine AD.start ?_
            refine AD.op 0 47 [] _ rfl rfl rfl (B_pure (P_move rfl)) ?_
            refine AD.op 1 48 [] _ rfl rfl rfl (B_pure (P_move rfl)) ?_
            refine AD.op 2 49 [1] _ rfl rfl rfl (B_pure (P_indexStrG ty9 rfl rfl (by omega))) ?_
            refine AD.op 3 50 [1, 2] _ rfl rfl rfl (B_pure (P_eql rfl rfl)) ?_
            refine AD.tailE [1, 2, 3] mixed rfl (by kernel_rfl) (by kernel_rfl) (by kernel_rfl) (by kernel_rfl) (fun _ _ _ h => by obtain ⟨h1, _⟩ := h; rcases h1 with h1 | h1 <;> cases h1) ⟨⟨_, rfl, rfl, rfl, W_eql rfl rfl⟩, ⟨⟨_, rfl, rfl, rfl, W_indexStrG ty9 rfl rfl (by omega)⟩, ⟨⟨_, rfl, rfl, rfl, W_move rfl⟩, ⟨True.intro, trivial⟩⟩⟩⟩ rfl ?_
            refine AL.pure rfl rfl (by decide) (P_assign rfl) ?_
            refine AL.pure rfl rfl (by decide) (P_assign rfl) ?_
            refine AL.pure rfl rfl (by decide) (P_assign rfl) ?_
            refine AL.nil ?_
            refine Then.go ?_
            refine AW.ret ?_
            refine ⟨(by exact .inr rfl), _, _, (.cons (.tmp rfl) (.cons (.tmp rfl) (.cons (.tmp rfl) .nil))), SubG.nil, ?_, rfl, rfl⟩
            first
              | (exfalso; contradiction)
              | (rw [show partsN t = none from if_pos (by first | exact .inl (by assumption) | exact .inr (.inl (by assumption)) | exact .inr (.inr (by assumption)))]; exact ⟨rfl, rfl⟩)
              | (rw [show partsN t = none from (if_neg (by rintro (q | q | q) <;> contradiction)).trans (d2 e f)]; exact ⟨rfl, rfl⟩)
              | (rw [partsN, if_neg (by rintro (q | q | q) <;> contradiction), i2, List.drop_of_length_le (by omega), partsF, Option.map_some, List.append_nil]; exact ⟨rfl, rfl⟩)

/-- The names of a whole path. -/
def splitN (t : ByteArray) : Option (List ByteArray) := if (partsN t).isSome && decide (((atB t 0).toNat : Int) = 47) then partsN t else none

theorem C_name_Split (t : ByteArray) (hs : t.size ≤ 1000000000) : ACalls Tryz.prog 246 [vS t] ([]) ([]) (fun r G => r = .tup [.tr (.sl 1 ((splitN t).getD [] |>.map sT)), vI .i64 (if (splitN t).isSome then 0 else 17)] ∧ G = []) := by
  refine acalls_of_body 21 [] Tryz.func246 rfl (by kernel_rfl) Tryz.ntmps246 (Nat.le_of_ble_eq_true rfl) rfl ?_
  refine AW.seq ?_
  refine AW.region ?_
  refine AL.pure rfl rfl (by decide) (P_assign rfl) ?_
  refine AL.pure rfl rfl (by decide) (P_assign rfl) ?_
  refine AL.nil ?_
  refine Then.go ?_
  refine AW.seq ?_
  refine AW.region ?_
  refine AL.pure rfl rfl (by decide) (P_move rfl) ?_
  refine AL.call (C_name_Parts _ (by assumption)) _ [] [] _ rfl (by decide) rfl rfl rfl SubG.nil ?_
  rintro _ _ ⟨rfl, rfl⟩
  refine ⟨rfl, rfl, ?_⟩
  refine AL.pure rfl rfl (by decide) (P_move rfl) ?_
  refine AL.pure rfl rfl (by decide) (P_extract rfl rfl) ?_
  refine AL.pure rfl rfl (by decide) (P_extract rfl rfl) ?_
  refine AL.pure rfl rfl (by decide) (P_extract rfl rfl) ?_
  refine AL.pure rfl rfl (by decide) (P_assign rfl) ?_
  refine AL.pure rfl rfl (by decide) (P_assign rfl) ?_
  refine AL.pure rfl rfl (by decide) (P_assign rfl) ?_
  refine AL.nil ?_
  refine Then.go ?_
  refine AW.seq ?_
  refine AW.block ?_
  refine AW.seq ?_
  refine AW.region ?_
  refine AL.pure rfl rfl (by decide) (P_move rfl) ?_
  refine AL.pure rfl rfl (by decide) (P_neq rfl rfl) ?_
  refine AL.pure rfl rfl (by decide) (P_assign rfl) ?_
  refine AL.nil ?_
  refine Then.go ?_
  refine AW.condN _ rfl ?_ ?_
  · intro h1
    refine AW.seq ?_
    refine AW.region ?_
    refine AL.pure rfl rfl (by decide) (P_move rfl) ?_
    refine AL.pure rfl rfl (by decide) (P_assign rfl) ?_
    refine AL.pure rfl rfl (by decide) (P_assign rfl) ?_
    refine AL.nilS 2 1 rfl ?_
    refine AL.nil ?_
    refine Then.go ?_
    refine AW.ret ?_
    refine InBlock.r ?_
    refine Then.r ?_
    refine ⟨(by exact .inr rfl), _, _, (.cons (.tmp rfl) (.cons (.tmp rfl) .nil)), SubG.nil, ?_, rfl, rfl⟩
    refine ⟨?_, rfl⟩
    rcases hp : partsN t with _ | l
    · simp_all [splitN, oneOr]
    · by_cases hq : ((atB t 0).toNat : Int) = 47
      · have e1 : splitN t = some l := by rw [splitN, hp, if_pos (by simp only [Option.isSome_some, hq, decide_true, Bool.true_and])]
        simp_all [oneOr]
      · have e1 : splitN t = none := by rw [splitN, hp, if_neg (by simp only [Option.isSome_some, hq, decide_false, Bool.and_false]; decide)]
        simp_all [oneOr]
  · intro h1
    refine AW.seq ?_
    refine AW.region ?_
    refine AL.pure rfl rfl (by decide) (P_move rfl) ?_
    refine AL.pure rfl rfl (by decide) (P_not rfl) ?_
    refine AL.pure rfl rfl (by decide) (P_assign rfl) ?_
    refine AL.nil ?_
    refine Then.go ?_
    refine AW.cond _ rfl ?_ ?_
    · intro h2
      refine AW.seq ?_
      refine AW.region ?_
      refine AL.pure rfl rfl (by decide) (P_assign rfl) ?_
      refine AL.pure rfl rfl (by decide) (P_assign rfl) ?_
      refine AL.nilS 2 1 rfl ?_
      refine AL.nil ?_
      refine Then.go ?_
      refine AW.ret ?_
      refine InBlock.r ?_
      refine Then.r ?_
      refine ⟨(by exact .inr rfl), _, _, (.cons (.tmp rfl) (.cons (.tmp rfl) .nil)), SubG.nil, ?_, rfl, rfl⟩
      refine ⟨?_, rfl⟩
      rcases hp : partsN t with _ | l
      · simp_all [splitN, oneOr]
      · by_cases hq : ((atB t 0).toNat : Int) = 47
        · have e1 : splitN t = some l := by rw [splitN, hp, if_pos (by simp only [Option.isSome_some, hq, decide_true, Bool.true_and])]
          simp_all [oneOr]
        · have e1 : splitN t = none := by rw [splitN, hp, if_neg (by simp only [Option.isSome_some, hq, decide_false, Bool.and_false]; decide)]
          simp_all [oneOr]
    · intro h2
      refine AW.skip ?_
      refine InBlock.go ?_
      refine Then.go ?_
      refine AW.seq ?_
      refine AW.region ?_
      refine AL.pure rfl rfl (by decide) (P_move rfl) ?_
      refine AL.pure rfl rfl (by decide) (P_assign rfl) ?_
      refine AL.pure rfl rfl (by decide) (P_assign rfl) ?_
      refine AL.nil ?_
      refine Then.go ?_
      refine AW.ret ?_
      refine ⟨(by exact .inr rfl), _, _, (.cons (.tmp rfl) (.cons (.tmp rfl) .nil)), SubG.nil, ?_, rfl, rfl⟩
      refine ⟨?_, rfl⟩
      rcases hp : partsN t with _ | l
      · simp_all [splitN, oneOr]
      · by_cases hq : ((atB t 0).toNat : Int) = 47
        · have e1 : splitN t = some l := by rw [splitN, hp, if_pos (by simp only [Option.isSome_some, hq, decide_true, Bool.true_and])]
          simp_all [oneOr]
        · have e1 : splitN t = none := by rw [splitN, hp, if_neg (by simp only [Option.isSome_some, hq, decide_false, Bool.and_false]; decide)]
          simp_all [oneOr]
end Go.Proofs.YtmakeajjgjnldaaGreatDoor
