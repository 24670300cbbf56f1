/- Walks, part 12: a byte many times. -/
import Derived.Test.YtmakeajjgjnldaaGreatDoorS11
import Derived.Test.YtmakeajjgjnldaaGreatDoorShelf
set_option linter.unusedVariables false
set_option linter.unusedSimpArgs false
set_option maxRecDepth 100000
namespace Go.Proofs.YtmakeajjgjnldaaGreatDoor
open Go Go.Ab

theorem C_Mul (x y : Nat) (hx : x < 18446744073709551616) (hy : y < 18446744073709551616) : ACalls Tryz.prog 116 [vI .u64 (x : Nat), vI .u64 (y : Nat)] [] [] (fun r G => r = .tup [vI .u64 ((x * y / 18446744073709551616 : Nat) : Int), vI .u64 ((x * y % 18446744073709551616 : Nat) : Int)] ∧ G = []) :=
  acalls_of_calls (vs0 := [.int .u64 x, .int .u64 y]) Tryz.func116 rfl (by kernel_rfl) (fun M ι w us h => by
      simp only [RAs, RA, RT] at h
      obtain ⟨u, us', rfl, rfl, v, vs, rfl, rfl, rfl⟩ := h
      rfl) (fun M ι w => by simp only [RA, RAs, RT]; exact ⟨_, rfl, _, _, rfl, rfl, _, _, rfl, rfl, rfl⟩) (fun w => Tryz.bits_Mul x y hx hy w)

theorem ty44 : TyIs Tryz.prog 44 (.int .u64) 1 := ⟨Tryz.underlying44, by kernel_rfl⟩


theorem C_NoZero (n : Nat) (hn : n ≤ 281474976710656) : ACalls Tryz.prog 117 [vI .i64 (n : Nat)] [] [] (fun r G => ∃ vs : List Value, vs.length = n ∧ r = .own 1 90 0 n ∧ G = [(90, .els 5 1 (vs.map Tr.val))]) :=
  acalls_noZero (ps := #[3]) (t := 26) ty26 Tryz.func117 (by kernel_rfl) (by kernel_rfl) (by kernel_rfl) (by kernel_rfl) n hn


def filled (cs : List Tr) (x : UInt8) (k : Nat) : Prop := cs.take k = List.replicate k (b8 x)
theorem filled_write {cs : List Tr} {x : UInt8} {bp ch n : Nat} (hl : cs.length = n) (h : filled cs x bp) (h1 : 1 ≤ bp) (h2 : bp < n) (h3 : ch ≤ bp) : filled (writeAt cs bp (((cs.drop 0).take ch).take (n - bp))) x (bp + min ch (n - bp)) := by
  unfold filled at *
  have e1 : ((cs.drop 0).take ch).take (n - bp) = List.replicate (min ch (n - bp)) (b8 x) := by
    rw [List.drop_zero, List.take_take, Nat.min_comm]
    have : cs.take (min ch (n - bp)) = (cs.take bp).take (min ch (n - bp)) := by rw [List.take_take]; congr 1; omega
    rw [this, h, List.take_replicate]; congr 1; omega
  rw [e1, writeAt, h, List.take_append_of_le_length (by simp), List.take_of_length_le (by simp), List.replicate_append_replicate]


abbrev cmK (k : Nat) : Nat := if 8192 < k then 8192 else k
theorem filled_one {vs : List Value} {x : UInt8} {k : Nat} (h : vs.length = k) (hk : 1 ≤ k) : (writeAt (vs.map Tr.val) 0 ((bs [x]).take k)).length = k ∧ filled (writeAt (vs.map Tr.val) 0 ((bs [x]).take k)) x 1 := by
  have e : (bs [x]).take k = [b8 x] := by rw [List.take_of_length_le (by simp; omega)]; rfl
  rw [e]
  refine ⟨by rw [writeAt_length (by simp; omega)]; simpa using h, ?_⟩
  simp [filled, writeAt]

theorem C_bytes_Repeat (x : UInt8) (k : Nat) (hk : 1 ≤ k) (hk2 : k ≤ 1000000) : ACalls Tryz.prog 70 [sB [x], vI .i64 (k : Nat)] ([]) ([]) (fun r G => r = .own 1 90 0 k ∧ G = [(90, .els 5 1 (List.replicate k (b8 x)))]) := by
  refine acalls_of_body 77 [] Tryz.func70 rfl (by kernel_rfl) Tryz.ntmps70 (Nat.le_of_ble_eq_true rfl) rfl ?_
  refine AW.seq ?_
  refine AW.region ?_
  refine AL.pure rfl rfl (by decide) (P_assign rfl) ?_
  refine AL.nil ?_
  refine Then.go ?_
  refine AW.seq ?_
  refine AW.seq ?_
  refine AW.region ?_
  refine AL.pure rfl rfl (by decide) (P_move rfl) ?_
  refine AL.pure rfl rfl (by decide) (P_eql rfl rfl) ?_
  refine AL.nil ?_
  refine Then.go ?_
  refine AW.condD _ rfl ?_ ?_
  · intro h1
    exfalso; omega
  · intro h1
    refine AW.skip ?_
    refine Then.go ?_
    refine AW.seq ?_
    refine AW.seq ?_
    refine AW.region ?_
    refine AL.pure rfl rfl (by decide) (P_move rfl) ?_
    refine AL.pure rfl rfl (by decide) (P_lss rfl rfl) ?_
    refine AL.nil ?_
    refine Then.go ?_
    refine AW.condD _ rfl ?_ ?_
    · intro h2
      exfalso; omega
    · intro h2
      refine AW.skip ?_
      refine Then.go ?_
      refine AW.seq ?_
      refine AW.region ?_
      refine AL.pure rfl rfl (by decide) (P_move rfl) ?_
      refine AL_lenM rfl rfl (by decide) ty26 rfl fun h3 => ?_
      try simp only [bs_length, List.length_map, List.length_append, List.length_replicate, List.length_cons, List.length_nil, List.length_take, List.length_set] at h3
      refine AL.pure rfl rfl (by decide) (P_convI ty3 ty44 rfl) ?_
      refine AL.pure rfl rfl (by decide) (P_move rfl) ?_
      refine AL.pure rfl rfl (by decide) (P_conv_u64 ty3 ty44 rfl (by omega) (by omega)) ?_
      refine AL.call (C_Mul 1 k (by omega) (by omega) ) _ [] [] _ rfl (by decide) rfl rfl rfl SubG.nil ?_
      rintro _ _ ⟨rfl, rfl⟩
      refine ⟨rfl, rfl, ?_⟩
      refine AL.pure rfl rfl (by decide) (P_move rfl) ?_
      refine AL.pure rfl rfl (by decide) (P_extract rfl rfl) ?_
      refine AL.pure rfl rfl (by decide) (P_extract rfl rfl) ?_
      refine AL.pure rfl rfl (by decide) (P_assign rfl) ?_
      refine AL.pure rfl rfl (by decide) (P_assign rfl) ?_
      refine AL.nil ?_
      refine Then.go ?_
      refine AW.seq ?_
      refine AW.seq ?_
      refine AW.region ?_
      refine AL.pure rfl rfl (by decide) (P_move rfl) ?_
      refine AL.pure rfl rfl (by decide) (P_gtr rfl rfl) ?_
      refine AL.pure rfl rfl (by decide) (P_move rfl) ?_
      refine AL.caseD (t := 29) _ rfl (by decide) ?_ ?_
      · intro h4
        exfalso; omega
      · intro h4
        refine AL.pure rfl rfl (by decide) (P_move rfl) ?_
        refine AL.pure rfl rfl (by decide) (P_gtr rfl rfl) ?_
        refine AL.pure rfl rfl (by decide) (P_pickF rfl rfl) ?_
        refine AL.nil ?_
        refine Then.go ?_
        refine AW.condD _ rfl ?_ ?_
        · intro h5
          exfalso; simp_all; omega
        · intro h5
          refine AW.skip ?_
          refine Then.go ?_
          refine AW.seq ?_
          refine AW.region ?_
          refine AL.pure rfl rfl (by decide) (P_move rfl) ?_
          refine AL.pure rfl rfl (by decide) (P_conv_i64 ty44 ty3 rfl (by omega) (by omega)) ?_
          refine AL.recast 35 (vI .i64 (k : Nat)) rfl (vI_congr (by omega)) ?_
          refine AL.pure rfl rfl (by decide) (P_assign rfl) ?_
          refine AL.nil ?_
          refine Then.go ?_
          refine AW.seq ?_
          refine AW.seq ?_
          refine AW.region ?_
          refine AL.pure rfl rfl (by decide) (P_move rfl) ?_
          refine AL_lenM rfl rfl (by decide) ty26 rfl fun h6 => ?_
          try simp only [bs_length, List.length_map, List.length_append, List.length_replicate, List.length_cons, List.length_nil, List.length_take, List.length_set] at h6
          refine AL.pure rfl rfl (by decide) (P_eql rfl rfl) ?_
          refine AL.nil ?_
          refine Then.go ?_
          refine AW.condD _ rfl ?_ ?_
          · intro h7
            exfalso; simp_all
          · intro h7
            refine AW.skip ?_
            refine Then.go ?_
            refine AW.seq ?_
            refine AW.region ?_
            refine AL.pure rfl rfl (by decide) (P_move rfl) ?_
            refine AL.pure rfl rfl (by decide) (P_assign rfl) ?_
            refine AL.nil ?_
            refine Then.go ?_
            refine AW.seq ?_
            refine AW.seq ?_
            refine AW.region ?_
            refine AL.pure rfl rfl (by decide) (P_move rfl) ?_
            refine AL.pure rfl rfl (by decide) (P_gtr rfl rfl) ?_
            refine AL.nil ?_
            refine Then.go ?_
            refine AW.condD _ rfl ?_ ?_
            · intro h8
              refine AW.seq ?_
              refine AW.region ?_
              refine AL.pure rfl rfl (by decide) (P_move rfl) ?_
              refine AL_lenM rfl rfl (by decide) ty26 rfl fun h9 => ?_
              try simp only [bs_length, List.length_map, List.length_append, List.length_replicate, List.length_cons, List.length_nil, List.length_take, List.length_set] at h9
              refine AL.recast 44 (vI .i64 1) rfl (vI_congr (by simp)) ?_
              refine AL.pure rfl rfl (by decide) (P_quoN rfl rfl (by omega) (by omega)) ?_
              refine AL.pure rfl rfl (by decide) (P_move rfl) ?_
              refine AL_lenM rfl rfl (by decide) ty26 rfl fun h10 => ?_
              try simp only [bs_length, List.length_map, List.length_append, List.length_replicate, List.length_cons, List.length_nil, List.length_take, List.length_set] at h10
              refine AL.recast 47 (vI .i64 1) rfl (vI_congr (by simp)) ?_
              refine AL.pure rfl rfl (by decide) (P_mulN rfl rfl (by omega) (by omega)) ?_
              refine AL.pure rfl rfl (by decide) (P_assign rfl) ?_
              refine AL.nil ?_
              refine Then.go ?_
              refine AW.seq ?_
              refine AW.region ?_
              refine AL.pure rfl rfl (by decide) (P_move rfl) ?_
              refine AL.pure rfl rfl (by decide) (P_eql rfl rfl) ?_
              refine AL.nil ?_
              refine Then.go ?_
              refine AW.condD _ rfl ?_ ?_
              · intro h11
                exfalso; omega
              · intro h11
                refine AW.skip ?_
                refine Then.go ?_
                refine AW.seq ?_
                refine AW.region ?_
                refine AL.pure rfl rfl (by decide) (P_move rfl) ?_
                refine AL.call (C_NoZero k (by omega) ) _ [] [] _ rfl (by decide) rfl rfl rfl SubG.nil ?_
                rintro _ _ ⟨vs, hvs, rfl, rfl⟩
                refine ⟨rfl, rfl, ?_⟩
                refine AL.pure rfl rfl (by decide) (P_move rfl) ?_
                refine AL.pure rfl rfl (by decide) (P_move rfl) ?_
                refine AL.pure rfl rfl (by decide) (P_sliceOHM ty26 ty5 rfl rfl rfl (by omega) (by omega) (by omega)) ?_
                refine AL.pure rfl rfl (by decide) (P_assign rfl) ?_
                refine AL.nil ?_
                refine Then.go ?_
                refine AW.seq ?_
                refine AW.region ?_
                refine AL.pure rfl rfl (by decide) (P_move rfl) ?_
                refine AL.pure rfl rfl (by decide) (P_move rfl) ?_
                refine AL.eff rfl rfl (by decide) (E_copy 0 ty26 ty5 rfl rfl rfl (by omega) (by omega) (by (simp only [bs_length, List.length_map, List.length_append, List.length_replicate, List.length_set, List.length_take, List.length_nil, List.length_cons]; omega))) ?_
                obtain ⟨fo1, fo2⟩ := filled_one (x := x) hvs hk
                refine AL.recast 60 (vI .i64 ((1 : Nat) : Int)) rfl (vI_congr (by simp; omega)) ?_
                refine AL.pure rfl rfl (by decide) (P_assign rfl) ?_
                refine AL.nil ?_
                refine Then.go ?_
                refine AW.seq ?_
                refine AW.block ?_
                refine AW.loopK (σ := Nat × List Tr) [4] [] (.cons rfl .nil) .nil rfl (fun (p, cs) => [(7, vI .i64 (k : Nat)), (8, vI .i64 (cmK k : Nat)), (9, .own 1 90 0 k), (10, vI .i64 (p : Nat))]) (fun (p, cs) => [(90, .els 5 1 cs)]) (fun (p, cs) => 1 ≤ p ∧ p ≤ k ∧ cs.length = k ∧ filled cs x p) (fun (p, cs) => k - p) ((1, writeAt (vs.map Tr.val) 0 ((bs [x]).take k))) ?_ ?_ ?_ ?_
                · skip
                  exact ⟨by omega, hk, fo1, fo2⟩
                · skip
                  refine SubT.cons' (by decide) rfl ?_ ?_
                  · skip
                    rfl
                  refine SubT.cons' (by decide) rfl ?_ ?_
                  · skip
                    exact vI_congr (by simp only [cmK]; split <;> omega)
                  refine SubT.cons' (by decide) rfl ?_ ?_
                  · skip
                    rfl
                  refine SubT.cons' (by decide) rfl ?_ ?_
                  · skip
                    rfl
                  exact SubT.nil
                · skip
                  refine SubG.cons' rfl ?_ ?_
                  · skip
                    rfl
                  exact SubG.nil
                · rintro ⟨p, cs⟩ hs
                  try dsimp only at hs
                  dsimp only [List.cons_append, List.nil_append]
                  obtain ⟨i0, i1, i2, i3⟩ := hs
                  have hcm : 1 ≤ cmK k := by simp only [cmK]; split <;> omega
                  refine AW.seq ?_
                  refine AW.seq ?_
                  refine AW.region ?_
                  refine AL.pure rfl rfl (by decide) (P_move rfl) ?_
                  refine AL.pure rfl rfl (by decide) (P_move rfl) ?_
                  refine AL.pure rfl rfl (by decide) (P_lss rfl rfl) ?_
                  refine AL.nil ?_
                  refine Then.go ?_
                  refine AW.condD _ rfl ?_ ?_
                  · intro h12
                    refine AW.skip ?_
                    refine Then.go ?_
                    refine AW.block ?_
                    refine AW.seq ?_
                    refine AW.region ?_
                    refine AL.pure rfl rfl (by decide) (P_move rfl) ?_
                    refine AL.pure rfl rfl (by decide) (P_move rfl) ?_
                    refine AL.pure rfl rfl (by decide) (P_min rfl rfl) ?_
                    refine AL.recast 66 (vI .i64 ((min p (cmK k) : Nat) : Int)) rfl (vI_congr (by simp only [Nat.min_def]; split <;> split <;> omega)) ?_
                    refine AL.pure rfl rfl (by decide) (P_assign rfl) ?_
                    refine AL.nil ?_
                    refine Then.go ?_
                    refine AD.start ?_
                    refine AD.op 0 67 [] _ rfl rfl rfl (B_pure (P_move rfl)) ?_
                    refine AD.op 1 68 [] _ rfl rfl rfl (B_pure (P_move rfl)) ?_
                    refine AD.op 2 69 [] _ rfl rfl rfl (B_pure (P_move rfl)) ?_
                    refine AD.op 3 70 [1, 2] _ rfl rfl rfl (B_pure (P_sliceOL ty26 ty5 rfl rfl (by omega) (by omega))) ?_
                    refine AD.op 4 71 [] _ rfl rfl rfl (B_pure (P_move rfl)) ?_
                    refine AD.op 5 72 [] _ rfl rfl rfl (B_pure (P_move rfl)) ?_
                    refine AD.op 6 73 [4, 5] _ rfl rfl rfl (B_pure (P_sliceOH ty26 ty5 rfl rfl (by omega))) ?_
                    refine AD.tailP 0 mixed rfl (by kernel_rfl) (by kernel_rfl) rfl rfl rfl rfl rfl (P_move rfl) move_any (by kernel_rfl) (by kernel_rfl) (by kernel_rfl) (fun _ _ _ h => by obtain ⟨h1, _⟩ := h; rcases h1 with h1 | h1 <;> cases h1) rfl ?_
                    refine AL.eff rfl rfl (by decide) (E_copyO p 0 ty26 ty5 rfl rfl rfl rfl (by omega) (by omega) (by omega) (by omega) (by omega)) ?_
                    refine AL.pure rfl rfl (by decide) (P_addN rfl rfl (by omega) (by omega)) ?_
                    refine AL.pure rfl rfl (by decide) (P_assign rfl) ?_
                    refine AL.nil ?_
                    refine InBlock.go ?_
                    refine Round.go ((p + min (min p (cmK k)) (k - p), writeAt cs p (((cs.drop 0).take (min p (cmK k))).take (k - p)))) ?_ ?_ ?_ ?_
                    · try dsimp only
                      refine ⟨by omega, by omega, ?_, filled_write i2 i3 i0 (by omega) (by omega)⟩
                      rw [writeAt_length (by simp; omega)]; exact i2
                    · try dsimp only
                      omega
                    · skip
                      refine SubT.cons' (by decide) rfl ?_ ?_
                      · skip
                        rfl
                      refine SubT.cons' (by decide) rfl ?_ ?_
                      · skip
                        rfl
                      refine SubT.cons' (by decide) rfl ?_ ?_
                      · skip
                        rfl
                      refine SubT.cons' (by decide) rfl ?_ ?_
                      · skip
                        rfl
                      exact (SubT.cons (by decide) rfl SubT.nil)
                    · skip
                      refine SubG.cons' rfl ?_ ?_
                      · skip
                        rfl
                      exact SubG.nil
                  · intro h12
                    refine AW.exit ?_
                    refine Then.e ?_
                    refine Round.e ?_
                    refine InBlock.e ?_
                    refine Then.go ?_
                    refine AW.seq ?_
                    refine AW.region ?_
                    refine AL.pure rfl rfl (by decide) (P_move rfl) ?_
                    refine AL.pure rfl rfl (by decide) (P_assign rfl) ?_
                    refine AL.nil ?_
                    refine Then.go ?_
                    refine AW.ret ?_
                    refine ⟨(by exact .inr rfl), _, _, (.cons (.tmp rfl) .nil), (SubG.cons (l := 90) rfl SubG.nil), ?_, rfl, rfl⟩
                    have hc : cs = List.replicate k (b8 x) := by
                      have := i3
                      unfold filled at this
                      rw [show p = k by omega, List.take_of_length_le (by omega)] at this
                      exact this
                    rw [hc]; exact ⟨rfl, rfl⟩
            · intro h8
              refine AW.skip ?_
              refine Then.go ?_
              refine AW.seq ?_
              refine AW.region ?_
              refine AL.pure rfl rfl (by decide) (P_move rfl) ?_
              refine AL.call (C_NoZero k (by omega) ) _ [] [] _ rfl (by decide) rfl rfl rfl SubG.nil ?_
              rintro _ _ ⟨vs, hvs, rfl, rfl⟩
              refine ⟨rfl, rfl, ?_⟩
              refine AL.pure rfl rfl (by decide) (P_move rfl) ?_
              refine AL.pure rfl rfl (by decide) (P_move rfl) ?_
              refine AL.pure rfl rfl (by decide) (P_sliceOHM ty26 ty5 rfl rfl rfl (by omega) (by omega) (by omega)) ?_
              refine AL.pure rfl rfl (by decide) (P_assign rfl) ?_
              refine AL.nil ?_
              refine Then.go ?_
              refine AW.seq ?_
              refine AW.region ?_
              refine AL.pure rfl rfl (by decide) (P_move rfl) ?_
              refine AL.pure rfl rfl (by decide) (P_move rfl) ?_
              refine AL.eff rfl rfl (by decide) (E_copy 0 ty26 ty5 rfl rfl rfl (by omega) (by omega) (by (simp only [bs_length, List.length_map, List.length_append, List.length_replicate, List.length_set, List.length_take, List.length_nil, List.length_cons]; omega))) ?_
              obtain ⟨fo1, fo2⟩ := filled_one (x := x) hvs hk
              refine AL.recast 60 (vI .i64 ((1 : Nat) : Int)) rfl (vI_congr (by simp; omega)) ?_
              refine AL.pure rfl rfl (by decide) (P_assign rfl) ?_
              refine AL.nil ?_
              refine Then.go ?_
              refine AW.seq ?_
              refine AW.block ?_
              refine AW.loopK (σ := Nat × List Tr) [4] [] (.cons rfl .nil) .nil rfl (fun (p, cs) => [(7, vI .i64 (k : Nat)), (8, vI .i64 (cmK k : Nat)), (9, .own 1 90 0 k), (10, vI .i64 (p : Nat))]) (fun (p, cs) => [(90, .els 5 1 cs)]) (fun (p, cs) => 1 ≤ p ∧ p ≤ k ∧ cs.length = k ∧ filled cs x p) (fun (p, cs) => k - p) ((1, writeAt (vs.map Tr.val) 0 ((bs [x]).take k))) ?_ ?_ ?_ ?_
              · skip
                exact ⟨by omega, hk, fo1, fo2⟩
              · skip
                refine SubT.cons' (by decide) rfl ?_ ?_
                · skip
                  rfl
                refine SubT.cons' (by decide) rfl ?_ ?_
                · skip
                  exact vI_congr (by simp only [cmK]; split <;> omega)
                refine SubT.cons' (by decide) rfl ?_ ?_
                · skip
                  rfl
                refine SubT.cons' (by decide) rfl ?_ ?_
                · skip
                  rfl
                exact SubT.nil
              · skip
                refine SubG.cons' rfl ?_ ?_
                · skip
                  rfl
                exact SubG.nil
              · rintro ⟨p, cs⟩ hs
                try dsimp only at hs
                dsimp only [List.cons_append, List.nil_append]
                obtain ⟨i0, i1, i2, i3⟩ := hs
                have hcm : 1 ≤ cmK k := by simp only [cmK]; split <;> omega
                refine AW.seq ?_
                refine AW.seq ?_
                refine AW.region ?_
                refine AL.pure rfl rfl (by decide) (P_move rfl) ?_
                refine AL.pure rfl rfl (by decide) (P_move rfl) ?_
                refine AL.pure rfl rfl (by decide) (P_lss rfl rfl) ?_
                refine AL.nil ?_
                refine Then.go ?_
                refine AW.condD _ rfl ?_ ?_
                · intro h13
                  refine AW.skip ?_
                  refine Then.go ?_
                  refine AW.block ?_
                  refine AW.seq ?_
                  refine AW.region ?_
                  refine AL.pure rfl rfl (by decide) (P_move rfl) ?_
                  refine AL.pure rfl rfl (by decide) (P_move rfl) ?_
                  refine AL.pure rfl rfl (by decide) (P_min rfl rfl) ?_
                  refine AL.recast 66 (vI .i64 ((min p (cmK k) : Nat) : Int)) rfl (vI_congr (by simp only [Nat.min_def]; split <;> split <;> omega)) ?_
                  refine AL.pure rfl rfl (by decide) (P_assign rfl) ?_
                  refine AL.nil ?_
                  refine Then.go ?_
                  refine AD.start ?_
                  refine AD.op 0 67 [] _ rfl rfl rfl (B_pure (P_move rfl)) ?_
                  refine AD.op 1 68 [] _ rfl rfl rfl (B_pure (P_move rfl)) ?_
                  refine AD.op 2 69 [] _ rfl rfl rfl (B_pure (P_move rfl)) ?_
                  refine AD.op 3 70 [1, 2] _ rfl rfl rfl (B_pure (P_sliceOL ty26 ty5 rfl rfl (by omega) (by omega))) ?_
                  refine AD.op 4 71 [] _ rfl rfl rfl (B_pure (P_move rfl)) ?_
                  refine AD.op 5 72 [] _ rfl rfl rfl (B_pure (P_move rfl)) ?_
                  refine AD.op 6 73 [4, 5] _ rfl rfl rfl (B_pure (P_sliceOH ty26 ty5 rfl rfl (by omega))) ?_
                  refine AD.tailP 0 mixed rfl (by kernel_rfl) (by kernel_rfl) rfl rfl rfl rfl rfl (P_move rfl) move_any (by kernel_rfl) (by kernel_rfl) (by kernel_rfl) (fun _ _ _ h => by obtain ⟨h1, _⟩ := h; rcases h1 with h1 | h1 <;> cases h1) rfl ?_
                  refine AL.eff rfl rfl (by decide) (E_copyO p 0 ty26 ty5 rfl rfl rfl rfl (by omega) (by omega) (by omega) (by omega) (by omega)) ?_
                  refine AL.pure rfl rfl (by decide) (P_addN rfl rfl (by omega) (by omega)) ?_
                  refine AL.pure rfl rfl (by decide) (P_assign rfl) ?_
                  refine AL.nil ?_
                  refine InBlock.go ?_
                  refine Round.go ((p + min (min p (cmK k)) (k - p), writeAt cs p (((cs.drop 0).take (min p (cmK k))).take (k - p)))) ?_ ?_ ?_ ?_
                  · try dsimp only
                    refine ⟨by omega, by omega, ?_, filled_write i2 i3 i0 (by omega) (by omega)⟩
                    rw [writeAt_length (by simp; omega)]; exact i2
                  · try dsimp only
                    omega
                  · skip
                    refine SubT.cons' (by decide) rfl ?_ ?_
                    · skip
                      rfl
                    refine SubT.cons' (by decide) rfl ?_ ?_
                    · skip
                      rfl
                    refine SubT.cons' (by decide) rfl ?_ ?_
                    · skip
                      rfl
                    refine SubT.cons' (by decide) rfl ?_ ?_
                    · skip
                      rfl
                    exact (SubT.cons (by decide) rfl SubT.nil)
                  · skip
                    refine SubG.cons' rfl ?_ ?_
                    · skip
                      rfl
                    exact SubG.nil
                · intro h13
                  refine AW.exit ?_
                  refine Then.e ?_
                  refine Round.e ?_
                  refine InBlock.e ?_
                  refine Then.go ?_
                  refine AW.seq ?_
                  refine AW.region ?_
                  refine AL.pure rfl rfl (by decide) (P_move rfl) ?_
                  refine AL.pure rfl rfl (by decide) (P_assign rfl) ?_
                  refine AL.nil ?_
                  refine Then.go ?_
                  refine AW.ret ?_
                  refine ⟨(by exact .inr rfl), _, _, (.cons (.tmp rfl) .nil), (SubG.cons (l := 90) rfl SubG.nil), ?_, rfl, rfl⟩
                  have hc : cs = List.replicate k (b8 x) := by
                    have := i3
                    unfold filled at this
                    rw [show p = k by omega, List.take_of_length_le (by omega)] at this
                    exact this
                  rw [hc]; exact ⟨rfl, rfl⟩
end Go.Proofs.YtmakeajjgjnldaaGreatDoor
