/- Walks, part 2: sums; copies. -/
import Derived.Test.YtmakeajjgjnldaaGreatDoorS1
import Derived.Test.YtmakeajjgjnldaaGreatDoorProg
set_option linter.unusedVariables false
set_option maxRecDepth 100000
namespace Go.Proofs.YtmakeajjgjnldaaGreatDoor
open Go Go.Ab

/-- One byte into the sum. -/
def sumStep (x : Nat × Nat) (c : UInt8) : Nat × Nat := ((x.1 + c.toNat) % 65521, (x.2 + (x.1 + c.toNat) % 65521) % 65521)
def sumOf (l : List UInt8) : Nat := let x := l.foldl sumStep (1, 0); (x.2 * 65536) ||| x.1
theorem drop_get {l : List UInt8} {i : Nat} (h : i < l.length) : l.drop i = l.getD i 0 :: l.drop (i + 1) := by
  rw [List.drop_eq_getElem_cons h]; simp [List.getD, h]

theorem ty5 : TyIs Tryz.prog 5 (.int .u8) 1 := ⟨Tryz.underlying5, by kernel_rfl⟩
theorem ty26 : TyIs Tryz.prog 26 (.slice 5) 1 := ⟨Tryz.underlying26, by kernel_rfl⟩
theorem ty255 : TyIs Tryz.prog 255 (.int .u32) 1 := ⟨Tryz.underlying255, by kernel_rfl⟩

theorem C_sum_Of (b : List UInt8) : ACalls Tryz.prog 233 [sB b] ([]) ([]) (fun r G => r = vI .u32 (sumOf b : Nat) ∧ G = []) := by
  refine acalls_of_body 27 [] Tryz.func233 rfl (by kernel_rfl) Tryz.ntmps233 (Nat.le_of_ble_eq_true rfl) rfl ?_
  refine AW.seq ?_
  refine AW.region ?_
  refine AL.pure rfl rfl (by decide) (P_assign rfl) ?_
  refine AL.nil ?_
  refine Then.go ?_
  refine AW.seq ?_
  refine AW.region ?_
  refine AL.pure rfl rfl (by decide) (P_assign rfl) ?_
  refine AL.pure rfl rfl (by decide) (P_assign rfl) ?_
  refine AL.nil ?_
  refine Then.go ?_
  refine AW.seq ?_
  refine AW.seq ?_
  refine AW.region ?_
  refine AL.pure rfl rfl (by decide) (P_move rfl) ?_
  refine AL_lenM rfl rfl (by decide) ty26 rfl fun h1 => ?_
  try simp only [bs_length, List.length_map, List.length_append, List.length_replicate, List.length_cons, List.length_nil, List.length_take, List.length_set] at h1
  refine AL.pure rfl rfl (by decide) (P_move rfl) ?_
  refine AL.nil ?_
  refine Then.go ?_
  refine AW.block ?_
  refine AW.loopK (σ := Nat × Nat × Nat) [2] [] (.cons rfl .nil) .nil rfl (fun (i, p, q) => [(7, sB b), (8, vI .i64 (b.length : Nat)), (9, vI .i64 (i : Nat)), (3, vI .u32 (p : Nat)), (4, vI .u32 (q : Nat))]) (fun (i, p, q) => []) (fun (i, p, q) => i ≤ b.length ∧ p < 65521 ∧ q < 65521 ∧ (b.drop i).foldl sumStep (p, q) = b.foldl sumStep (1, 0)) (fun (i, p, q) => b.length - i) ((0, 1, 0)) ?_ ?_ ?_ ?_
  · skip
    exact ⟨by simp, by simp, by simp, by simp⟩
  · skip
    refine SubT.cons' (by decide) rfl ?_ ?_
    · skip
      rfl
    refine SubT.cons' (by decide) rfl ?_ ?_
    · skip
      rfl
    refine SubT.cons' (by decide) rfl ?_ ?_
    · skip
      rfl
    refine SubT.cons' (by decide) rfl ?_ ?_
    · skip
      rfl
    refine SubT.cons' (by decide) rfl ?_ ?_
    · skip
      rfl
    exact SubT.nil
  · skip
    exact SubG.nil
  · rintro ⟨i, p, q⟩ hs
    try dsimp only at hs
    dsimp only [List.cons_append, List.nil_append]
    obtain ⟨h0, hp, hq, hs⟩ := hs
    have hc := u8_lt (b.getD i 0)
    refine AW.seq ?_
    refine AW.region ?_
    refine AL.pure rfl rfl (by decide) (P_lss rfl rfl) ?_
    refine AL.nil ?_
    refine Then.go ?_
    refine AW.seq ?_
    refine AW.condD _ rfl ?_ ?_
    · intro h2
      refine AW.skip ?_
      refine Then.go ?_
      refine AW.seq ?_
      refine AW.block ?_
      refine AW.seq ?_
      refine AW.region ?_
      refine AL.pure rfl rfl (by decide) (P_indexSl ty26 ty5 rfl rfl (by exact bs_at (by omega)) (by rfl)) ?_
      refine AL.pure rfl rfl (by decide) (P_loadR ty5 rfl rfl rfl) ?_
      refine AL.pure rfl rfl (by decide) (P_assign rfl) ?_
      refine AL.nil ?_
      refine Then.go ?_
      refine AW.seq ?_
      refine AW.region ?_
      refine AL.pure rfl rfl (by decide) (P_move rfl) ?_
      refine AL.pure rfl rfl (by decide) (P_move rfl) ?_
      refine AL.pure rfl rfl (by decide) (P_conv_u32 ty5 ty255 rfl (by omega) (by omega)) ?_
      refine AL.pure rfl rfl (by decide) (P_addU32 rfl rfl (by omega) (by omega)) ?_
      refine AL.pure rfl rfl (by decide) (P_remN rfl rfl (by omega) (by omega)) ?_
      refine AL.pure rfl rfl (by decide) (P_assign rfl) ?_
      refine AL.nil ?_
      refine Then.go ?_
      refine AW.region ?_
      refine AL.pure rfl rfl (by decide) (P_move rfl) ?_
      refine AL.pure rfl rfl (by decide) (P_move rfl) ?_
      refine AL.pure rfl rfl (by decide) (P_addU32 rfl rfl (by omega) (by omega)) ?_
      refine AL.pure rfl rfl (by decide) (P_remN rfl rfl (by omega) (by omega)) ?_
      refine AL.pure rfl rfl (by decide) (P_assign rfl) ?_
      refine AL.nil ?_
      refine InBlock.go ?_
      refine Then.go ?_
      refine AW.region ?_
      refine AL.pure rfl rfl (by decide) (P_addN rfl rfl (by omega) (by omega)) ?_
      refine AL.pure rfl rfl (by decide) (P_move rfl) ?_
      refine AL.nil ?_
      refine Round.go ((i + 1, sumStep (p, q) (b.getD i 0))) ?_ ?_ ?_ ?_
      · try dsimp only
        refine ⟨by omega, ?_, ?_, ?_⟩
        · simp only [sumStep]; omega
        · simp only [sumStep]; omega
        · rw [← hs, drop_get (i := i) (by omega)]; rfl
      · try dsimp only
        omega
      · skip
        refine SubT.cons' (by decide) rfl ?_ ?_
        · skip
          rfl
        refine SubT.cons' (by decide) rfl ?_ ?_
        · skip
          rfl
        refine SubT.cons' (by decide) rfl ?_ ?_
        · skip
          rfl
        refine SubT.cons' (by decide) rfl ?_ ?_
        · skip
          exact vI_congr (by simp only [sumStep]; omega)
        refine SubT.cons' (by decide) rfl ?_ ?_
        · skip
          exact vI_congr (by simp only [sumStep]; omega)
        exact (SubT.cons (by decide) rfl SubT.nil)
      · skip
        exact SubG.nil
    · intro h2
      refine AW.exit ?_
      refine Then.e ?_
      refine Round.e ?_
      refine InBlock.e ?_
      refine Then.go ?_
      refine AW.seq ?_
      refine AW.region ?_
      refine AL.pure rfl rfl (by decide) (P_move rfl) ?_
      refine AL.pure rfl rfl (by decide) (P_shlU32 rfl rfl 16 rfl (by decide) (by omega) (by omega)) ?_
      refine AL.pure rfl rfl (by decide) (P_move rfl) ?_
      refine AL.pure rfl rfl (by decide) (P_orU32 rfl rfl (by omega) (by omega)) ?_
      refine AL.pure rfl rfl (by decide) (P_assign rfl) ?_
      refine AL.nil ?_
      refine Then.go ?_
      refine AW.ret ?_
      refine ⟨(by exact .inr rfl), _, _, (.cons (.tmp rfl) .nil), SubG.nil, ?_, rfl, rfl⟩
      refine ⟨?_, rfl⟩
      have hi : i = b.length := by omega
      subst hi
      rw [List.drop_length] at hs
      simp only [List.foldl_nil] at hs
      exact vI_congr (by rw [sumOf, ← hs]; simp; rfl)
end Go.Proofs.YtmakeajjgjnldaaGreatDoor
