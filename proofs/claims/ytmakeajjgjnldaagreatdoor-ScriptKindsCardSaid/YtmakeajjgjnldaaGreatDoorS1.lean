/- Walks, part 1: sums, codes, frames. -/
import Derived.Test.YtmakeajjgjnldaaGreatDoorM4
import Derived.Test.YtmakeajjgjnldaaGreatDoorProg
set_option linter.unusedVariables false
set_option maxRecDepth 100000
namespace Go.Proofs.YtmakeajjgjnldaaGreatDoor
open Go Go.Ab



theorem C_frame_Size (n : Int) (h0 : 0 ≤ n) (h1 : n ≤ 9223372036854775800) : ACalls Tryz.prog 123 [vI .i64 n] ([]) ([]) (fun r G => r = vI .i64 (n + 7) ∧ G = []) := by
  refine acalls_of_body 5 [] Tryz.func123 rfl (by kernel_rfl) Tryz.ntmps123 (Nat.le_of_ble_eq_true rfl) rfl ?_
  refine AW.seq ?_
  refine AW.region ?_
  refine AL.pure rfl rfl (by decide) (P_assign rfl) ?_
  refine AL.nil ?_
  refine Then.go ?_
  refine AW.seq ?_
  refine AW.region ?_
  refine AL.pure rfl rfl (by decide) (P_move rfl) ?_
  refine AL.pure rfl rfl (by decide) (P_addN rfl rfl (by omega) (by omega)) ?_
  refine AL.pure rfl rfl (by decide) (P_assign rfl) ?_
  refine AL.nil ?_
  refine Then.go ?_
  refine AW.ret ?_
  refine ⟨(by exact .inr rfl), _, _, (.cons (.tmp rfl) .nil), SubG.nil, ?_, rfl, rfl⟩
  exact ⟨rfl, rfl⟩
theorem C_nor_within (v l t : Int) : ACalls Tryz.prog 115 [vI .i64 v, vI .i64 l, vI .i64 t] ([]) ([]) (fun r G => r = vB (decide (l ≤ v) && decide (v ≤ t)) ∧ G = []) := by
  refine acalls_of_body 15 [] Tryz.func115 rfl (by kernel_rfl) Tryz.ntmps115 (Nat.le_of_ble_eq_true rfl) rfl ?_
  refine AW.seq ?_
  refine AW.region ?_
  refine AL.pure rfl rfl (by decide) (P_assign rfl) ?_
  refine AL.nil ?_
  refine Then.go ?_
  refine AW.seq ?_
  refine AW.region ?_
  refine AL.pure rfl rfl (by decide) (P_move rfl) ?_
  refine AL.pure rfl rfl (by decide) (P_move rfl) ?_
  refine AL.pure rfl rfl (by decide) (P_geq rfl rfl) ?_
  refine AL.pure rfl rfl (by decide) (P_move rfl) ?_
  refine AL.caseD (t := 10) _ rfl (by decide) ?_ ?_
  · intro h1
    refine AL.pure rfl rfl (by decide) (P_move rfl) ?_
    refine AL.pure rfl rfl (by decide) (P_move rfl) ?_
    refine AL.pure rfl rfl (by decide) (P_leq rfl rfl) ?_
    refine AL.pure rfl rfl (by decide) (P_pickT rfl rfl) ?_
    refine AL.pure rfl rfl (by decide) (P_assign rfl) ?_
    refine AL.nil ?_
    refine Then.go ?_
    refine AW.ret ?_
    refine ⟨(by exact .inr rfl), _, _, (.cons (.tmp rfl) .nil), SubG.nil, ?_, rfl, rfl⟩
    refine ⟨?_, rfl⟩
    simp [oneOr, *]
  · intro h1
    refine AL.not rfl rfl (by decide) ?_
    refine AL.not rfl rfl (by decide) ?_
    refine AL.not rfl rfl (by decide) ?_
    refine AL.pure rfl rfl (by decide) (P_pickF rfl rfl) ?_
    refine AL.pure rfl rfl (by decide) (P_assign rfl) ?_
    refine AL.nil ?_
    refine Then.go ?_
    refine AW.ret ?_
    refine ⟨(by exact .inr rfl), _, _, (.cons (.tmp rfl) .nil), SubG.nil, ?_, rfl, rfl⟩
    refine ⟨?_, rfl⟩
    simp [oneOr, *]
end Go.Proofs.YtmakeajjgjnldaaGreatDoor
