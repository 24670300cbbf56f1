/- Walks, part 25: what is asked first of all. -/
import Derived.Test.YtmakeajjgjnldaaGreatDoorS24
set_option linter.unusedVariables false
set_option linter.unusedSimpArgs false
set_option maxRecDepth 100000
namespace Go.Proofs.YtmakeajjgjnldaaGreatDoor
open Go Go.Ab

def wideG : Geo := ⟨8, 2048, 12, 8, 32⟩
theorem wide_right : rightG wideG = true := by decide
def rootI : Ino := ⟨1, 2, 2, 0, ⟨#[]⟩, [], []⟩
def callz : Call := ⟨0, emS, emS, 0, 0, 0, 0, [], 0, 0⟩
/-- A call that asks how the root stands. -/
structure AsksRoot (c : Call) : Prop where
  kind : c.kind = 13
  path : splitN c.path = some []
  size : c.path.size ≤ 1000000000
  power : c.power = -1
def rootA : Ans := statA (statI rootI)

theorem tb33 : TyB Tryz.prog 33 128 := ⟨by kernel_rfl⟩
theorem tf47 : FldIs Tryz.prog fs47 [(0, 1), (1, 1), (2, 1), (3, 1), (4, 1)] := ⟨by kernel_rfl⟩

theorem C_garretplay_Wide  : ACalls Tryz.prog 29 [] ([]) ([]) (fun r G => r = .tr wideG.t ∧ G = []) := by
  refine acalls_of_body 2 [] Tryz.func29 rfl (by kernel_rfl) Tryz.ntmps29 (Nat.le_of_ble_eq_true rfl) rfl ?_
  refine AW.seq ?_
  refine AW.region ?_
  refine AL.eff rfl rfl (by decide) (E_alloc 100 tz48 rfl rfl rfl) ?_
  refine AL.nil ?_
  refine Then.go ?_
  refine AW.seq ?_
  refine AW.region ?_
  refine AL.pure rfl rfl (by decide) (P_build ty48 tz48 tf47 rfl) ?_
  refine AL.eff0 rfl rfl (E_store ty48 rfl rfl rfl rfl rfl (Nat.le_of_ble_eq_true rfl)) ?_
  refine AL.nil ?_
  refine Then.go ?_
  refine AW.ret ?_
  refine ⟨(by exact .inr rfl), _, _, (.cons (.cellA rfl rfl ty48 rfl (Nat.le_of_ble_eq_true rfl)) .nil), SubG.nil, ?_, rfl, rfl⟩
  exact ⟨rfl, rfl⟩
theorem C_Run_root (g : Geo) (hr : rightG g = true) (l : List Call) (hl : ∀ c ∈ l, AsksRoot c) (hn : l.length ≤ 1000) : ACalls Tryz.prog 48 [.tr g.t, .tr (.sl 1 []), .tr (.sl 10 (l.map Call.t))] ([]) ([]) (fun r G => r = .tup [.tr (.sl 12 (l.map fun _ => rootA.t)), vI .i64 0] ∧ G = []) := by
  refine acalls_of_body 36 [] Tryz.func48 rfl (by kernel_rfl) Tryz.ntmps48 (Nat.le_of_ble_eq_true rfl) rfl ?_
  refine AW.seq ?_
  refine AW.region ?_
  refine AL.eff rfl rfl (by decide) (E_box 103 rfl rfl rfl rfl rfl rfl) ?_
  refine AL.pure rfl rfl (by decide) (P_assign rfl) ?_
  refine AL.pure rfl rfl (by decide) (P_assign rfl) ?_
  refine AL.nil ?_
  refine Then.go ?_
  refine AW.seq ?_
  refine AW.region ?_
  refine AL.pure rfl rfl (by decide) (P_loadA ty48 rfl rfl rfl (Nat.le_of_ble_eq_true rfl)) ?_
  refine AL.pure rfl rfl (by decide) (P_move rfl) ?_
  refine AL.call (C_vfs_New g [] hr (fun n h => by cases h) (by simp) ) _ [] [] _ rfl (by decide) rfl rfl rfl SubG.nil ?_
  rintro _ _ ⟨s, z, nc, hs, hz, rfl, rfl, hj⟩
  refine ⟨rfl, rfl, ?_⟩
  refine AL.pure rfl rfl (by decide) (P_move rfl) ?_
  refine AL.pure rfl rfl (by decide) (P_extract rfl rfl) ?_
  refine AL.pure rfl rfl (by decide) (P_extract rfl rfl) ?_
  refine AL.pure rfl rfl (by decide) (P_assign rfl) ?_
  refine AL.pure rfl rfl (by decide) (P_assign rfl) ?_
  refine AL.nil ?_
  refine Then.go ?_
  refine AW.seq ?_
  refine AW.seq ?_
  refine AW.region ?_
  refine AL.pure rfl rfl (by decide) (P_move rfl) ?_
  refine AL.pure rfl rfl (by decide) (P_neq rfl rfl) ?_
  refine AL.nil ?_
  refine Then.go ?_
  refine AW.condF rfl ?_
  refine AW.skip ?_
  refine Then.go ?_
  refine AW.seq ?_
  refine AW.region ?_
  refine AL.pure rfl rfl (by decide) (P_assign rfl) ?_
  refine AL.ghost 10 203 33 12 rfl rfl rfl rfl ?_
  refine AL.nil ?_
  refine Then.go ?_
  refine AW.seq ?_
  refine AW.seq ?_
  refine AW.region ?_
  refine AL.pure rfl rfl (by decide) (P_move rfl) ?_
  refine AL_lenM rfl rfl (by decide) ty59 rfl fun h1 => ?_
  try simp only [bs_length, List.length_map, List.length_append, List.length_replicate, List.length_cons, List.length_nil, List.length_take, List.length_set] at h1
  refine AL.pure rfl rfl (by decide) (P_move rfl) ?_
  refine AL.nil ?_
  refine Then.go ?_
  refine AW.block ?_
  refine AW.loopK (σ := Nat) [6, 7, 8, 22, 23] [80, 60, 70, 71, 50, 40, 41, 30, 1, 2, 10, 11, 12, 20, 21, 22, 23] (.cons rfl (.cons rfl (.cons rfl (.cons rfl (.cons rfl .nil))))) (.cons rfl (.cons rfl (.cons rfl (.cons rfl (.cons rfl (.cons rfl (.cons rfl (.cons rfl (.cons rfl (.cons rfl (.cons rfl (.cons rfl (.cons rfl (.cons rfl (.cons rfl (.cons rfl (.cons rfl .nil))))))))))))))))) rfl (fun i => [(24, vI .i64 (i : Nat)), (10, .own 12 203 0 i)]) (fun i => [(203, .els 33 12 (List.replicate i rootA.t))]) (fun i => i ≤ l.length) (fun i => l.length - i) (0) ?_ ?_ ?_ ?_
  · skip
    exact Nat.zero_le _
  · skip
    refine SubT.cons' (by decide) rfl ?_ ?_
    · skip
      rfl
    refine SubT.cons' (by decide) rfl ?_ ?_
    · skip
      rfl
    exact SubT.nil
  · skip
    refine SubG.cons' rfl ?_ ?_
    · skip
      rfl
    exact SubG.nil
  · rintro i hs
    try dsimp only at hs
    dsimp only [List.cons_append, List.nil_append]
    
    refine AW.seq ?_
    refine AW.region ?_
    refine AL.pure rfl rfl (by decide) (P_lss rfl rfl) ?_
    refine AL.nil ?_
    refine Then.go ?_
    refine AW.seq ?_
    refine AW.condD _ rfl ?_ ?_
    · intro h2
      have hi : i < l.length := by omega
      refine AW.skip ?_
      refine Then.go ?_
      refine AW.seq ?_
      refine AW.block ?_
      refine AW.seq ?_
      refine AW.region ?_
      refine AL.pure rfl rfl (by decide) (P_indexSl ty59 ty42 rfl rfl (by exact map_at callz (by omega)) (by rfl)) ?_
      refine AL.pure rfl rfl (by decide) (P_loadAR ty42 rfl rfl (Nat.le_of_ble_eq_true rfl)) ?_
      have hx := hl _ (getD_mem callz hi)
      generalize l.getD i callz = x at hx ⊢
      refine AL.eff rfl rfl (by decide) (E_alloc 112 tz42 rfl rfl rfl) ?_
      refine AL.eff0 rfl rfl (E_store ty42 rfl rfl rfl rfl rfl (Nat.le_of_ble_eq_true rfl)) ?_
      refine AL.nil ?_
      refine Then.go ?_
      refine AW.region ?_
      refine AL.pure rfl rfl (by decide) (P_move rfl) ?_
      refine AL.pure rfl rfl (by decide) (P_move rfl) ?_
      refine AL.pure rfl rfl (by decide) (P_loadA ty42 rfl rfl rfl (Nat.le_of_ble_eq_true rfl)) ?_
      refine AL.call (C_Do_stat g Jr.new Sta.new_ok x hx.size hx.path rootI rfl rfl hx.kind hx.power nc.p hj.nor.calm ) _ [] [] _ rfl (by decide) rfl rfl rfl (SubG.cons rfl (SubG.cons rfl (SubG.cons rfl (SubG.cons rfl (SubG.cons rfl SubG.nil))))) ?_
      rintro _ _ ⟨rfl, rfl⟩
      refine ⟨rfl, rfl, ?_⟩
      refine AL.mk rfl rfl (by decide) (E_lit ty64 ty33 tz33 rfl rfl) ?_
      refine AL.eff rfl rfl (by decide) (E_append ty64 ty33 tz33 tb33 rfl rfl rfl rfl rfl (by (simp only [bs_length, List.length_map, List.length_append, List.length_replicate, List.length_set, List.length_take, List.length_nil, List.length_cons]; omega)) (by (simp only [bs_length, List.length_map, List.length_append, List.length_replicate, List.length_set, List.length_take, List.length_nil, List.length_cons]; omega))) ?_
      refine AL.pure rfl rfl (by decide) (P_assign rfl) ?_
      refine AL.nil ?_
      refine InBlock.go ?_
      refine Then.go ?_
      refine AW.region ?_
      refine AL.pure rfl rfl (by decide) (P_addN rfl rfl (by omega) (by omega)) ?_
      refine AL.pure rfl rfl (by decide) (P_move rfl) ?_
      refine AL.nil ?_
      refine Round.go (i + 1) ?_ ?_ ?_ ?_
      · try dsimp only
        omega
      · try dsimp only
        omega
      · skip
        refine SubT.cons' (by decide) rfl ?_ ?_
        · skip
          rfl
        refine SubT.cons' (by decide) rfl ?_ ?_
        · skip
          rfl
        exact (SubT.cons (by decide) rfl (SubT.cons (by decide) rfl (SubT.cons (by decide) rfl (SubT.cons (by decide) rfl (SubT.cons (by decide) rfl SubT.nil)))))
      · skip
        refine SubG.cons' rfl ?_ ?_
        · skip
          refine els_congr ?_
          rw [List.take_of_length_le (by simp), List.replicate_succ']; rfl
        exact (SubG.cons rfl (SubG.cons rfl (SubG.cons rfl (SubG.cons rfl (SubG.cons rfl (SubG.cons rfl (SubG.cons rfl (SubG.cons rfl (SubG.cons rfl (SubG.cons rfl (SubG.cons rfl (SubG.cons rfl (SubG.cons rfl (SubG.cons rfl (SubG.cons rfl (SubG.cons rfl (SubG.cons rfl SubG.nil)))))))))))))))))
    · intro h2
      refine AW.exit ?_
      refine Then.e ?_
      refine Round.e ?_
      refine InBlock.e ?_
      refine Then.go ?_
      refine AW.seq ?_
      refine AW.region ?_
      refine AL.pure rfl rfl (by decide) (P_move rfl) ?_
      refine AL.pure rfl rfl (by decide) (P_assign rfl) ?_
      refine AL.pure rfl rfl (by decide) (P_assign rfl) ?_
      refine AL.letGo 6 203 0 rfl rfl rfl (by decide) rfl (by (simp only [bs_length, List.length_map, List.length_append, List.length_replicate, List.length_set, List.length_take, List.length_nil, List.length_cons]; omega)) ?_
      refine AL.nil ?_
      refine Then.go ?_
      refine AW.ret ?_
      refine ⟨(by exact .inr rfl), _, _, (.cons (.tmp rfl) (.cons (.tmp rfl) .nil)), SubG.nil, ?_, rfl, rfl⟩
      refine ⟨?_, rfl⟩
      have hi : i = l.length := by omega
      subst hi
      rw [List.map_const']
      refine congrArg (fun q => AV.tup [.tr (.sl 12 q), vI .i64 0]) ?_
      rw [List.drop_zero, List.take_of_length_le (by simp)]
end Go.Proofs.YtmakeajjgjnldaaGreatDoor
