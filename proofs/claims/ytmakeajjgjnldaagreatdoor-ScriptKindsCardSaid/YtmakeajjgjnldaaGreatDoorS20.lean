/- Walks, part 20: a call that asks how a file stands. -/
import Derived.Test.YtmakeajjgjnldaaGreatDoorS19
set_option linter.unusedVariables false
set_option linter.unusedSimpArgs false
set_option maxRecDepth 100000
namespace Go.Proofs.YtmakeajjgjnldaaGreatDoor
open Go Go.Ab

def statA (s : Stt) : Ans := ⟨0, 0, [], [], s, 0, 0, 0⟩
abbrev ansR (a : Ans) : AObj := .row 33 (a.c.map AV.tr)

theorem ty22 : TyIs Tryz.prog 22 (.pointer 75) 1 := ⟨Tryz.underlying22, by kernel_rfl⟩
abbrev fs41 : Array Field := #[⟨ "Kind", 3, 0, false, "", "", 0⟩, ⟨ "Path", 9, 1, false, "", "", 8⟩, ⟨ "Other", 9, 2, false, "", "", 24⟩, ⟨ "Fd", 3, 3, false, "", "", 40⟩, ⟨ "N", 3, 4, false, "", "", 48⟩, ⟨ "At", 3, 5, false, "", "", 56⟩, ⟨ "Flags", 3, 6, false, "", "", 64⟩, ⟨ "Data", 26, 7, false, "", "", 72⟩, ⟨ "Power", 3, 8, false, "", "", 96⟩, ⟨ "Mask", 5, 9, false, "", "", 104⟩]
theorem ty42 : TyIs Tryz.prog 42 (.struct fs41) 10 := ⟨Tryz.underlying42, by kernel_rfl⟩

theorem C_vfs_stat_root (g : Geo) (j : Jr) (h : StaOk j.s) (c : Call) (ht : c.path.size ≤ 1000000000) (hr : splitN c.path = some []) (x : Ino) (hx : findI j.s.inos 1 = some x) (hn : x.runs = []) : ACalls Tryz.prog 94 [.ptr 80 0, .tr c.t] ([(80, sysO), (60, filesO), (50, volO g), (30, jrO j)]) ([]) (fun r G => r = .tr (statA (statI x)).t ∧ G = [(80, sysO), (60, filesO), (50, volO g), (30, jrO j)]) := by
  refine acalls_of_body 23 [80, 60, 50, 30, 1, 10, 20, 40, 70] Tryz.func94 rfl (by kernel_rfl) Tryz.ntmps94 (Nat.le_of_ble_eq_true rfl) rfl ?_
  refine AW.seq ?_
  refine AW.region ?_
  refine AL.eff rfl rfl (by decide) (E_box 103 rfl rfl rfl rfl rfl rfl) ?_
  refine AL.eff rfl rfl (by decide) (E_alloc 104 tz33 rfl rfl rfl) ?_
  refine AL.nil ?_
  refine Then.go ?_
  refine AW.seq ?_
  refine AD.start ?_
  refine AD.op 0 8 [] _ rfl rfl rfl (B_pure (P_move rfl)) ?_
  refine AD.op 1 9 [0] _ rfl rfl rfl (B_pure (P_nilCheck rfl)) ?_
  refine AD.op 2 10 [0, 1] _ rfl rfl rfl (B_pure (P_fieldAddr ty75 rfl ty72 rfl)) ?_
  refine AD.op 3 11 [0, 1, 2] _ rfl rfl rfl (B_pure (P_load ty72 rfl rfl rfl rfl)) ?_
  refine AD.op 4 12 [] _ rfl rfl rfl (B_pure (P_fieldAddr ty42 rfl ty9 rfl)) ?_
  refine AD.op 5 13 [4] _ rfl rfl rfl (B_pure (P_load ty9 rfl rfl rfl rfl)) ?_
  refine AD.op 6 14 [] _ rfl rfl rfl (B_pure (P_fieldAddr ty42 rfl ty3 rfl)) ?_
  refine AD.op 7 15 [6] _ rfl rfl rfl (B_pure (P_load ty3 rfl rfl rfl rfl)) ?_
  refine AD.op 8 16 [6, 7] _ rfl rfl rfl (B_pure (P_neq rfl rfl)) ?_
  refine AD.op 9 17 [0, 1, 2, 3, 4, 5, 6, 7, 8] _ rfl rfl rfl (B_callR (C_Stat_root g j h c.path ht hr _ x hx hn ) _ rfl rfl (SubG.cons rfl (SubG.cons rfl (SubG.cons rfl SubG.nil))) (by rintro _ _ ⟨rfl, rfl⟩; exact ⟨rfl, rfl⟩)) ?_
  refine AD.op 10 7 [0, 1, 2, 3, 4, 5, 6, 7, 8, 9] _ rfl rfl rfl (B_pure (P_move rfl)) ?_
  refine AD.op 11 18 [0, 1, 2, 3, 4, 5, 6, 7, 8, 9, 10] _ rfl rfl rfl (B_pure (P_extract rfl rfl)) ?_
  refine AD.op 12 19 [0, 1, 2, 3, 4, 5, 6, 7, 8, 9, 10] _ rfl rfl rfl (B_pure (P_extract rfl rfl)) ?_
  refine AD.op 13 5 [] _ rfl rfl rfl (B_alloc 105 tz29) ?_
  refine AD.tailE [12] mixed rfl (by kernel_rfl) (by kernel_rfl) (by kernel_rfl) (by kernel_rfl) (fun _ _ _ h => by obtain ⟨h1, _⟩ := h; rcases h1 with h1 | h1 <;> cases h1) ⟨True.intro, ⟨⟨_, rfl, rfl, rfl, W_extract rfl rfl⟩, ⟨True.intro, ⟨True.intro, ⟨True.intro, ⟨True.intro, ⟨True.intro, ⟨True.intro, ⟨True.intro, ⟨True.intro, ⟨True.intro, ⟨True.intro, ⟨True.intro, ⟨True.intro, trivial⟩⟩⟩⟩⟩⟩⟩⟩⟩⟩⟩⟩⟩⟩ rfl ?_
  refine AL.eff0 rfl rfl (E_store ty29 rfl rfl rfl rfl rfl (Nat.le_of_ble_eq_true rfl)) ?_
  refine AL.pure rfl rfl (by decide) (P_assign rfl) ?_
  refine AL.nil ?_
  refine Then.go ?_
  refine AW.seq ?_
  refine AW.region ?_
  refine AL.pure rfl rfl (by decide) (P_move rfl) ?_
  refine AL.pure rfl rfl (by decide) (P_loadA ty29 rfl rfl rfl (Nat.le_of_ble_eq_true rfl)) ?_
  refine AL.pure rfl rfl (by decide) (P_build ty33 tz33 tf32 rfl) ?_
  refine AL.eff0 rfl rfl (E_store ty33 rfl rfl rfl rfl rfl (Nat.le_of_ble_eq_true rfl)) ?_
  refine AL.nilO 104 2 1 rfl rfl ?_
  refine AL.nilO 104 3 1 rfl rfl ?_
  refine AL.recastO 104 (ansR (statA (statI x))) rfl rfl ?_
  refine AL.nil ?_
  refine Then.go ?_
  refine AW.ret ?_
  refine ⟨(by exact .inr rfl), _, _, (.cons (.cellA rfl rfl ty33 rfl (Nat.le_of_ble_eq_true rfl)) .nil), (SubG.cons (l := 80) rfl (SubG.cons (l := 60) rfl (SubG.cons (l := 50) rfl (SubG.cons (l := 30) rfl SubG.nil)))), ?_, rfl, rfl⟩
  exact ⟨rfl, rfl⟩
theorem C_answer_stat (g : Geo) (j : Jr) (h : StaOk j.s) (c : Call) (ht : c.path.size ≤ 1000000000) (hr : splitN c.path = some []) (x : Ino) (hx : findI j.s.inos 1 = some x) (hn : x.runs = []) (hk : c.kind = 13) : ACalls Tryz.prog 33 [.ptr 80 0, .tr c.t] ([(80, sysO), (60, filesO), (50, volO g), (30, jrO j)]) ([]) (fun r G => r = .tr (statA (statI x)).t ∧ G = [(80, sysO), (60, filesO), (50, volO g), (30, jrO j)]) := by
  refine acalls_of_body 37 [80, 60, 50, 30, 1, 10, 20, 40, 70] Tryz.func33 rfl (by kernel_rfl) Tryz.ntmps33 (Nat.le_of_ble_eq_true rfl) rfl ?_
  refine AW.seq ?_
  refine AW.region ?_
  refine AL.eff rfl rfl (by decide) (E_box 103 rfl rfl rfl rfl rfl rfl) ?_
  refine AL.eff rfl rfl (by decide) (E_alloc 104 tz33 rfl rfl rfl) ?_
  refine AL.nil ?_
  refine Then.go ?_
  refine AW.seq ?_
  refine AW.seq ?_
  refine AW.region ?_
  refine AL.pure rfl rfl (by decide) (P_move rfl) ?_
  refine AL.pure rfl rfl (by decide) (P_nilCheck rfl) ?_
  refine AL.pure rfl rfl (by decide) (P_fieldAddr ty75 rfl ty25 rfl) ?_
  refine AL.pure rfl rfl (by decide) (P_load ty25 rfl rfl rfl rfl) ?_
  refine AL.pure rfl rfl (by decide) (P_neq rfl rfl) ?_
  refine AL.pure rfl rfl (by decide) (P_move rfl) ?_
  refine AL.not rfl rfl (by decide) ?_
  refine AL.not rfl rfl (by decide) ?_
  refine AL.not rfl rfl (by decide) ?_
  refine AL.pure rfl rfl (by decide) (P_pickF rfl rfl) ?_
  refine AL.nil ?_
  refine Then.go ?_
  refine AW.condF rfl ?_
  refine AW.skip ?_
  refine Then.go ?_
  refine AW.seq ?_
  refine AD.start ?_
  refine AD.op 0 23 [] _ rfl rfl rfl (B_pure (P_move rfl)) ?_
  refine AD.op 1 24 [0] _ rfl rfl rfl (B_call0 (C_vfs_System_calls ) _ rfl rfl (by rintro _ _ ⟨rfl, rfl⟩; exact ⟨rfl, rfl⟩)) ?_
  refine AD.op 2 25 [] _ rfl rfl rfl (B_pure (P_fieldAddr ty42 rfl ty3 rfl)) ?_
  refine AD.op 3 26 [2] _ rfl rfl rfl (B_pure (P_load ty3 rfl rfl rfl rfl)) ?_
  refine AD.op 4 27 [2, 3] _ rfl rfl rfl (B_pure (P_build ty122 tz122 tf121 rfl)) ?_
  refine AD.op 5 28 [0, 1, 2, 3, 4] _ rfl rfl rfl (B_pure (P_lookupSome (kx := k1 c.kind) (.fn 94 [.ptr 80 0] []) mi119 rfl (fun S => evK1 S rfl) rfl callsE_key callsE_nd (by rw [hk]; exact List.mem_map.2 ⟨(52, 13, _), by decide, rfl⟩))) ?_
  refine AD.op 6 22 [0, 1, 2, 3, 4, 5] _ rfl rfl rfl (B_pure (P_move rfl)) ?_
  refine AD.op 7 29 [0, 1, 2, 3, 4, 5, 6] _ rfl rfl rfl (B_pure (P_extract rfl rfl)) ?_
  refine AD.op 8 30 [0, 1, 2, 3, 4, 5, 6] _ rfl rfl rfl (B_pure (P_extract rfl rfl)) ?_
  refine AD.tailE [8] mixed rfl (by kernel_rfl) (by kernel_rfl) (by kernel_rfl) (by kernel_rfl) (fun _ _ _ h => by obtain ⟨h1, _⟩ := h; rcases h1 with h1 | h1 <;> cases h1) ⟨⟨_, rfl, rfl, rfl, W_extract rfl rfl⟩, ⟨True.intro, ⟨True.intro, ⟨True.intro, ⟨True.intro, ⟨True.intro, ⟨True.intro, ⟨True.intro, ⟨True.intro, trivial⟩⟩⟩⟩⟩⟩⟩⟩⟩ rfl ?_
  refine AL.pure rfl rfl (by decide) (P_assign rfl) ?_
  refine AL.pure rfl rfl (by decide) (P_assign rfl) ?_
  refine AL.nil ?_
  refine Then.go ?_
  refine AW.seq ?_
  refine AW.seq ?_
  refine AW.region ?_
  refine AL.pure rfl rfl (by decide) (P_move rfl) ?_
  refine AL.pure rfl rfl (by decide) (P_not rfl) ?_
  refine AL.nil ?_
  refine Then.go ?_
  refine AW.condF rfl ?_
  refine AW.skip ?_
  refine Then.go ?_
  refine AW.seq ?_
  refine AW.region ?_
  refine AL.pure rfl rfl (by decide) (P_move rfl) ?_
  refine AL.pure rfl rfl (by decide) (P_loadA ty42 rfl rfl rfl (Nat.le_of_ble_eq_true rfl)) ?_
  refine AL.call (C_vfs_stat_root g j h c ht hr x hx hn) _ _ _ _ rfl (by decide) rfl rfl rfl (SubG.cons rfl (SubG.cons rfl (SubG.cons rfl (SubG.cons rfl SubG.nil)))) ?_
  rintro _ _ ⟨rfl, rfl⟩
  refine ⟨rfl, rfl, ?_⟩
  refine AL.eff0 rfl rfl (E_store ty33 rfl rfl rfl rfl rfl (Nat.le_of_ble_eq_true rfl)) ?_
  refine AL.recastO 104 (ansR (statA (statI x))) rfl rfl ?_
  refine AL.nil ?_
  refine Then.go ?_
  refine AW.ret ?_
  refine ⟨(by exact .inr rfl), _, _, (.cons (.cellA rfl rfl ty33 rfl (Nat.le_of_ble_eq_true rfl)) .nil), (SubG.cons (l := 80) rfl (SubG.cons (l := 60) rfl (SubG.cons (l := 50) rfl (SubG.cons (l := 30) rfl SubG.nil)))), ?_, rfl, rfl⟩
  exact ⟨rfl, rfl⟩
theorem C_Do_stat (g : Geo) (j : Jr) (h : StaOk j.s) (c : Call) (ht : c.path.size ≤ 1000000000) (hr : splitN c.path = some []) (x : Ino) (hx : findI j.s.inos 1 = some x) (hn : x.runs = []) (hk : c.kind = 13) (hp : c.power = -1) (p : Pw) (hpc : p.calm) : ACalls Tryz.prog 13 [.ptr 80 0, .tr c.t] ([(80, sysO), (60, filesO), (50, volO g), (30, jrO j), (1, pwO p)]) ([]) (fun r G => r = .tr (statA (statI x)).t ∧ G = [(80, sysO), (60, filesO), (50, volO g), (30, jrO j), (1, pwO p)]) := by
  refine acalls_of_body 51 [80, 60, 50, 30, 1, 10, 20, 40, 70, 2] Tryz.func13 rfl (by kernel_rfl) Tryz.ntmps13 (Nat.le_of_ble_eq_true rfl) rfl ?_
  refine AW.seq ?_
  refine AW.region ?_
  refine AL.eff rfl rfl (by decide) (E_box 103 rfl rfl rfl rfl rfl rfl) ?_
  refine AL.eff rfl rfl (by decide) (E_alloc 104 tz33 rfl rfl rfl) ?_
  refine AL.nil ?_
  refine Then.go ?_
  refine AW.seq ?_
  refine AW.seq ?_
  refine AW.region ?_
  refine AL.pure rfl rfl (by decide) (P_move rfl) ?_
  refine AL.pure rfl rfl (by decide) (P_eqlPN ty22 rfl rfl) ?_
  refine AL.nil ?_
  refine Then.go ?_
  refine AW.condF rfl ?_
  refine AW.skip ?_
  refine Then.go ?_
  refine AW.seq ?_
  refine AW.seq ?_
  refine AW.region ?_
  refine AL.pure rfl rfl (by decide) (P_fieldAddr ty42 rfl ty3 rfl) ?_
  refine AL.pure rfl rfl (by decide) (P_load ty3 rfl rfl rfl rfl) ?_
  refine AL.pure rfl rfl (by decide) (P_geq rfl rfl) ?_
  rw [hp]
  refine AL.nil ?_
  refine Then.go ?_
  refine AW.condF rfl ?_
  refine AW.skip ?_
  refine Then.go ?_
  refine AW.seq ?_
  refine AW.region ?_
  refine AL.pure rfl rfl (by decide) (P_move rfl) ?_
  refine AL.pure rfl rfl (by decide) (P_loadA ty42 rfl rfl rfl (Nat.le_of_ble_eq_true rfl)) ?_
  refine AL.call (C_answer_stat g j h c ht hr x hx hn hk ) _ [] [] _ rfl (by decide) rfl rfl rfl (SubG.cons rfl (SubG.cons rfl (SubG.cons rfl (SubG.cons rfl SubG.nil)))) ?_
  rintro _ _ ⟨rfl, rfl⟩
  refine ⟨rfl, rfl, ?_⟩
  refine AL.eff rfl rfl (by decide) (E_alloc 105 tz33 rfl rfl rfl) ?_
  refine AL.eff0 rfl rfl (E_store ty33 rfl rfl rfl rfl rfl (Nat.le_of_ble_eq_true rfl)) ?_
  refine AL.recastO 105 (ansR (statA (statI x))) rfl rfl ?_
  refine AL.nil ?_
  refine Then.go ?_
  refine AW.seq ?_
  refine AW.region ?_
  refine AL.pure rfl rfl (by decide) (P_move rfl) ?_
  refine AL.pure rfl rfl (by decide) (P_nilCheck rfl) ?_
  refine AL.pure rfl rfl (by decide) (P_fieldAddr ty75 rfl ty70 rfl) ?_
  refine AL.pure rfl rfl (by decide) (P_load ty70 rfl rfl rfl rfl) ?_
  refine AL.call (C_power_Power_Off p ) _ [] [] _ rfl (by decide) rfl rfl rfl (SubG.cons rfl SubG.nil) ?_
  rintro _ _ ⟨rfl, rfl⟩
  refine ⟨rfl, rfl, ?_⟩
  rw [hpc.2]
  refine AL.pure rfl rfl (by decide) (P_assign rfl) ?_
  refine AL.nil ?_
  refine Then.go ?_
  refine AW.seq ?_
  refine AW.region ?_
  refine AL.pure rfl rfl (by decide) (P_move rfl) ?_
  refine AL.pure rfl rfl (by decide) (P_nilCheck rfl) ?_
  refine AL.pure rfl rfl (by decide) (P_fieldAddr ty75 rfl ty70 rfl) ?_
  refine AL.pure rfl rfl (by decide) (P_load ty70 rfl rfl rfl rfl) ?_
  refine AL.call (C_power_Power_On p ) _ [] [] _ rfl (by decide) rfl rfl rfl (SubG.cons rfl SubG.nil) ?_
  rintro _ _ ⟨rfl, rfl⟩
  refine ⟨rfl, rfl, ?_⟩
  refine AL.recastO 1 (pwO p) rfl (by obtain ⟨q1, q2⟩ := hpc; cases p; simp only at q1 q2; subst q1 q2; rfl) ?_
  refine AL.nil ?_
  refine Then.go ?_
  refine AW.seq ?_
  refine AW.seq ?_
  refine AW.region ?_
  refine AL.pure rfl rfl (by decide) (P_move rfl) ?_
  refine AL.nil ?_
  refine Then.go ?_
  refine AW.condF rfl ?_
  refine AW.skip ?_
  refine Then.go ?_
  refine AW.seq ?_
  refine AW.region ?_
  refine AL.pure rfl rfl (by decide) (P_loadA ty33 rfl rfl rfl (Nat.le_of_ble_eq_true rfl)) ?_
  refine AL.eff0 rfl rfl (E_store ty33 rfl rfl rfl rfl rfl (Nat.le_of_ble_eq_true rfl)) ?_
  refine AL.recastO 104 (ansR (statA (statI x))) rfl rfl ?_
  refine AL.nil ?_
  refine Then.go ?_
  refine AW.ret ?_
  refine ⟨(by exact .inr rfl), _, _, (.cons (.cellA rfl rfl ty33 rfl (Nat.le_of_ble_eq_true rfl)) .nil), (SubG.cons (l := 80) rfl (SubG.cons (l := 60) rfl (SubG.cons (l := 50) rfl (SubG.cons (l := 30) rfl (SubG.cons (l := 1) rfl SubG.nil))))), ?_, rfl, rfl⟩
  exact ⟨rfl, rfl⟩
end Go.Proofs.YtmakeajjgjnldaaGreatDoor
