/- Walks, part 10: the state as data, and a journal's first frame. -/
import Derived.Test.YtmakeajjgjnldaaGreatDoorS9
set_option linter.unusedVariables false
set_option linter.unusedSimpArgs false
set_option maxRecDepth 100000
namespace Go.Proofs.YtmakeajjgjnldaaGreatDoor
open Go Go.Ab

abbrev inz : Ino := Ino.z

theorem tb3 : TyB Tryz.prog 3 8 := ⟨by kernel_rfl⟩
theorem ty35 : TyIs Tryz.prog 35 (.slice 85) 1 := ⟨Tryz.underlying35, by kernel_rfl⟩
abbrev fs37 : Array Field := #[⟨ "Next", 3, 0, false, "", "", 0⟩, ⟨ "Inodes", 35, 1, false, "", "", 8⟩, ⟨ "Bad", 36, 2, false, "", "", 32⟩]
theorem tf37 : FldIs Tryz.prog fs37 [(0, 1), (1, 1), (2, 1)] := ⟨by kernel_rfl⟩
theorem ty38 : TyIs Tryz.prog 38 (.struct fs37) 3 := ⟨Tryz.underlying38, by kernel_rfl⟩
theorem tz38 : TyZ Tryz.prog 38 (.agg #[.int .i64 0, .slice none 0 0, .slice none 0 0]) := ⟨by kernel_rfl⟩
theorem tf84 : FldIs Tryz.prog fs84 [(0, 1), (1, 1), (2, 1), (3, 1), (4, 1), (5, 1), (6, 1)] := ⟨by kernel_rfl⟩
theorem tz85 : TyZ Tryz.prog 85 (.agg #[.int .i64 0, .int .i64 0, .int .i64 0, .int .i64 0, .string ⟨#[]⟩, .slice none 0 0, .slice none 0 0]) := ⟨by kernel_rfl⟩
theorem tf131 : FldIs Tryz.prog fs131 [(0, 1), (1, 1), (2, 7)] := ⟨by kernel_rfl⟩
theorem tb132 : TyB Tryz.prog 132 112 := ⟨by kernel_rfl⟩
theorem tb136 : TyB Tryz.prog 136 24 := ⟨by kernel_rfl⟩
theorem tb139 : TyB Tryz.prog 139 24 := ⟨by kernel_rfl⟩
theorem ty323 : TyIs Tryz.prog 323 (.array 4 3) 4 := ⟨Tryz.underlying323, by kernel_rfl⟩
theorem tz323 : TyZ Tryz.prog 323 (.agg #[.int .i64 0, .int .i64 0, .int .i64 0, .int .i64 0]) := ⟨by kernel_rfl⟩

theorem C_slices_Clone_api_Entry_api_Entry (xs : List Tr) (h : xs.length ≤ 1000000) : ACalls Tryz.prog 239 [.tr (.sl 2 xs)] ([]) ([]) (fun r G => r = .tr (.sl 2 xs) ∧ G = []) := by
  refine acalls_of_body 8 [] Tryz.func239 rfl (by kernel_rfl) Tryz.ntmps239 (Nat.le_of_ble_eq_true rfl) rfl ?_
  refine AW.seq ?_
  refine AW.region ?_
  refine AL.pure rfl rfl (by decide) (P_assign rfl) ?_
  refine AL.nil ?_
  refine Then.go ?_
  refine AW.seq ?_
  refine AW.seq ?_
  refine AW.region ?_
  refine AL.pure rfl rfl (by decide) (P_move rfl) ?_
  refine AL_eqlNil rfl rfl (by decide) ty82 rfl rfl fun bh1 h1 => ?_
  refine AL.nil ?_
  refine Then.go ?_
  refine AW.cond _ rfl ?_ ?_
  · intro h2
    refine AW.seq ?_
    refine AW.region ?_
    refine AL.pure rfl rfl (by decide) (P_assign rfl) ?_
    refine AL.nilS 2 2 rfl ?_
    refine AL.nil ?_
    refine Then.go ?_
    refine AW.ret ?_
    refine Then.r ?_
    refine ⟨(by exact .inr rfl), _, _, (.cons (.tmp rfl) .nil), SubG.nil, ?_, rfl, rfl⟩
    (obtain rfl := h1 h2; exact ⟨rfl, rfl⟩)
  · intro h2
    refine AW.skip ?_
    refine Then.go ?_
    refine AW.seq ?_
    refine AW.region ?_
    refine AL.eff rfl rfl (by decide) (E_litO 90 ty82 ty136 tz136 rfl rfl rfl rfl rfl) ?_
    refine AL.pure rfl rfl (by decide) (P_move rfl) ?_
    refine AL.eff rfl rfl (by decide) (E_append ty82 ty136 tz136 tb136 rfl rfl rfl rfl rfl (by omega) (by omega)) ?_
    refine AL.pure rfl rfl (by decide) (P_assign rfl) ?_
    refine AL.letGo 2 90 0 rfl rfl rfl (by decide) rfl (by simp) ?_
    refine AL.nil ?_
    refine Then.go ?_
    refine AW.ret ?_
    refine ⟨(by exact .inr rfl), _, _, (.cons (.tmp rfl) .nil), SubG.nil, ?_, rfl, rfl⟩
    (refine ⟨sl_congr ?_, rfl⟩; simp; done)
theorem C_slices_Clone_api_Run_api_Run (xs : List Tr) (h : xs.length ≤ 1000000) : ACalls Tryz.prog 240 [.tr (.sl 3 xs)] ([]) ([]) (fun r G => r = .tr (.sl 3 xs) ∧ G = []) := by
  refine acalls_of_body 8 [] Tryz.func240 rfl (by kernel_rfl) Tryz.ntmps240 (Nat.le_of_ble_eq_true rfl) rfl ?_
  refine AW.seq ?_
  refine AW.region ?_
  refine AL.pure rfl rfl (by decide) (P_assign rfl) ?_
  refine AL.nil ?_
  refine Then.go ?_
  refine AW.seq ?_
  refine AW.seq ?_
  refine AW.region ?_
  refine AL.pure rfl rfl (by decide) (P_move rfl) ?_
  refine AL_eqlNil rfl rfl (by decide) ty83 rfl rfl fun bh1 h1 => ?_
  refine AL.nil ?_
  refine Then.go ?_
  refine AW.cond _ rfl ?_ ?_
  · intro h2
    refine AW.seq ?_
    refine AW.region ?_
    refine AL.pure rfl rfl (by decide) (P_assign rfl) ?_
    refine AL.nilS 2 3 rfl ?_
    refine AL.nil ?_
    refine Then.go ?_
    refine AW.ret ?_
    refine Then.r ?_
    refine ⟨(by exact .inr rfl), _, _, (.cons (.tmp rfl) .nil), SubG.nil, ?_, rfl, rfl⟩
    (obtain rfl := h1 h2; exact ⟨rfl, rfl⟩)
  · intro h2
    refine AW.skip ?_
    refine Then.go ?_
    refine AW.seq ?_
    refine AW.region ?_
    refine AL.eff rfl rfl (by decide) (E_litO 90 ty83 ty139 tz139 rfl rfl rfl rfl rfl) ?_
    refine AL.pure rfl rfl (by decide) (P_move rfl) ?_
    refine AL.eff rfl rfl (by decide) (E_append ty83 ty139 tz139 tb139 rfl rfl rfl rfl rfl (by omega) (by omega)) ?_
    refine AL.pure rfl rfl (by decide) (P_assign rfl) ?_
    refine AL.letGo 2 90 0 rfl rfl rfl (by decide) rfl (by simp) ?_
    refine AL.nil ?_
    refine Then.go ?_
    refine AW.ret ?_
    refine ⟨(by exact .inr rfl), _, _, (.cons (.tmp rfl) .nil), SubG.nil, ?_, rfl, rfl⟩
    (refine ⟨sl_congr ?_, rfl⟩; simp; done)
theorem C_slices_Clone_int_int (xs : List Tr) (h : xs.length ≤ 1000000) : ACalls Tryz.prog 127 [.tr (.sl 1 xs)] ([]) ([]) (fun r G => r = .tr (.sl 1 xs) ∧ G = []) := by
  refine acalls_of_body 8 [] Tryz.func127 rfl (by kernel_rfl) Tryz.ntmps127 (Nat.le_of_ble_eq_true rfl) rfl ?_
  refine AW.seq ?_
  refine AW.region ?_
  refine AL.pure rfl rfl (by decide) (P_assign rfl) ?_
  refine AL.nil ?_
  refine Then.go ?_
  refine AW.seq ?_
  refine AW.seq ?_
  refine AW.region ?_
  refine AL.pure rfl rfl (by decide) (P_move rfl) ?_
  refine AL_eqlNil rfl rfl (by decide) ty36 rfl rfl fun bh1 h1 => ?_
  refine AL.nil ?_
  refine Then.go ?_
  refine AW.cond _ rfl ?_ ?_
  · intro h2
    refine AW.seq ?_
    refine AW.region ?_
    refine AL.pure rfl rfl (by decide) (P_assign rfl) ?_
    refine AL.nilS 2 1 rfl ?_
    refine AL.nil ?_
    refine Then.go ?_
    refine AW.ret ?_
    refine Then.r ?_
    refine ⟨(by exact .inr rfl), _, _, (.cons (.tmp rfl) .nil), SubG.nil, ?_, rfl, rfl⟩
    (obtain rfl := h1 h2; exact ⟨rfl, rfl⟩)
  · intro h2
    refine AW.skip ?_
    refine Then.go ?_
    refine AW.seq ?_
    refine AW.region ?_
    refine AL.eff rfl rfl (by decide) (E_litO 90 ty36 ty3 tz3 rfl rfl rfl rfl rfl) ?_
    refine AL.pure rfl rfl (by decide) (P_move rfl) ?_
    refine AL.eff rfl rfl (by decide) (E_append ty36 ty3 tz3 tb3 rfl rfl rfl rfl rfl (by omega) (by omega)) ?_
    refine AL.pure rfl rfl (by decide) (P_assign rfl) ?_
    refine AL.letGo 2 90 0 rfl rfl rfl (by decide) rfl (by simp) ?_
    refine AL.nil ?_
    refine Then.go ?_
    refine AW.ret ?_
    refine ⟨(by exact .inr rfl), _, _, (.cons (.tmp rfl) .nil), SubG.nil, ?_, rfl, rfl⟩
    (refine ⟨sl_congr ?_, rfl⟩; simp; done)
theorem C_state_own (x : Ino) (he : x.ents.length ≤ 1000000) (hr : x.runs.length ≤ 1000000) : ACalls Tryz.prog 185 [.tr x.t] ([]) ([]) (fun r G => r = .tr x.t ∧ G = []) := by
  refine acalls_of_body 12 [] Tryz.func185 rfl (by kernel_rfl) Tryz.ntmps185 (Nat.le_of_ble_eq_true rfl) rfl ?_
  refine AW.seq ?_
  refine AW.region ?_
  refine AL.eff rfl rfl (by decide) (E_box 101 rfl rfl rfl rfl rfl rfl) ?_
  refine AL.eff rfl rfl (by decide) (E_alloc 102 tz85 rfl rfl rfl) ?_
  refine AL.nil ?_
  refine Then.go ?_
  refine AW.seq ?_
  refine AD.start ?_
  refine AD.op 0 3 [] _ rfl rfl rfl (B_pure (P_fieldAddr ty85 rfl ty82 rfl)) ?_
  refine AD.op 1 4 [0] _ rfl rfl rfl (B_pure (P_load ty82 rfl rfl rfl rfl)) ?_
  refine AD.op 2 5 [0, 1] _ rfl rfl rfl (B_call0 (C_slices_Clone_api_Entry_api_Entry _ (by (simp only [bs_length, List.length_map, List.length_append, List.length_replicate, List.length_set, List.length_take, List.length_nil, List.length_cons]; omega))) _ rfl rfl (by rintro _ _ ⟨rfl, rfl⟩; exact ⟨rfl, rfl⟩)) ?_
  refine AD.op 3 6 [] _ rfl rfl rfl (B_pure (P_fieldAddr ty85 rfl ty83 rfl)) ?_
  refine AD.op 4 7 [3] _ rfl rfl rfl (B_pure (P_load ty83 rfl rfl rfl rfl)) ?_
  refine AD.op 5 8 [0, 1, 2, 3, 4] _ rfl rfl rfl (B_call0 (C_slices_Clone_api_Run_api_Run _ (by (simp only [bs_length, List.length_map, List.length_append, List.length_replicate, List.length_set, List.length_take, List.length_nil, List.length_cons]; omega))) _ rfl rfl (by rintro _ _ ⟨rfl, rfl⟩; exact ⟨rfl, rfl⟩)) ?_
  refine AD.op 6 9 [0, 1, 2, 3, 4] _ rfl rfl rfl (B_pure (P_fieldAddr ty85 rfl ty82 rfl)) ?_
  refine AD.tail mixed rfl (by kernel_rfl) rfl ?_
  refine AL.eff0 rfl rfl (E_store ty82 rfl rfl rfl rfl rfl (Nat.le_of_ble_eq_true rfl)) ?_
  refine AL.pure rfl rfl (by decide) (P_fieldAddr ty85 rfl ty83 rfl) ?_
  refine AL.eff0 rfl rfl (E_store ty83 rfl rfl rfl rfl rfl (Nat.le_of_ble_eq_true rfl)) ?_
  refine AL.nil ?_
  refine Then.go ?_
  refine AW.seq ?_
  refine AW.region ?_
  refine AL.pure rfl rfl (by decide) (P_loadA ty85 rfl rfl rfl (Nat.le_of_ble_eq_true rfl)) ?_
  refine AL.eff0 rfl rfl (E_store ty85 rfl rfl rfl rfl rfl (Nat.le_of_ble_eq_true rfl)) ?_
  refine AL.nil ?_
  refine Then.go ?_
  refine AW.ret ?_
  refine ⟨(by exact .inr rfl), _, _, (.cons (.cellA rfl rfl ty85 rfl (Nat.le_of_ble_eq_true rfl)) .nil), SubG.nil, ?_, rfl, rfl⟩
  exact ⟨rfl, rfl⟩
theorem C_inode_New (no : Nat) : ACalls Tryz.prog 175 [vI .i64 (no : Nat), vI .i64 2, vS ⟨#[]⟩] ([]) ([]) (fun r G => r = .tr (Ino.t ⟨no, 2, 2, 0, ⟨#[]⟩, [], []⟩) ∧ G = []) := by
  refine acalls_of_body 31 [] Tryz.func175 rfl (by kernel_rfl) Tryz.ntmps175 (Nat.le_of_ble_eq_true rfl) rfl ?_
  refine AW.seq ?_
  refine AW.region ?_
  refine AL.eff rfl rfl (by decide) (E_alloc 106 tz85 rfl rfl rfl) ?_
  refine AL.nil ?_
  refine Then.go ?_
  refine AW.seq ?_
  refine AW.region ?_
  refine AL.pure rfl rfl (by decide) (P_buildArr ty323 ty3 tz323 rfl) ?_
  refine AL.eff rfl rfl (by decide) (E_alloc 107 tz323 rfl rfl rfl) ?_
  refine AL.eff0 rfl rfl (E_store ty323 rfl rfl rfl rfl rfl (Nat.le_of_ble_eq_true rfl)) ?_
  refine AL.nil ?_
  refine Then.go ?_
  refine AW.seq ?_
  refine AW.region ?_
  refine AL.pure rfl rfl (by decide) (P_move rfl) ?_
  refine AL.pure rfl rfl (by decide) (P_move rfl) ?_
  refine AL.pure rfl rfl (by decide) (P_build ty85 tz85 tf84 rfl) ?_
  refine AL.eff rfl rfl (by decide) (E_alloc 108 tz85 rfl rfl rfl) ?_
  refine AL.eff0 rfl rfl (E_store ty85 rfl rfl rfl rfl rfl (Nat.le_of_ble_eq_true rfl)) ?_
  refine AL.nil ?_
  refine Then.go ?_
  refine AW.seq ?_
  refine AW.seq ?_
  refine AW.region ?_
  refine AL.pure rfl rfl (by decide) (P_move rfl) ?_
  refine AL.pure rfl rfl (by decide) (P_gtr rfl rfl) ?_
  refine AL.pure rfl rfl (by decide) (P_move rfl) ?_
  refine AL.pure rfl rfl (by decide) (P_move rfl) ?_
  refine AL.pure rfl rfl (by decide) (P_lss rfl rfl) ?_
  refine AL.pure rfl rfl (by decide) (P_pickT rfl rfl) ?_
  refine AL.nil ?_
  refine Then.go ?_
  refine AW.condT rfl ?_
  refine AW.region ?_
  refine AL.pure rfl rfl (by decide) (P_move rfl) ?_
  refine AL.pure rfl rfl (by decide) (P_indexArr (j := 2) ty323 ty3 rfl rfl (by omega)) ?_
  refine AL.pure rfl rfl (by decide) (P_load ty3 rfl rfl rfl rfl) ?_
  refine AL.pure rfl rfl (by decide) (P_fieldAddr ty85 rfl ty3 rfl) ?_
  refine AL.eff0 rfl rfl (E_store ty3 rfl rfl rfl rfl rfl (Nat.le_of_ble_eq_true rfl)) ?_
  refine AL.nil ?_
  refine Then.go ?_
  refine AW.seq ?_
  refine AW.seq ?_
  refine AW.region ?_
  refine AL.pure rfl rfl (by decide) (P_move rfl) ?_
  refine AL.pure rfl rfl (by decide) (P_eql rfl rfl) ?_
  refine AL.nil ?_
  refine Then.go ?_
  refine AW.condF rfl ?_
  refine AW.skip ?_
  refine Then.go ?_
  refine AW.seq ?_
  refine AW.region ?_
  refine AL.pure rfl rfl (by decide) (P_loadA ty85 rfl rfl rfl (Nat.le_of_ble_eq_true rfl)) ?_
  refine AL.eff0 rfl rfl (E_store ty85 rfl rfl rfl rfl rfl (Nat.le_of_ble_eq_true rfl)) ?_
  refine AL.nilO 106 5 2 rfl rfl ?_
  refine AL.nilO 106 6 3 rfl rfl ?_
  refine AL.nil ?_
  refine Then.go ?_
  refine AW.ret ?_
  refine ⟨(by exact .inr rfl), _, _, (.cons (.cellA rfl rfl ty85 rfl (Nat.le_of_ble_eq_true rfl)) .nil), SubG.nil, ?_, rfl, rfl⟩
  exact ⟨rfl, rfl⟩

def Sta.new : Sta := ⟨2, [⟨1, 2, 2, 0, ⟨#[]⟩, [], []⟩], []⟩
def Sta.t (s : Sta) : Tr := .agg s.c
def wholeD (s : Sta) : List Dd := ⟨1, s.next, Ino.z⟩ :: (s.inos.map (fun x => ⟨2, 0, x⟩) ++ s.bad.map (fun n => ⟨4, n, Ino.z⟩))

theorem C_state_New  : ACalls Tryz.prog 120 [] ([]) ([]) (fun r G => r = .tr Sta.new.t ∧ G = []) := by
  refine acalls_of_body 4 [] Tryz.func120 rfl (by kernel_rfl) Tryz.ntmps120 (Nat.le_of_ble_eq_true rfl) rfl ?_
  refine AW.seq ?_
  refine AW.region ?_
  refine AL.eff rfl rfl (by decide) (E_alloc 100 tz38 rfl rfl rfl) ?_
  refine AL.nil ?_
  refine Then.go ?_
  refine AW.seq ?_
  refine AW.region ?_
  refine AL.call (C_inode_New 1 ) _ [] [] _ rfl (by decide) rfl rfl rfl SubG.nil ?_
  rintro _ _ ⟨rfl, rfl⟩
  refine ⟨rfl, rfl, ?_⟩
  refine AL.mk rfl rfl (by decide) (E_lit ty35 ty85 tz85 rfl rfl) ?_
  refine AL.pure rfl rfl (by decide) (P_build ty38 tz38 tf37 rfl) ?_
  refine AL.eff0 rfl rfl (E_store ty38 rfl rfl rfl rfl rfl (Nat.le_of_ble_eq_true rfl)) ?_
  refine AL.nilO 100 2 1 rfl rfl ?_
  refine AL.nil ?_
  refine Then.go ?_
  refine AW.ret ?_
  refine ⟨(by exact .inr rfl), _, _, (.cons (.cellA rfl rfl ty38 rfl (Nat.le_of_ble_eq_true rfl)) .nil), SubG.nil, ?_, rfl, rfl⟩
  exact ⟨rfl, rfl⟩

def wholeA (s : Sta) (i : Nat) : List Dd := ⟨1, s.next, Ino.z⟩ :: (s.inos.take i).map (fun x => ⟨2, 0, x⟩)
def wholeB (s : Sta) (j : Nat) : List Dd := wholeA s s.inos.length ++ (s.bad.take j).map (fun n => ⟨4, n, Ino.z⟩)
theorem wholeA_length {s : Sta} {i : Nat} (h : i ≤ s.inos.length) : (wholeA s i).length = i + 1 := by simp [wholeA]; omega
theorem wholeB_length {s : Sta} {j : Nat} (h : j ≤ s.bad.length) : (wholeB s j).length = s.inos.length + 1 + j := by simp [wholeB, wholeA]; omega
theorem wholeA_succ {s : Sta} {i : Nat} (h : i < s.inos.length) : wholeA s (i + 1) = wholeA s i ++ [⟨2, 0, s.inos.getD i inz⟩] := by
  simp only [wholeA, List.take_add_one, List.map_append, List.cons_append]
  simp [List.getElem?_eq_getElem h, List.getD, h]
theorem wholeB_succ {s : Sta} {j : Nat} (h : j < s.bad.length) : wholeB s (j + 1) = wholeB s j ++ [⟨4, s.bad.getD j 0, Ino.z⟩] := by
  simp only [wholeB, List.take_add_one, List.map_append, List.append_assoc]
  simp [List.getElem?_eq_getElem h, List.getD, h]
theorem wholeD_eq (s : Sta) : wholeB s s.bad.length = wholeD s := by simp [wholeB, wholeA, wholeD]

theorem C_state_Whole (s : Sta) (h1 : s.inos.length ≤ 10000) (h2 : s.bad.length ≤ 10000) (h3 : ∀ x ∈ s.inos, x.ents.length ≤ 1000 ∧ x.runs.length ≤ 1000) : ACalls Tryz.prog 178 [.tr s.t] ([]) ([]) (fun r G => r = .tr (.sl 9 ((wholeD s).map Dd.t)) ∧ G = []) := by
  refine acalls_of_body 40 [] Tryz.func178 rfl (by kernel_rfl) Tryz.ntmps178 (Nat.le_of_ble_eq_true rfl) rfl ?_
  refine AW.seq ?_
  refine AW.region ?_
  refine AL.eff rfl rfl (by decide) (E_box 101 rfl rfl rfl rfl rfl rfl) ?_
  refine AL.pure rfl rfl (by decide) (P_assign rfl) ?_
  refine AL.nil ?_
  refine Then.go ?_
  refine AW.seq ?_
  refine AW.region ?_
  refine AL.pure rfl rfl (by decide) (P_fieldAddr ty38 rfl ty3 rfl) ?_
  refine AL.pure rfl rfl (by decide) (P_load ty3 rfl rfl rfl rfl) ?_
  refine AL.pure rfl rfl (by decide) (P_build ty132 tz132 tf131 rfl) ?_
  refine AL.nilT 10 7 2 rfl rfl ?_
  refine AL.nilT 10 8 3 rfl rfl ?_
  refine AL.eff rfl rfl (by decide) (E_litO 203 ty130 ty132 tz132 rfl rfl rfl rfl rfl) ?_
  refine AL.pure rfl rfl (by decide) (P_assign rfl) ?_
  refine AL.nil ?_
  refine Then.go ?_
  refine AW.seq ?_
  refine AW.seq ?_
  refine AW.region ?_
  refine AL.pure rfl rfl (by decide) (P_fieldAddr ty38 rfl ty35 rfl) ?_
  refine AL.pure rfl rfl (by decide) (P_load ty35 rfl rfl rfl rfl) ?_
  refine AL_lenM rfl rfl (by decide) ty35 rfl fun h1 => ?_
  try simp only [bs_length, List.length_map, List.length_append, List.length_replicate, List.length_cons, List.length_nil, List.length_take, List.length_set] at h1
  refine AL.pure rfl rfl (by decide) (P_move rfl) ?_
  refine AL.nil ?_
  refine Then.go ?_
  refine AW.block ?_
  refine AW.loopK (σ := Nat) [2] [] (.cons rfl .nil) .nil rfl (fun i => [(13, .tr (.sl 7 (s.inos.map Ino.t))), (14, vI .i64 (s.inos.length : Nat)), (15, vI .i64 (i : Nat)), (3, .own 9 203 0 (i + 1)), (1, .ptr 101 0)]) (fun i => [(203, .els 132 9 ((wholeA s i).map Dd.t)), (101, .row 38 (s.c.map .tr))]) (fun i => i ≤ s.inos.length) (fun i => s.inos.length - i) (0) ?_ ?_ ?_ ?_
  · skip
    simp
  · skip
    refine SubT.cons' (by decide) rfl ?_ ?_
    · skip
      rfl
    refine SubT.cons' (by decide) rfl ?_ ?_
    · skip
      rfl
    refine SubT.cons' (by decide) rfl ?_ ?_
    · skip
      rfl
    refine SubT.cons' (by decide) rfl ?_ ?_
    · skip
      rfl
    refine SubT.cons' (by decide) rfl ?_ ?_
    · skip
      rfl
    exact SubT.nil
  · skip
    refine SubG.cons' rfl ?_ ?_
    · skip
      rfl
    refine SubG.cons' rfl ?_ ?_
    · skip
      rfl
    exact SubG.nil
  · rintro i hs
    try dsimp only at hs
    dsimp only [List.cons_append, List.nil_append]
    have hwl := wholeA_length hs
    refine AW.seq ?_
    refine AW.region ?_
    refine AL.pure rfl rfl (by decide) (P_lss rfl rfl) ?_
    refine AL.nil ?_
    refine Then.go ?_
    refine AW.seq ?_
    refine AW.condD _ rfl ?_ ?_
    · intro h2
      have hm := h3 _ (getD_mem inz (show i < s.inos.length by omega))
      refine AW.skip ?_
      refine Then.go ?_
      refine AW.seq ?_
      refine AW.block ?_
      refine AW.seq ?_
      refine AW.region ?_
      refine AL.pure rfl rfl (by decide) (P_indexSl ty35 ty85 rfl rfl (by exact map_at inz (by omega)) (by rfl)) ?_
      refine AL.pure rfl rfl (by decide) (P_loadAR ty85 rfl rfl (Nat.le_of_ble_eq_true rfl)) ?_
      refine AL.eff rfl rfl (by decide) (E_alloc 105 tz85 rfl rfl rfl) ?_
      refine AL.eff0 rfl rfl (E_store ty85 rfl rfl rfl rfl rfl (Nat.le_of_ble_eq_true rfl)) ?_
      refine AL.nil ?_
      refine Then.go ?_
      refine AW.region ?_
      refine AL.pure rfl rfl (by decide) (P_move rfl) ?_
      refine AL.pure rfl rfl (by decide) (P_loadA ty85 rfl rfl rfl (Nat.le_of_ble_eq_true rfl)) ?_
      refine AL.call (C_state_own (s.inos.getD i inz) (by omega) (by omega) ) _ [] [] _ rfl (by decide) rfl rfl rfl SubG.nil ?_
      rintro _ _ ⟨rfl, rfl⟩
      refine ⟨rfl, rfl, ?_⟩
      refine AL.pure rfl rfl (by decide) (P_build ty132 tz132 tf131 rfl) ?_
      refine AL.mk rfl rfl (by decide) (E_lit ty130 ty132 tz132 rfl rfl) ?_
      refine AL.eff rfl rfl (by decide) (E_append ty130 ty132 tz132 tb132 rfl rfl rfl rfl rfl (by (simp only [bs_length, List.length_map, List.length_append, List.length_replicate, List.length_set, List.length_take, List.length_nil, List.length_cons]; omega)) (by (simp only [bs_length, List.length_map, List.length_append, List.length_replicate, List.length_set, List.length_take, List.length_nil, List.length_cons]; omega))) ?_
      refine AL.pure rfl rfl (by decide) (P_assign rfl) ?_
      refine AL.nil ?_
      refine InBlock.go ?_
      refine Then.go ?_
      refine AW.region ?_
      refine AL.pure rfl rfl (by decide) (P_addN rfl rfl (by omega) (by omega)) ?_
      refine AL.pure rfl rfl (by decide) (P_move rfl) ?_
      refine AL.nil ?_
      refine Round.go (i + 1) ?_ ?_ ?_ ?_
      · try dsimp only
        omega
      · try dsimp only
        omega
      · skip
        refine SubT.cons' (by decide) rfl ?_ ?_
        · skip
          rfl
        refine SubT.cons' (by decide) rfl ?_ ?_
        · skip
          rfl
        refine SubT.cons' (by decide) rfl ?_ ?_
        · skip
          rfl
        refine SubT.cons' (by decide) rfl ?_ ?_
        · skip
          exact own_congr rfl
        refine SubT.cons' (by decide) rfl ?_ ?_
        · skip
          rfl
        exact (SubT.cons (by decide) rfl SubT.nil)
      · skip
        refine SubG.cons' rfl ?_ ?_
        · skip
          refine els_congr ?_
          rw [List.take_of_length_le (by simp [hwl]), wholeA_succ (by omega), List.map_append]; rfl
        refine SubG.cons' rfl ?_ ?_
        · skip
          rfl
        exact SubG.nil
    · intro h2
      refine AW.exit ?_
      refine Then.e ?_
      refine Round.e ?_
      refine InBlock.e ?_
      refine Then.go ?_
      refine AW.seq ?_
      refine AW.seq ?_
      refine AW.region ?_
      refine AL.pure rfl rfl (by decide) (P_fieldAddr ty38 rfl ty36 rfl) ?_
      refine AL.pure rfl rfl (by decide) (P_load ty36 rfl rfl rfl rfl) ?_
      refine AL_lenM rfl rfl (by decide) ty36 rfl fun h3 => ?_
      try simp only [bs_length, List.length_map, List.length_append, List.length_replicate, List.length_cons, List.length_nil, List.length_take, List.length_set] at h3
      refine AL.pure rfl rfl (by decide) (P_move rfl) ?_
      refine AL.nil ?_
      refine Then.go ?_
      refine AW.block ?_
      refine AW.loopK (σ := Nat) [2] [] (.cons rfl .nil) .nil rfl (fun j => [(27, .tr (.sl 1 (s.bad.map iN))), (28, vI .i64 (s.bad.length : Nat)), (29, vI .i64 (j : Nat)), (3, .own 9 203 0 (s.inos.length + 1 + j))]) (fun j => [(203, .els 132 9 ((wholeB s j).map Dd.t))]) (fun j => j ≤ s.bad.length) (fun j => s.bad.length - j) (0) ?_ ?_ ?_ ?_
      · skip
        simp
      · skip
        refine SubT.cons' (by decide) rfl ?_ ?_
        · skip
          rfl
        refine SubT.cons' (by decide) rfl ?_ ?_
        · skip
          rfl
        refine SubT.cons' (by decide) rfl ?_ ?_
        · skip
          rfl
        refine SubT.cons' (by decide) rfl ?_ ?_
        · skip
          exact own_congr (by omega)
        exact SubT.nil
      · skip
        refine SubG.cons' rfl ?_ ?_
        · skip
          refine els_congr ?_
          rw [show i = s.inos.length by omega]; simp [wholeB]
        exact SubG.nil
      · rintro j hs
        try dsimp only at hs
        dsimp only [List.cons_append, List.nil_append]
        have hwl2 := wholeB_length hs
        refine AW.seq ?_
        refine AW.region ?_
        refine AL.pure rfl rfl (by decide) (P_lss rfl rfl) ?_
        refine AL.nil ?_
        refine Then.go ?_
        refine AW.seq ?_
        refine AW.condD _ rfl ?_ ?_
        · intro h4
          refine AW.skip ?_
          refine Then.go ?_
          refine AW.seq ?_
          refine AW.block ?_
          refine AW.seq ?_
          refine AW.region ?_
          refine AL.pure rfl rfl (by decide) (P_indexSl ty36 ty3 rfl rfl (by exact map_at 0 (by omega)) (by rfl)) ?_
          refine AL.pure rfl rfl (by decide) (P_loadR ty3 rfl rfl rfl) ?_
          refine AL.pure rfl rfl (by decide) (P_assign rfl) ?_
          refine AL.nil ?_
          refine Then.go ?_
          refine AW.region ?_
          refine AL.pure rfl rfl (by decide) (P_move rfl) ?_
          refine AL.pure rfl rfl (by decide) (P_move rfl) ?_
          refine AL.pure rfl rfl (by decide) (P_build ty132 tz132 tf131 rfl) ?_
          refine AL.nilT 35 7 2 rfl rfl ?_
          refine AL.nilT 35 8 3 rfl rfl ?_
          refine AL.mk rfl rfl (by decide) (E_lit ty130 ty132 tz132 rfl rfl) ?_
          refine AL.eff rfl rfl (by decide) (E_append ty130 ty132 tz132 tb132 rfl rfl rfl rfl rfl (by (simp only [bs_length, List.length_map, List.length_append, List.length_replicate, List.length_set, List.length_take, List.length_nil, List.length_cons]; omega)) (by (simp only [bs_length, List.length_map, List.length_append, List.length_replicate, List.length_set, List.length_take, List.length_nil, List.length_cons]; omega))) ?_
          refine AL.pure rfl rfl (by decide) (P_assign rfl) ?_
          refine AL.nil ?_
          refine InBlock.go ?_
          refine Then.go ?_
          refine AW.region ?_
          refine AL.pure rfl rfl (by decide) (P_addN rfl rfl (by omega) (by omega)) ?_
          refine AL.pure rfl rfl (by decide) (P_move rfl) ?_
          refine AL.nil ?_
          refine Round.go (j + 1) ?_ ?_ ?_ ?_
          · try dsimp only
            omega
          · try dsimp only
            omega
          · skip
            refine SubT.cons' (by decide) rfl ?_ ?_
            · skip
              rfl
            refine SubT.cons' (by decide) rfl ?_ ?_
            · skip
              rfl
            refine SubT.cons' (by decide) rfl ?_ ?_
            · skip
              rfl
            refine SubT.cons' (by decide) rfl ?_ ?_
            · skip
              refine own_congr ?_
              simp only [List.length_cons, List.length_nil]
              omega
            exact (SubT.cons (by decide) rfl SubT.nil)
          · skip
            refine SubG.cons' rfl ?_ ?_
            · skip
              refine els_congr ?_
              rw [List.take_of_length_le (by simp [hwl2]), wholeB_succ (by omega), List.map_append]; rfl
            exact SubG.nil
        · intro h4
          refine AW.exit ?_
          refine Then.e ?_
          refine Round.e ?_
          refine InBlock.e ?_
          refine Then.go ?_
          refine AW.seq ?_
          refine AW.region ?_
          refine AL.pure rfl rfl (by decide) (P_move rfl) ?_
          refine AL.pure rfl rfl (by decide) (P_assign rfl) ?_
          refine AL.letGo 2 203 0 rfl rfl rfl (by decide) rfl (by simp [hwl2]) ?_
          refine AL.nil ?_
          refine Then.go ?_
          refine AW.ret ?_
          refine ⟨(by exact .inr rfl), _, _, (.cons (.tmp rfl) .nil), SubG.nil, ?_, rfl, rfl⟩
          refine ⟨sl_congr ?_, rfl⟩
          have hj : j = s.bad.length := by omega
          rw [List.drop_zero, hj, List.take_of_length_le (by simp [wholeB_length]), wholeD_eq]
end Go.Proofs.YtmakeajjgjnldaaGreatDoor
