/- Walks, part 15: a state copied; a system made. -/
import Derived.Test.YtmakeajjgjnldaaGreatDoorS14
import Derived.Test.YtmakeajjgjnldaaGreatDoorM4
set_option linter.unusedVariables false
set_option linter.unusedSimpArgs false
set_option maxRecDepth 100000
namespace Go.Proofs.YtmakeajjgjnldaaGreatDoor
open Go Go.Ab

abbrev nilSl : AV := .tr (.val (.slice none 0 0))
structure InosOk (l : List Ino) : Prop where
  n : l.length ≤ 1000
  x : ∀ x ∈ l, x.ents.length ≤ 1000 ∧ x.runs.length ≤ 1000
theorem StaOk.inosOk {s : Sta} (h : StaOk s) : InosOk s.inos := ⟨h.ni, fun x hx => ⟨(h.inos x hx).ne, (h.inos x hx).nr⟩⟩
theorem take_map_succ {α β : Type} (f : α → β) {l : List α} {i : Nat} (d : α) (h : i < l.length) : (l.take (i + 1)).map f = (l.take i).map f ++ [f (l.getD i d)] := by
  rw [List.take_add_one, List.map_append]; simp [List.getElem?_eq_getElem h, List.getD, h]

theorem ty25 : TyIs Tryz.prog 25 (.int .i64) 1 := ⟨Tryz.underlying25, by kernel_rfl⟩
theorem ty71 : TyIs Tryz.prog 71 (.pointer 114) 1 := ⟨Tryz.underlying71, by kernel_rfl⟩
theorem ty72 : TyIs Tryz.prog 72 (.pointer 167) 1 := ⟨Tryz.underlying72, by kernel_rfl⟩
theorem ty73 : TyIs Tryz.prog 73 (.pointer 170) 1 := ⟨Tryz.underlying73, by kernel_rfl⟩
abbrev fs74 : Array Field := #[⟨ "p", 70, 0, false, "", "garret/vfs", 0⟩, ⟨ "c", 49, 1, false, "", "garret/vfs", 8⟩, ⟨ "n", 50, 2, false, "", "garret/vfs", 16⟩, ⟨ "v", 71, 3, false, "", "garret/vfs", 24⟩, ⟨ "f", 72, 4, false, "", "garret/vfs", 32⟩, ⟨ "t", 73, 5, false, "", "garret/vfs", 40⟩, ⟨ "down", 25, 6, false, "", "garret/vfs", 48⟩]
theorem tf74 : FldIs Tryz.prog fs74 [(0, 1), (1, 1), (2, 1), (3, 1), (4, 1), (5, 1), (6, 1)] := ⟨by kernel_rfl⟩
theorem ty75 : TyIs Tryz.prog 75 (.struct fs74) 7 := ⟨Tryz.underlying75, by kernel_rfl⟩
theorem tz75 : TyZ Tryz.prog 75 (.agg #[.pointer none, .pointer none, .pointer none, .pointer none, .pointer none, .pointer none, .int .i64 0]) := ⟨by kernel_rfl⟩
theorem tb85 : TyB Tryz.prog 85 96 := ⟨by kernel_rfl⟩
theorem ty111 : TyIs Tryz.prog 111 (.pointer 165) 1 := ⟨Tryz.underlying111, by kernel_rfl⟩
abbrev fs113 : Array Field := #[⟨ "g", 48, 0, false, "", "garret/volume", 0⟩, ⟨ "j", 111, 5, false, "", "garret/volume", 40⟩, ⟨ "f", 112, 6, false, "", "garret/volume", 48⟩]
theorem tf113 : FldIs Tryz.prog fs113 [(0, 5), (5, 1), (6, 1)] := ⟨by kernel_rfl⟩
theorem ty114 : TyIs Tryz.prog 114 (.struct fs113) 7 := ⟨Tryz.underlying114, by kernel_rfl⟩
theorem tz114 : TyZ Tryz.prog 114 (.agg #[.int .i64 0, .int .i64 0, .int .i64 0, .int .i64 0, .int .i64 0, .pointer none, .pointer none]) := ⟨by kernel_rfl⟩

theorem C_state_copied (xs : List Ino) (h : InosOk xs) : ACalls Tryz.prog 126 [.tr (.sl 7 (xs.map Ino.t))] ([]) ([]) (fun r G => r = .tr (.sl 7 (xs.map Ino.t)) ∧ G = []) := by
  have hn := h.n
  refine acalls_of_body 19 [] Tryz.func126 rfl (by kernel_rfl) Tryz.ntmps126 (Nat.le_of_ble_eq_true rfl) rfl ?_
  refine AW.seq ?_
  refine AW.region ?_
  refine AL.pure rfl rfl (by decide) (P_assign rfl) ?_
  refine AL.nil ?_
  refine Then.go ?_
  refine AW.seq ?_
  refine AW.region ?_
  refine AL.pure rfl rfl (by decide) (P_assign rfl) ?_
  refine AL.ghost 3 203 85 7 rfl rfl rfl rfl ?_
  refine AL.nil ?_
  refine Then.go ?_
  refine AW.seq ?_
  refine AW.seq ?_
  refine AW.region ?_
  refine AL.pure rfl rfl (by decide) (P_move rfl) ?_
  refine AL_lenM rfl rfl (by decide) ty35 rfl fun h1 => ?_
  try simp only [bs_length, List.length_map, List.length_append, List.length_replicate, List.length_cons, List.length_nil, List.length_take, List.length_set] at h1
  refine AL.pure rfl rfl (by decide) (P_move rfl) ?_
  refine AL.nil ?_
  refine Then.go ?_
  refine AW.block ?_
  refine AW.loopK (σ := Nat) [2, 6, 7] [] (.cons rfl (.cons rfl (.cons rfl .nil))) .nil rfl (fun i => [(8, vI .i64 (i : Nat)), (3, .own 7 203 0 i)]) (fun i => [(203, .els 85 7 ((xs.take i).map Ino.t))]) (fun i => i ≤ xs.length) (fun i => xs.length - i) (0) ?_ ?_ ?_ ?_
  · skip
    simp
  · skip
    refine SubT.cons' (by decide) rfl ?_ ?_
    · skip
      rfl
    refine SubT.cons' (by decide) rfl ?_ ?_
    · skip
      rfl
    exact SubT.nil
  · skip
    refine SubG.cons' rfl ?_ ?_
    · skip
      rfl
    exact SubG.nil
  · rintro i hs
    try dsimp only at hs
    dsimp only [List.cons_append, List.nil_append]
    have hl2 : ((xs.take i).map Ino.t).length = i := by simp; omega
    refine AW.seq ?_
    refine AW.region ?_
    refine AL.pure rfl rfl (by decide) (P_lss rfl rfl) ?_
    refine AL.nil ?_
    refine Then.go ?_
    refine AW.seq ?_
    refine AW.condD _ rfl ?_ ?_
    · intro h2
      have hm := h.x _ (getD_mem inz (show i < xs.length by omega))
      refine AW.skip ?_
      refine Then.go ?_
      refine AW.seq ?_
      refine AW.block ?_
      refine AW.seq ?_
      refine AW.region ?_
      refine AL.pure rfl rfl (by decide) (P_indexSl ty35 ty85 rfl rfl (by exact map_at inz (by omega)) (by rfl)) ?_
      refine AL.pure rfl rfl (by decide) (P_loadAR ty85 rfl rfl (Nat.le_of_ble_eq_true rfl)) ?_
      refine AL.eff rfl rfl (by decide) (E_alloc 105 tz85 rfl rfl rfl) ?_
      refine AL.eff0 rfl rfl (E_store ty85 rfl rfl rfl rfl rfl (Nat.le_of_ble_eq_true rfl)) ?_
      refine AL.nil ?_
      refine Then.go ?_
      refine AW.region ?_
      refine AL.pure rfl rfl (by decide) (P_move rfl) ?_
      refine AL.pure rfl rfl (by decide) (P_loadA ty85 rfl rfl rfl (Nat.le_of_ble_eq_true rfl)) ?_
      refine AL.call (C_state_own (xs.getD i inz) (by omega) (by omega) ) _ [] [] _ rfl (by decide) rfl rfl rfl SubG.nil ?_
      rintro _ _ ⟨rfl, rfl⟩
      refine ⟨rfl, rfl, ?_⟩
      refine AL.mk rfl rfl (by decide) (E_lit ty35 ty85 tz85 rfl rfl) ?_
      refine AL.eff rfl rfl (by decide) (E_append ty35 ty85 tz85 tb85 rfl rfl rfl rfl rfl (by omega) (by (simp only [bs_length, List.length_map, List.length_append, List.length_replicate, List.length_set, List.length_take, List.length_nil, List.length_cons]; omega))) ?_
      refine AL.pure rfl rfl (by decide) (P_assign rfl) ?_
      refine AL.nil ?_
      refine InBlock.go ?_
      refine Then.go ?_
      refine AW.region ?_
      refine AL.pure rfl rfl (by decide) (P_addN rfl rfl (by omega) (by omega)) ?_
      refine AL.pure rfl rfl (by decide) (P_move rfl) ?_
      refine AL.nil ?_
      refine Round.go (i + 1) ?_ ?_ ?_ ?_
      · try dsimp only
        omega
      · try dsimp only
        omega
      · skip
        refine SubT.cons' (by decide) rfl ?_ ?_
        · skip
          rfl
        refine SubT.cons' (by decide) rfl ?_ ?_
        · skip
          exact own_congr rfl
        exact (SubT.cons (by decide) rfl (SubT.cons (by decide) rfl (SubT.cons (by decide) rfl SubT.nil)))
      · skip
        refine SubG.cons' rfl ?_ ?_
        · skip
          refine els_congr ?_
          rw [List.take_of_length_le (by omega), take_map_succ _ inz (by omega)]
        exact SubG.nil
    · intro h2
      refine AW.exit ?_
      refine Then.e ?_
      refine Round.e ?_
      refine InBlock.e ?_
      refine Then.go ?_
      refine AW.seq ?_
      refine AW.region ?_
      refine AL.pure rfl rfl (by decide) (P_move rfl) ?_
      refine AL.pure rfl rfl (by decide) (P_assign rfl) ?_
      refine AL.letGo 2 203 0 rfl rfl rfl (by decide) rfl (by omega) ?_
      refine AL.nil ?_
      refine Then.go ?_
      refine AW.ret ?_
      refine ⟨(by exact .inr rfl), _, _, (.cons (.tmp rfl) .nil), SubG.nil, ?_, rfl, rfl⟩
      refine ⟨sl_congr ?_, rfl⟩
      rw [List.drop_zero, show i = xs.length by omega, List.take_length, List.take_of_length_le (by simp)]
theorem C_Apply_nil (s : Sta) (h : StaOk s) : ACalls Tryz.prog 81 [.tr s.t, .tr (.sl 9 [])] ([]) ([]) (fun r G => r = .tr s.t ∧ G = []) := by
  have h1 := h.inosOk; have h2 := h.nb
  refine acalls_of_body 53 [] Tryz.func81 rfl (by kernel_rfl) Tryz.ntmps81 (Nat.le_of_ble_eq_true rfl) rfl ?_
  refine AW.seq ?_
  refine AW.region ?_
  refine AL.eff rfl rfl (by decide) (E_box 102 rfl rfl rfl rfl rfl rfl) ?_
  refine AL.eff rfl rfl (by decide) (E_alloc 104 tz38 rfl rfl rfl) ?_
  refine AL.nil ?_
  refine Then.go ?_
  refine AW.seq ?_
  refine AD.start ?_
  refine AD.op 0 7 [] _ rfl rfl rfl (B_pure (P_fieldAddr ty38 rfl ty35 rfl)) ?_
  refine AD.op 1 8 [0] _ rfl rfl rfl (B_pure (P_load ty35 rfl rfl rfl rfl)) ?_
  refine AD.op 2 9 [0, 1] _ rfl rfl rfl (B_call0 (C_state_copied s.inos h1 ) _ rfl rfl (by rintro _ _ ⟨rfl, rfl⟩; exact ⟨rfl, rfl⟩)) ?_
  refine AD.op 3 10 [] _ rfl rfl rfl (B_pure (P_fieldAddr ty38 rfl ty36 rfl)) ?_
  refine AD.op 4 11 [3] _ rfl rfl rfl (B_pure (P_load ty36 rfl rfl rfl rfl)) ?_
  refine AD.op 5 12 [0, 1, 2, 3, 4] _ rfl rfl rfl (B_call0 (C_slices_Clone_int_int (s.bad.map iN) (by simp; omega) ) _ rfl rfl (by rintro _ _ ⟨rfl, rfl⟩; exact ⟨rfl, rfl⟩)) ?_
  refine AD.op 6 13 [0, 1, 2, 3, 4] _ rfl rfl rfl (B_pure (P_fieldAddr ty38 rfl ty35 rfl)) ?_
  refine AD.tail mixed rfl (by kernel_rfl) rfl ?_
  refine AL.eff0 rfl rfl (E_store ty35 rfl rfl rfl rfl rfl (Nat.le_of_ble_eq_true rfl)) ?_
  refine AL.pure rfl rfl (by decide) (P_fieldAddr ty38 rfl ty36 rfl) ?_
  refine AL.eff0 rfl rfl (E_store ty36 rfl rfl rfl rfl rfl (Nat.le_of_ble_eq_true rfl)) ?_
  refine AL.nil ?_
  refine Then.go ?_
  refine AW.seq ?_
  refine AW.seq ?_
  refine AW.region ?_
  refine AL.pure rfl rfl (by decide) (P_move rfl) ?_
  refine AL_lenSl rfl rfl (by decide) ty130 rfl fun h1 => ?_
  try simp only [bs_length, List.length_map, List.length_append, List.length_replicate, List.length_cons, List.length_nil, List.length_take, List.length_set] at h1
  refine AL.pure rfl rfl (by decide) (P_move rfl) ?_
  refine AL.nil ?_
  refine Then.go ?_
  refine AW.block ?_
  refine AW.loopK (σ := Unit) [2, 4, 15, 16] [102, 104] (.cons rfl (.cons rfl (.cons rfl (.cons rfl .nil)))) (.cons rfl (.cons rfl .nil)) rfl (fun u => [(17, vI .i64 0)]) (fun u => []) (fun u => True) (fun u => 0) (()) ?_ ?_ ?_ ?_
  · skip
    trivial
  · skip
    refine SubT.cons' (by decide) rfl ?_ ?_
    · skip
      rfl
    exact SubT.nil
  · skip
    exact SubG.nil
  · rintro u hs
    try dsimp only at hs
    dsimp only [List.cons_append, List.nil_append]
    refine AW.seq ?_
    refine AW.region ?_
    refine AL.pure rfl rfl (by decide) (P_lss rfl rfl) ?_
    refine AL.nil ?_
    refine Then.go ?_
    refine AW.seq ?_
    refine AW.condF rfl ?_
    refine AW.exit ?_
    refine Then.e ?_
    refine Round.e ?_
    refine InBlock.e ?_
    refine Then.go ?_
    refine AW.seq ?_
    refine AW.region ?_
    refine AL.pure rfl rfl (by decide) (P_loadA ty38 rfl rfl rfl (Nat.le_of_ble_eq_true rfl)) ?_
    refine AL.eff0 rfl rfl (E_store ty38 rfl rfl rfl rfl rfl (Nat.le_of_ble_eq_true rfl)) ?_
    refine AL.nil ?_
    refine Then.go ?_
    refine AW.ret ?_
    refine ⟨(by exact .inr rfl), _, _, (.cons (.cellA rfl rfl ty38 rfl (Nat.le_of_ble_eq_true rfl)) .nil), SubG.nil, ?_, rfl, rfl⟩
    exact ⟨rfl, rfl⟩
theorem C_journal_Journal_State (j : Jr) (h : StaOk j.s) : ACalls Tryz.prog 55 [.ptr 30 0] ([(30, jrO j)]) ([]) (fun r G => r = .tr j.s.t ∧ G = [(30, jrO j)]) := by
  refine acalls_of_body 11 [30, 10] Tryz.func55 rfl (by kernel_rfl) Tryz.ntmps55 (Nat.le_of_ble_eq_true rfl) rfl ?_
  refine AW.seq ?_
  refine AW.region ?_
  refine AL.eff rfl rfl (by decide) (E_alloc 102 tz38 rfl rfl rfl) ?_
  refine AL.nil ?_
  refine Then.go ?_
  refine AW.seq ?_
  refine AW.seq ?_
  refine AW.region ?_
  refine AL.pure rfl rfl (by decide) (P_move rfl) ?_
  refine AL.pure rfl rfl (by decide) (P_eqlPN ty111 rfl rfl) ?_
  refine AL.nil ?_
  refine Then.go ?_
  refine AW.condF rfl ?_
  refine AW.skip ?_
  refine Then.go ?_
  refine AW.seq ?_
  refine AW.region ?_
  refine AL.pure rfl rfl (by decide) (P_move rfl) ?_
  refine AL.pure rfl rfl (by decide) (P_nilCheck rfl) ?_
  refine AL.pure rfl rfl (by decide) (P_fieldAddr ty165 rfl ty38 rfl) ?_
  refine AL.pure rfl rfl (by decide) (P_loadA ty38 rfl rfl rfl (Nat.le_of_ble_eq_true rfl)) ?_
  refine AL.call (ACalls.argR (.same (.nilS .nil)) (C_Apply_nil j.s h ) ) _ [] [] _ rfl (by decide) rfl rfl rfl SubG.nil ?_
  rintro _ _ ⟨rfl, rfl⟩
  refine ⟨rfl, rfl, ?_⟩
  refine AL.eff0 rfl rfl (E_store ty38 rfl rfl rfl rfl rfl (Nat.le_of_ble_eq_true rfl)) ?_
  refine AL.nil ?_
  refine Then.go ?_
  refine AW.ret ?_
  refine ⟨(by exact .inr rfl), _, _, (.cons (.cellA rfl rfl ty38 rfl (Nat.le_of_ble_eq_true rfl)) .nil), (SubG.cons (l := 30) rfl SubG.nil), ?_, rfl, rfl⟩
  exact ⟨rfl, rfl⟩

def findI (l : List Ino) (no : Nat) : Option Ino := l.find? fun x => x.no == no
theorem findI_at {l : List Ino} {no i : Nat} (h : i < l.length) (h1 : ∀ j, j < i → (l.getD j inz).no ≠ no) (h2 : (l.getD i inz).no = no) : findI l no = some (l.getD i inz) := by
  induction l generalizing i with
  | nil => simp at h
  | cons x l ih =>
    cases i with
    | zero => simp [findI, List.getD] at h2 ⊢; simp [h2]
    | succ i =>
      have h0 := h1 0 (by omega)
      simp only [List.getD_cons_zero] at h0
      have hb : (x.no == no) = false := by simpa using h0
      rw [findI, List.find?_cons, hb]
      simp only [List.getD_cons_succ] at h2 ⊢
      exact ih (by simpa using h) (fun j hj => by have := h1 (j + 1) (by omega); simpa using this) h2
theorem findI_none {l : List Ino} {no : Nat} (h1 : ∀ j, j < l.length → (l.getD j inz).no ≠ no) : findI l no = none := by
  rw [findI, List.find?_eq_none]
  intro x hx
  obtain ⟨j, hj, rfl⟩ := List.getElem_of_mem hx
  have := h1 j hj
  simpa [List.getD, hj] using this

theorem C_state_Find (s : Sta) (no : Nat) (h : StaOk s) : ACalls Tryz.prog 141 [.tr s.t, vI .i64 (no : Nat)] ([]) ([]) (fun r G => r = .tup [.tr ((findI s.inos no).getD Ino.z).t, vB (findI s.inos no).isSome] ∧ G = []) := by
  have w1 := h.inosOk; have hn := w1.n
  refine acalls_of_body 23 [] Tryz.func141 rfl (by kernel_rfl) Tryz.ntmps141 (Nat.le_of_ble_eq_true rfl) rfl ?_
  refine AW.seq ?_
  refine AW.region ?_
  refine AL.eff rfl rfl (by decide) (E_box 102 rfl rfl rfl rfl rfl rfl) ?_
  refine AL.eff rfl rfl (by decide) (E_alloc 104 tz85 rfl rfl rfl) ?_
  refine AL.pure rfl rfl (by decide) (P_assign rfl) ?_
  refine AL.nil ?_
  refine Then.go ?_
  refine AW.seq ?_
  refine AW.seq ?_
  refine AW.region ?_
  refine AL.pure rfl rfl (by decide) (P_fieldAddr ty38 rfl ty35 rfl) ?_
  refine AL.pure rfl rfl (by decide) (P_load ty35 rfl rfl rfl rfl) ?_
  refine AL_lenM rfl rfl (by decide) ty35 rfl fun h1 => ?_
  try simp only [bs_length, List.length_map, List.length_append, List.length_replicate, List.length_cons, List.length_nil, List.length_take, List.length_set] at h1
  refine AL.pure rfl rfl (by decide) (P_move rfl) ?_
  refine AL.nil ?_
  refine Then.go ?_
  refine AW.block ?_
  refine AW.loopK (σ := Nat) [1, 4, 9, 10] [104] (.cons rfl (.cons rfl (.cons rfl (.cons rfl .nil)))) (.cons rfl .nil) rfl (fun i => [(11, vI .i64 (i : Nat)), (5, vB false)]) (fun i => []) (fun i => i ≤ s.inos.length ∧ ∀ j, j < i → (s.inos.getD j inz).no ≠ no) (fun i => s.inos.length - i) (0) ?_ ?_ ?_ ?_
  · skip
    exact ⟨by simp, fun j hj => by omega⟩
  · skip
    refine SubT.cons' (by decide) rfl ?_ ?_
    · skip
      rfl
    refine SubT.cons' (by decide) rfl ?_ ?_
    · skip
      rfl
    exact SubT.nil
  · skip
    exact SubG.nil
  · rintro i hs
    try dsimp only at hs
    dsimp only [List.cons_append, List.nil_append]
    obtain ⟨i0, i1⟩ := hs
    refine AW.seq ?_
    refine AW.region ?_
    refine AL.pure rfl rfl (by decide) (P_lss rfl rfl) ?_
    refine AL.nil ?_
    refine Then.go ?_
    refine AW.seq ?_
    refine AW.condD _ rfl ?_ ?_
    · intro h2
      have hm := w1.x _ (getD_mem inz (show i < s.inos.length by omega))
      refine AW.skip ?_
      refine Then.go ?_
      refine AW.seq ?_
      refine AW.block ?_
      refine AW.seq ?_
      refine AW.region ?_
      refine AL.pure rfl rfl (by decide) (P_indexSl ty35 ty85 rfl rfl (by exact map_at inz (by omega)) (by rfl)) ?_
      refine AL.pure rfl rfl (by decide) (P_loadAR ty85 rfl rfl (Nat.le_of_ble_eq_true rfl)) ?_
      refine AL.eff rfl rfl (by decide) (E_alloc 107 tz85 rfl rfl rfl) ?_
      refine AL.eff0 rfl rfl (E_store ty85 rfl rfl rfl rfl rfl (Nat.le_of_ble_eq_true rfl)) ?_
      refine AL.nil ?_
      refine Then.go ?_
      refine AW.seq ?_
      refine AW.region ?_
      refine AL.pure rfl rfl (by decide) (P_fieldAddr ty85 rfl ty3 rfl) ?_
      refine AL.pure rfl rfl (by decide) (P_load ty3 rfl rfl rfl rfl) ?_
      refine AL.pure rfl rfl (by decide) (P_move rfl) ?_
      refine AL.pure rfl rfl (by decide) (P_eql rfl rfl) ?_
      refine AL.nil ?_
      refine Then.go ?_
      refine AW.condD _ rfl ?_ ?_
      · intro h3
        refine AW.seq ?_
        refine AW.region ?_
        refine AL.pure rfl rfl (by decide) (P_loadA ty85 rfl rfl rfl (Nat.le_of_ble_eq_true rfl)) ?_
        refine AL.call (C_state_own (s.inos.getD i inz) (by omega) (by omega) ) _ [] [] _ rfl (by decide) rfl rfl rfl SubG.nil ?_
        rintro _ _ ⟨rfl, rfl⟩
        refine ⟨rfl, rfl, ?_⟩
        refine AL.eff0 rfl rfl (E_store ty85 rfl rfl rfl rfl rfl (Nat.le_of_ble_eq_true rfl)) ?_
        refine AL.pure rfl rfl (by decide) (P_assign rfl) ?_
        refine AL.nil ?_
        refine Then.go ?_
        refine AW.ret ?_
        refine InBlock.r ?_
        refine Then.r ?_
        refine Round.r ?_
        refine InBlock.r ?_
        refine Then.r ?_
        refine ⟨(by exact .inr rfl), _, _, (.cons (.cellA rfl rfl ty85 rfl (Nat.le_of_ble_eq_true rfl)) (.cons (.tmp rfl) .nil)), SubG.nil, ?_, rfl, rfl⟩
        (have e := findI_at (l := s.inos) (no := no) (i := i) (by omega) i1 (by omega); rw [e]; exact ⟨rfl, rfl⟩)
      · intro h3
        refine AW.skip ?_
        refine InBlock.go ?_
        refine Then.go ?_
        refine AW.region ?_
        refine AL.pure rfl rfl (by decide) (P_addN rfl rfl (by omega) (by omega)) ?_
        refine AL.pure rfl rfl (by decide) (P_move rfl) ?_
        refine AL.nil ?_
        refine Round.go (i + 1) ?_ ?_ ?_ ?_
        · try dsimp only
          refine ⟨by omega, fun j hj => ?_⟩
          by_cases e : j = i
          · subst e; omega
          · exact i1 j (by omega)
        · try dsimp only
          omega
        · skip
          refine SubT.cons' (by decide) rfl ?_ ?_
          · skip
            rfl
          refine SubT.cons' (by decide) rfl ?_ ?_
          · skip
            rfl
          exact (SubT.cons (by decide) rfl (SubT.cons (by decide) rfl (SubT.cons (by decide) rfl (SubT.cons (by decide) rfl SubT.nil))))
        · skip
          exact (SubG.cons rfl SubG.nil)
    · intro h2
      refine AW.exit ?_
      refine Then.e ?_
      refine Round.e ?_
      refine InBlock.e ?_
      refine Then.go ?_
      refine AW.seq ?_
      refine AW.region ?_
      refine AL.pure rfl rfl (by decide) (P_build ty85 tz85 tf84 rfl) ?_
      refine AL.eff0 rfl rfl (E_store ty85 rfl rfl rfl rfl rfl (Nat.le_of_ble_eq_true rfl)) ?_
      refine AL.pure rfl rfl (by decide) (P_assign rfl) ?_
      refine AL.nilO 104 5 2 rfl rfl ?_
      refine AL.nilO 104 6 3 rfl rfl ?_
      refine AL.nil ?_
      refine Then.go ?_
      refine AW.ret ?_
      refine ⟨(by exact .inr rfl), _, _, (.cons (.cellA rfl rfl ty85 rfl (Nat.le_of_ble_eq_true rfl)) (.cons (.tmp rfl) .nil)), SubG.nil, ?_, rfl, rfl⟩
      (have e := findI_none (l := s.inos) (no := no) (fun j hj => i1 j (by omega)); rw [e]; exact ⟨rfl, rfl⟩)

abbrev volO (g : Geo) : AObj := .row 114 [.tr (i8 g.s), .tr (i8 g.z), .tr (i8 g.b), .tr (i8 g.p), .tr (i8 g.q), .ptr 30 0, .ptr 40 0]
abbrev flowO : AObj := .row 254 [.ptr 20 0, .ptr 30 0, .map 41]
abbrev filesO : AObj := .row 167 [.ptr 50 0]
abbrev tabO : AObj := .row 170 [.map 71]
abbrev sysO : AObj := .row 75 [.ptr 1 0, .ptr 10 0, .ptr 20 0, .ptr 50 0, .ptr 60 0, .ptr 70 0, vI .i64 0]

theorem C_volume_some  : ACalls Tryz.prog 109 [.ptr 30 0, .tr (.sl 9 [])] ([]) ([]) (fun r G => r = vI .i64 0 ∧ G = []) := by
  refine acalls_of_body 11 [30] Tryz.func109 rfl (by kernel_rfl) Tryz.ntmps109 (Nat.le_of_ble_eq_true rfl) rfl ?_
  refine AW.seq ?_
  refine AW.region ?_
  refine AL.pure rfl rfl (by decide) (P_assign rfl) ?_
  refine AL.nil ?_
  refine Then.go ?_
  refine AW.seq ?_
  refine AW.seq ?_
  refine AW.region ?_
  refine AL.pure rfl rfl (by decide) (P_move rfl) ?_
  refine AL_lenSl rfl rfl (by decide) ty130 rfl fun h1 => ?_
  try simp only [bs_length, List.length_map, List.length_append, List.length_replicate, List.length_cons, List.length_nil, List.length_take, List.length_set] at h1
  refine AL.pure rfl rfl (by decide) (P_eql rfl rfl) ?_
  refine AL.nil ?_
  refine Then.go ?_
  refine AW.condT rfl ?_
  refine AW.seq ?_
  refine AW.region ?_
  refine AL.pure rfl rfl (by decide) (P_assign rfl) ?_
  refine AL.nil ?_
  refine Then.go ?_
  refine AW.ret ?_
  refine Then.r ?_
  refine ⟨(by exact .inr rfl), _, _, (.cons (.tmp rfl) .nil), SubG.nil, ?_, rfl, rfl⟩
  exact ⟨rfl, rfl⟩
theorem C_volume_made (g : Geo) : ACalls Tryz.prog 64 [.ptr 30 0, .ptr 20 0, .tr (.sl 9 [])] ([(20, nandO g)]) ([]) (fun r G => r = .tup [.ptr 50 0, vI .i64 0] ∧ G = [(50, volO g), (40, flowO), (41, .mapT (ents k1 i8 [])), (20, nandO g)]) := by
  refine acalls_of_body 23 [30, 20, 1, 21, 22, 23] Tryz.func64 rfl (by kernel_rfl) Tryz.ntmps64 (Nat.le_of_ble_eq_true rfl) rfl ?_
  refine AW.seq ?_
  refine AW.region ?_
  refine AL.pure rfl rfl (by decide) (P_assign rfl) ?_
  refine AL.pure rfl rfl (by decide) (P_assign rfl) ?_
  refine AL.nil ?_
  refine Then.go ?_
  refine AW.seq ?_
  refine AW.seq ?_
  refine AW.region ?_
  refine AL.pure rfl rfl (by decide) (P_move rfl) ?_
  refine AL.pure rfl rfl (by decide) (P_move rfl) ?_
  refine AL.call (C_volume_some ) _ [] [] _ rfl (by decide) rfl rfl rfl SubG.nil ?_
  rintro _ _ ⟨rfl, rfl⟩
  refine ⟨rfl, rfl, ?_⟩
  refine AL.pure rfl rfl (by decide) (P_assign rfl) ?_
  refine AL.nil ?_
  refine Then.go ?_
  refine AW.seq ?_
  refine AW.region ?_
  refine AL.pure rfl rfl (by decide) (P_move rfl) ?_
  refine AL.pure rfl rfl (by decide) (P_neq rfl rfl) ?_
  refine AL.nil ?_
  refine Then.go ?_
  refine AW.condF rfl ?_
  refine AW.skip ?_
  refine Then.go ?_
  refine AW.seq ?_
  refine AW.region ?_
  refine AL.pure rfl rfl (by decide) (P_move rfl) ?_
  refine AL.call (C_nand_Chip_Geometry g ) _ [] [] _ rfl (by decide) rfl rfl rfl (SubG.cons rfl SubG.nil) ?_
  rintro _ _ ⟨rfl, rfl⟩
  refine ⟨rfl, rfl, ?_⟩
  refine AL.pure rfl rfl (by decide) (P_move rfl) ?_
  refine AL.pure rfl rfl (by decide) (P_move rfl) ?_
  refine AL.pure rfl rfl (by decide) (P_move rfl) ?_
  refine AL.call (C_flow_New ) _ [] [] _ rfl (by decide) rfl rfl rfl SubG.nil ?_
  rintro _ _ ⟨rfl, rfl⟩
  refine ⟨rfl, rfl, ?_⟩
  refine AL.pure rfl rfl (by decide) (P_build ty114 tz114 tf113 rfl) ?_
  refine AL.eff rfl rfl (by decide) (E_box 50 rfl rfl rfl rfl rfl rfl) ?_
  refine AL.pure rfl rfl (by decide) (P_assign rfl) ?_
  refine AL.pure rfl rfl (by decide) (P_assign rfl) ?_
  refine AL.nil ?_
  refine Then.go ?_
  refine AW.ret ?_
  refine ⟨(by exact .inr rfl), _, _, (.cons (.tmp rfl) (.cons (.tmp rfl) .nil)), (SubG.cons (l := 50) rfl (SubG.cons (l := 40) rfl (SubG.cons (l := 41) rfl (SubG.cons (l := 20) rfl SubG.nil)))), ?_, rfl, rfl⟩
  exact ⟨rfl, rfl⟩
theorem C_volume_Format (g : Geo) (s z : Nat) (c : Nor) (hs : g.s = s) (hz : g.z = z) (hr : rightG g = true) (hc : NorOk s z c) : ACalls Tryz.prog 45 [.ptr 10 0, .ptr 20 0] (norS g c ++ nandG g Nand.new) ([]) (fun r G => ∃ c', r = .tup [.ptr 50 0, vI .i64 0] ∧ G = (50, volO g) :: (40, flowO) :: (41, .mapT (ents k1 i8 [])) :: (30, jrO Jr.new) :: (norS g c' ++ nandG g Nand.new) ∧ JOk s z c' Jr.new) := by
  obtain ⟨_, _, _, _, _, b6, b7, _⟩ := rightG_facts hs hz hr
  refine acalls_of_body 38 [1, 2, 10, 11, 12, 20, 21, 22, 23] Tryz.func45 rfl (by kernel_rfl) Tryz.ntmps45 (Nat.le_of_ble_eq_true rfl) rfl ?_
  refine AW.seq ?_
  refine AW.region ?_
  refine AL.pure rfl rfl (by decide) (P_assign rfl) ?_
  refine AL.pure rfl rfl (by decide) (P_assign rfl) ?_
  refine AL.nil ?_
  refine Then.go ?_
  refine AW.seq ?_
  refine AW.seq ?_
  refine AW.region ?_
  refine AL.pure rfl rfl (by decide) (P_move rfl) ?_
  refine AL.pure rfl rfl (by decide) (P_move rfl) ?_
  refine AL.call (C_volume_ask g c.m.length ) _ [] [] _ rfl (by decide) rfl rfl rfl (SubG.cons rfl (SubG.cons rfl SubG.nil)) ?_
  rintro _ _ ⟨rfl, rfl⟩
  refine ⟨rfl, rfl, ?_⟩
  refine AL.pure rfl rfl (by decide) (P_assign rfl) ?_
  refine AL.nil ?_
  refine Then.go ?_
  refine AW.seq ?_
  refine AW.region ?_
  refine AL.pure rfl rfl (by decide) (P_move rfl) ?_
  refine AL.pure rfl rfl (by decide) (P_neq rfl rfl) ?_
  refine AL.nil ?_
  refine Then.go ?_
  refine AW.condF rfl ?_
  refine AW.skip ?_
  refine Then.go ?_
  refine AW.seq ?_
  refine AW.region ?_
  refine AL.pure rfl rfl (by decide) (P_move rfl) ?_
  refine AL.call (C_volume_erase g (by omega) (by omega) ) _ [] [] _ rfl (by decide) rfl rfl rfl (SubG.cons rfl (SubG.cons rfl SubG.nil)) ?_
  rintro _ _ ⟨rfl, rfl⟩
  refine ⟨rfl, rfl, ?_⟩
  refine AL.pure rfl rfl (by decide) (P_move rfl) ?_
  refine AL.pure rfl rfl (by decide) (P_extract rfl rfl) ?_
  refine AL.pure rfl rfl (by decide) (P_extract rfl rfl) ?_
  refine AL.pure rfl rfl (by decide) (P_assign rfl) ?_
  refine AL.pure rfl rfl (by decide) (P_assign rfl) ?_
  refine AL.nilS 7 9 rfl ?_
  refine AL.nil ?_
  refine Then.go ?_
  refine AW.seq ?_
  refine AW.seq ?_
  refine AW.region ?_
  refine AL.pure rfl rfl (by decide) (P_move rfl) ?_
  refine AL.pure rfl rfl (by decide) (P_neq rfl rfl) ?_
  refine AL.nil ?_
  refine Then.go ?_
  refine AW.condF rfl ?_
  refine AW.skip ?_
  refine Then.go ?_
  refine AW.seq ?_
  refine AW.region ?_
  refine AL.pure rfl rfl (by decide) (P_move rfl) ?_
  refine AL.call (C_journal_Format g s z c hs hz hr hc ) _ [] [] _ rfl (by decide) rfl rfl rfl (SubG.cons rfl (SubG.cons rfl (SubG.cons rfl (SubG.cons rfl SubG.nil)))) ?_
  rintro _ _ ⟨c', rfl, rfl, hj⟩
  refine ⟨rfl, rfl, ?_⟩
  refine AL.pure rfl rfl (by decide) (P_move rfl) ?_
  refine AL.pure rfl rfl (by decide) (P_extract rfl rfl) ?_
  refine AL.pure rfl rfl (by decide) (P_extract rfl rfl) ?_
  refine AL.pure rfl rfl (by decide) (P_assign rfl) ?_
  refine AL.pure rfl rfl (by decide) (P_assign rfl) ?_
  refine AL.nil ?_
  refine Then.go ?_
  refine AW.seq ?_
  refine AW.seq ?_
  refine AW.region ?_
  refine AL.pure rfl rfl (by decide) (P_move rfl) ?_
  refine AL.pure rfl rfl (by decide) (P_neq rfl rfl) ?_
  refine AL.nil ?_
  refine Then.go ?_
  refine AW.condF rfl ?_
  refine AW.skip ?_
  refine Then.go ?_
  refine AW.seq ?_
  refine AW.region ?_
  refine AL.pure rfl rfl (by decide) (P_move rfl) ?_
  refine AL.pure rfl rfl (by decide) (P_move rfl) ?_
  refine AL.pure rfl rfl (by decide) (P_move rfl) ?_
  refine AL.call (C_volume_made g ) _ [] [] _ rfl (by decide) rfl rfl rfl (SubG.cons rfl SubG.nil) ?_
  rintro _ _ ⟨rfl, rfl⟩
  refine ⟨rfl, rfl, ?_⟩
  refine AL.pure rfl rfl (by decide) (P_extract rfl rfl) ?_
  refine AL.pure rfl rfl (by decide) (P_extract rfl rfl) ?_
  refine AL.pure rfl rfl (by decide) (P_assign rfl) ?_
  refine AL.pure rfl rfl (by decide) (P_assign rfl) ?_
  refine AL.nil ?_
  refine Then.go ?_
  refine AW.ret ?_
  refine ⟨(by exact .inr rfl), _, _, (.cons (.tmp rfl) (.cons (.tmp rfl) .nil)), (SubG.cons (l := 50) rfl (SubG.cons (l := 40) rfl (SubG.cons (l := 41) rfl (SubG.cons (l := 30) rfl (SubG.cons (l := 1) rfl (SubG.cons (l := 10) rfl (SubG.cons (l := 11) rfl (SubG.cons (l := 12) rfl (SubG.cons (l := 20) rfl (SubG.cons (l := 21) rfl (SubG.cons (l := 22) rfl (SubG.cons (l := 23) rfl SubG.nil)))))))))))), ?_, rfl, rfl⟩
  exact ⟨c', rfl, rfl, hj⟩
theorem C_vfs_System_up  : ACalls Tryz.prog 36 [.ptr 80 0, .ptr 50 0, vI .i64 0] ([(80, .row 75 [.ptr 1 0, .ptr 10 0, .ptr 20 0, nilP, nilP, nilP, vI .i64 0])]) ([]) (fun r G => r = vI .i64 0 ∧ G = [(80, sysO), (60, filesO), (70, tabO), (71, .mapT [])]) := by
  refine acalls_of_body 25 [80, 1, 10, 20, 50] Tryz.func36 rfl (by kernel_rfl) Tryz.ntmps36 (Nat.le_of_ble_eq_true rfl) rfl ?_
  refine AW.seq ?_
  refine AW.region ?_
  refine AL.pure rfl rfl (by decide) (P_assign rfl) ?_
  refine AL.nil ?_
  refine Then.go ?_
  refine AW.seq ?_
  refine AW.region ?_
  refine AL.pure rfl rfl (by decide) (P_move rfl) ?_
  refine AL.pure rfl rfl (by decide) (P_move rfl) ?_
  refine AL.pure rfl rfl (by decide) (P_move rfl) ?_
  refine AL.pure rfl rfl (by decide) (P_move rfl) ?_
  refine AL.pure rfl rfl (by decide) (P_move rfl) ?_
  refine AL.pure rfl rfl (by decide) (P_move rfl) ?_
  refine AL.call (C_files_New ) _ [] [] _ rfl (by decide) rfl rfl rfl SubG.nil ?_
  rintro _ _ ⟨rfl, rfl⟩
  refine ⟨rfl, rfl, ?_⟩
  refine AL.call (C_table_New ) _ [] [] _ rfl (by decide) rfl rfl rfl SubG.nil ?_
  rintro _ _ ⟨rfl, rfl⟩
  refine ⟨rfl, rfl, ?_⟩
  refine AL.pure rfl rfl (by decide) (P_move rfl) ?_
  refine AL.pure rfl rfl (by decide) (P_nilCheck rfl) ?_
  refine AL.pure rfl rfl (by decide) (P_fieldAddr ty75 rfl ty71 rfl) ?_
  refine AL.eff0 rfl rfl (E_store ty71 rfl rfl rfl rfl rfl (Nat.le_of_ble_eq_true rfl)) ?_
  refine AL.pure rfl rfl (by decide) (P_nilCheck rfl) ?_
  refine AL.pure rfl rfl (by decide) (P_fieldAddr ty75 rfl ty72 rfl) ?_
  refine AL.eff0 rfl rfl (E_store ty72 rfl rfl rfl rfl rfl (Nat.le_of_ble_eq_true rfl)) ?_
  refine AL.pure rfl rfl (by decide) (P_nilCheck rfl) ?_
  refine AL.pure rfl rfl (by decide) (P_fieldAddr ty75 rfl ty73 rfl) ?_
  refine AL.eff0 rfl rfl (E_store ty73 rfl rfl rfl rfl rfl (Nat.le_of_ble_eq_true rfl)) ?_
  refine AL.pure rfl rfl (by decide) (P_nilCheck rfl) ?_
  refine AL.pure rfl rfl (by decide) (P_fieldAddr ty75 rfl ty25 rfl) ?_
  refine AL.eff0 rfl rfl (E_store ty25 rfl rfl rfl rfl rfl (Nat.le_of_ble_eq_true rfl)) ?_
  refine AL.nil ?_
  refine Then.go ?_
  refine AW.seq ?_
  refine AW.region ?_
  refine AL.pure rfl rfl (by decide) (P_move rfl) ?_
  refine AL.pure rfl rfl (by decide) (P_assign rfl) ?_
  refine AL.nil ?_
  refine Then.go ?_
  refine AW.ret ?_
  refine ⟨(by exact .inr rfl), _, _, (.cons (.tmp rfl) .nil), (SubG.cons (l := 80) rfl (SubG.cons (l := 60) rfl (SubG.cons (l := 70) rfl (SubG.cons (l := 71) rfl SubG.nil)))), ?_, rfl, rfl⟩
  exact ⟨rfl, rfl⟩

abbrev sysG (g : Geo) (c : Nor) (fl : List (Int × Int)) (n : Nand) (pins : List (Int × Int)) (j : Jr) (tb : List (Value × Tr)) : GS :=
  [(80, sysO), (60, filesO), (70, tabO), (71, .mapT tb), (50, volO g), (40, flowO), (41, .mapT (ents k1 i8 pins)), (30, jrO j), (1, pwO c.p), (2, .mapT (ents k1 i8 fl)), (10, norO g c.m.length), (11, .els 5 1 (bs c.m)), (12, .mapT (ents k1 i8 c.er)), (20, nandO g), (21, .mapT (ents k2 pgT n.pg)), (22, .mapT (ents k2 i8 n.ct)), (23, .mapT (ents k2 i8 n.er))]
def Nor.new (N : Nat) : Nor := ⟨⟨-1, 0, false, 0⟩, ffs N, []⟩
theorem Nor.new_ok (s z : Nat) : NorOk s z (Nor.new (s * z)) := ⟨⟨rfl, rfl⟩, by simp [Nor.new], by simp [Nor.new, okL]⟩

set_option maxHeartbeats 2000000 in
theorem C_vfs_New (g : Geo) (l : List Int) (hr : rightG g = true) (hl : ∀ n ∈ l, in64 n) (h1 : l.length ≤ 1000000) : ACalls Tryz.prog 17 [.tr g.t, .tr (.sl 1 (l.map i8))] ([]) ([]) (fun r G => ∃ s z c, g.s = (s : Nat) ∧ g.z = (z : Nat) ∧ r = .tup [.ptr 80 0, vI .i64 0] ∧ G = sysG g c (failsM l) Nand.new [] Jr.new [] ∧ JOk s z c Jr.new) := by
  obtain ⟨s, z, hs, hz, _⟩ := rightG_geo hr
  refine acalls_of_body 64 [] Tryz.func17 rfl (by kernel_rfl) Tryz.ntmps17 (Nat.le_of_ble_eq_true rfl) rfl ?_
  refine AW.seq ?_
  refine AW.region ?_
  refine AL.eff rfl rfl (by decide) (E_box 102 rfl rfl rfl rfl rfl rfl) ?_
  refine AL.pure rfl rfl (by decide) (P_assign rfl) ?_
  refine AL.pure rfl rfl (by decide) (P_assign rfl) ?_
  refine AL.nil ?_
  refine Then.go ?_
  refine AW.seq ?_
  refine AW.region ?_
  refine AL.call (C_power_New ) _ [] [] _ rfl (by decide) rfl rfl rfl SubG.nil ?_
  rintro _ _ ⟨rfl, rfl⟩
  refine ⟨rfl, rfl, ?_⟩
  refine AL.pure rfl rfl (by decide) (P_build ty75 tz75 tf74 rfl) ?_
  refine AL.eff rfl rfl (by decide) (E_box 80 rfl rfl rfl rfl rfl rfl) ?_
  refine AL.pure rfl rfl (by decide) (P_assign rfl) ?_
  refine AL.nil ?_
  refine Then.go ?_
  refine AW.seq ?_
  refine AW.region ?_
  refine AL.pure rfl rfl (by decide) (P_move rfl) ?_
  refine AL.pure rfl rfl (by decide) (P_nilCheck rfl) ?_
  refine AL.pure rfl rfl (by decide) (P_fieldAddr ty75 rfl ty70 rfl) ?_
  refine AL.pure rfl rfl (by decide) (P_load ty70 rfl rfl rfl rfl) ?_
  refine AL.pure rfl rfl (by decide) (P_move rfl) ?_
  refine AL.call (C_power_Power_Fail l hl h1 ) _ [] [] _ rfl (by decide) rfl rfl rfl (SubG.cons rfl SubG.nil) ?_
  rintro _ _ ⟨rfl, rfl⟩
  refine ⟨rfl, rfl, ?_⟩
  refine AL.nil ?_
  refine Then.go ?_
  refine AW.seq ?_
  refine AW.region ?_
  refine AL.pure rfl rfl (by decide) (P_assign rfl) ?_
  refine AL.nil ?_
  refine Then.go ?_
  refine AW.seq ?_
  refine AW.seq ?_
  refine AD.start ?_
  refine AD.op 0 18 [] _ rfl rfl rfl (B_pure (P_move rfl)) ?_
  refine AD.op 1 19 [] _ rfl rfl rfl (B_pure (P_loadA ty48 rfl rfl rfl (Nat.le_of_ble_eq_true rfl))) ?_
  refine AD.op 2 20 [] _ rfl rfl rfl (B_pure (P_move rfl)) ?_
  refine AD.op 3 21 [2] _ rfl rfl rfl (B_pure (P_nilCheck rfl)) ?_
  refine AD.op 4 22 [2, 3] _ rfl rfl rfl (B_pure (P_fieldAddr ty75 rfl ty70 rfl)) ?_
  refine AD.op 5 23 [2, 3, 4] _ rfl rfl rfl (B_pure (P_load ty70 rfl rfl rfl rfl)) ?_
  refine AD.op 6 24 [1, 2, 3, 4, 5] _ rfl rfl rfl (B_call0 (C_nor_New g s z hs hz hr ) _ rfl rfl (by rintro _ _ ⟨rfl, rfl⟩; exact ⟨rfl, rfl⟩)) ?_
  refine AD.op 7 17 [1, 2, 3, 4, 5, 6] _ rfl rfl rfl (B_pure (P_move rfl)) ?_
  refine AD.op 8 25 [1, 2, 3, 4, 5, 6, 7] _ rfl rfl rfl (B_pure (P_extract rfl rfl)) ?_
  refine AD.op 9 26 [1, 2, 3, 4, 5, 6, 7] _ rfl rfl rfl (B_pure (P_extract rfl rfl)) ?_
  refine AD.tailE [9] mixed rfl (by kernel_rfl) (by kernel_rfl) (by kernel_rfl) (by kernel_rfl) (fun _ _ _ h => by obtain ⟨h1, _⟩ := h; rcases h1 with h1 | h1 <;> cases h1) ⟨⟨_, rfl, rfl, rfl, W_extract rfl rfl⟩, ⟨True.intro, ⟨True.intro, ⟨True.intro, ⟨True.intro, ⟨True.intro, ⟨True.intro, ⟨True.intro, ⟨True.intro, ⟨True.intro, trivial⟩⟩⟩⟩⟩⟩⟩⟩⟩⟩ rfl ?_
  refine AL.pure rfl rfl (by decide) (P_nilCheck rfl) ?_
  refine AL.pure rfl rfl (by decide) (P_fieldAddr ty75 rfl ty49 rfl) ?_
  refine AL.eff0 rfl rfl (E_store ty49 rfl rfl rfl rfl rfl (Nat.le_of_ble_eq_true rfl)) ?_
  refine AL.pure rfl rfl (by decide) (P_assign rfl) ?_
  refine AL.nil ?_
  refine Then.go ?_
  refine AW.seq ?_
  refine AW.region ?_
  refine AL.pure rfl rfl (by decide) (P_move rfl) ?_
  refine AL.pure rfl rfl (by decide) (P_neq rfl rfl) ?_
  refine AL.nil ?_
  refine Then.go ?_
  refine AW.condF rfl ?_
  refine AW.skip ?_
  refine Then.go ?_
  refine AW.seq ?_
  refine AW.seq ?_
  refine AD.start ?_
  refine AD.op 0 33 [] _ rfl rfl rfl (B_pure (P_move rfl)) ?_
  refine AD.op 1 34 [] _ rfl rfl rfl (B_pure (P_loadA ty48 rfl rfl rfl (Nat.le_of_ble_eq_true rfl))) ?_
  refine AD.op 2 35 [] _ rfl rfl rfl (B_pure (P_move rfl)) ?_
  refine AD.op 3 36 [2] _ rfl rfl rfl (B_pure (P_nilCheck rfl)) ?_
  refine AD.op 4 37 [2, 3] _ rfl rfl rfl (B_pure (P_fieldAddr ty75 rfl ty70 rfl)) ?_
  refine AD.op 5 38 [2, 3, 4] _ rfl rfl rfl (B_pure (P_load ty70 rfl rfl rfl rfl)) ?_
  refine AD.op 6 39 [1, 2, 3, 4, 5] _ rfl rfl rfl (B_call0 (C_nand_New g hr ) _ rfl rfl (by rintro _ _ ⟨rfl, rfl⟩; exact ⟨rfl, rfl⟩)) ?_
  refine AD.op 7 32 [1, 2, 3, 4, 5, 6] _ rfl rfl rfl (B_pure (P_move rfl)) ?_
  refine AD.op 8 40 [1, 2, 3, 4, 5, 6, 7] _ rfl rfl rfl (B_pure (P_extract rfl rfl)) ?_
  refine AD.op 9 41 [1, 2, 3, 4, 5, 6, 7] _ rfl rfl rfl (B_pure (P_extract rfl rfl)) ?_
  refine AD.tailE [9] mixed rfl (by kernel_rfl) (by kernel_rfl) (by kernel_rfl) (by kernel_rfl) (fun _ _ _ h => by obtain ⟨h1, _⟩ := h; rcases h1 with h1 | h1 <;> cases h1) ⟨⟨_, rfl, rfl, rfl, W_extract rfl rfl⟩, ⟨True.intro, ⟨True.intro, ⟨True.intro, ⟨True.intro, ⟨True.intro, ⟨True.intro, ⟨True.intro, ⟨True.intro, ⟨True.intro, trivial⟩⟩⟩⟩⟩⟩⟩⟩⟩⟩ rfl ?_
  refine AL.pure rfl rfl (by decide) (P_nilCheck rfl) ?_
  refine AL.pure rfl rfl (by decide) (P_fieldAddr ty75 rfl ty50 rfl) ?_
  refine AL.eff0 rfl rfl (E_store ty50 rfl rfl rfl rfl rfl (Nat.le_of_ble_eq_true rfl)) ?_
  refine AL.pure rfl rfl (by decide) (P_assign rfl) ?_
  refine AL.nil ?_
  refine Then.go ?_
  refine AW.seq ?_
  refine AW.region ?_
  refine AL.pure rfl rfl (by decide) (P_move rfl) ?_
  refine AL.pure rfl rfl (by decide) (P_neq rfl rfl) ?_
  refine AL.nil ?_
  refine Then.go ?_
  refine AW.condF rfl ?_
  refine AW.skip ?_
  refine Then.go ?_
  refine AW.seq ?_
  refine AW.seq ?_
  refine AO.start mixed ?_
  refine AO.take 0 rfl rfl rfl (by decide) (by kernel_rfl) (by kernel_rfl) (by kernel_rfl) (fun _ _ _ h => by obtain ⟨h1, _⟩ := h; rcases h1 with h1 | h1 <;> cases h1) (W_move rfl) ?_
  refine AO.take 1 rfl rfl rfl (by decide) (by kernel_rfl) (by kernel_rfl) (by kernel_rfl) (fun _ _ _ h => by obtain ⟨h1, _⟩ := h; rcases h1 with h1 | h1 <;> cases h1) (W_move rfl) ?_
  refine AO.take 2 rfl rfl rfl (by decide) (by kernel_rfl) (by kernel_rfl) (by kernel_rfl) (fun _ _ _ h => by obtain ⟨h1, _⟩ := h; rcases h1 with h1 | h1 <;> cases h1) (W_nilCheck rfl) ?_
  refine AO.take 3 rfl rfl rfl (by decide) (by kernel_rfl) (by kernel_rfl) (by kernel_rfl) (fun _ _ _ h => by obtain ⟨h1, _⟩ := h; rcases h1 with h1 | h1 <;> cases h1) (W_fieldAddr ty75 rfl ty49 rfl) ?_
  refine AO.take 5 rfl rfl rfl (by decide) (by kernel_rfl) (by kernel_rfl) (by kernel_rfl) (fun _ _ _ h => by obtain ⟨h1, _⟩ := h; rcases h1 with h1 | h1 <;> cases h1) (W_move rfl) ?_
  refine AO.take 6 rfl rfl rfl (by decide) (by kernel_rfl) (by kernel_rfl) (by kernel_rfl) (fun _ _ _ h => by obtain ⟨h1, _⟩ := h; rcases h1 with h1 | h1 <;> cases h1) (W_nilCheck rfl) ?_
  refine AO.take 7 rfl rfl rfl (by decide) (by kernel_rfl) (by kernel_rfl) (by kernel_rfl) (fun _ _ _ h => by obtain ⟨h1, _⟩ := h; rcases h1 with h1 | h1 <;> cases h1) (W_fieldAddr ty75 rfl ty50 rfl) ?_
  refine AO.two 4 8 (by kernel_rfl) rfl rfl ?_ ?_
  · skip
    refine AL.pure rfl rfl (by decide) (P_load ty49 rfl rfl rfl rfl) ?_
    refine AL.nil (AOK.go ?_)
    refine AO.one 8 (by kernel_rfl) rfl ?_
    refine AL.pure rfl rfl (by decide) (P_load ty50 rfl rfl rfl rfl) ?_
    refine AL.nil (AOK.go ?_)
    refine AO.one 9 (by kernel_rfl) rfl ?_
    refine AL.call (C_volume_Format g s z (Nor.new (s * z)) hs hz hr (Nor.new_ok s z) ) _ [] [] _ rfl (by decide) rfl rfl rfl (SubG.cons rfl (SubG.cons rfl (SubG.cons rfl (SubG.cons rfl (SubG.cons rfl (SubG.cons rfl (SubG.cons rfl (SubG.cons rfl SubG.nil)))))))) ?_
    rintro _ _ ⟨c', rfl, rfl, hj⟩
    refine ⟨rfl, rfl, ?_⟩
    refine AL.nil (AOK.go ?_)
    refine AO.take 10 rfl rfl rfl (by decide) (by kernel_rfl) (by kernel_rfl) (by kernel_rfl) (fun _ _ _ h => by obtain ⟨h1, _⟩ := h; rcases h1 with h1 | h1 <;> cases h1) (W_extract rfl rfl) ?_
    refine AO.one 11 (by kernel_rfl) rfl ?_
    refine AL.pure rfl rfl (by decide) (P_extract rfl rfl) ?_
    refine AL.nil (AOK.go ?_)
    refine AO.one 12 (by kernel_rfl) rfl ?_
    refine AL.call (C_vfs_System_up ) _ [] [] _ rfl (by decide) rfl rfl rfl (SubG.cons rfl SubG.nil) ?_
    rintro _ _ ⟨rfl, rfl⟩
    refine ⟨rfl, rfl, ?_⟩
    refine AL.nil (AOK.go ?_)
    refine AO.one 13 (by kernel_rfl) rfl ?_
    refine AL.pure rfl rfl (by decide) (P_assign rfl) ?_
    refine AL.nil (AOK.go ?_)
    refine AO.done_ (by kernel_rfl) ?_
    refine Then.go ?_
    refine AW.seq ?_
    refine AW.region ?_
    refine AL.pure rfl rfl (by decide) (P_move rfl) ?_
    refine AL.pure rfl rfl (by decide) (P_neq rfl rfl) ?_
    refine AL.nil ?_
    refine Then.go ?_
    refine AW.condF rfl ?_
    refine AW.skip ?_
    refine Then.go ?_
    refine AW.seq ?_
    refine AW.region ?_
    refine AL.pure rfl rfl (by decide) (P_move rfl) ?_
    refine AL.pure rfl rfl (by decide) (P_assign rfl) ?_
    refine AL.pure rfl rfl (by decide) (P_assign rfl) ?_
    refine AL.nil ?_
    refine Then.go ?_
    refine AW.ret ?_
    refine ⟨(by exact .inr rfl), _, _, (.cons (.tmp rfl) (.cons (.tmp rfl) .nil)), (SubG.cons (l := 80) rfl (SubG.cons (l := 60) rfl (SubG.cons (l := 70) rfl (SubG.cons (l := 71) rfl (SubG.cons (l := 50) rfl (SubG.cons (l := 40) rfl (SubG.cons (l := 41) rfl (SubG.cons (l := 30) rfl (SubG.cons (l := 1) rfl (SubG.cons (l := 2) rfl (SubG.cons (l := 10) rfl (SubG.cons (l := 11) rfl (SubG.cons (l := 12) rfl (SubG.cons (l := 20) rfl (SubG.cons (l := 21) rfl (SubG.cons (l := 22) rfl (SubG.cons (l := 23) rfl SubG.nil))))))))))))))))), ?_, rfl, rfl⟩
    exact ⟨s, z, c', hs, hz, rfl, rfl, hj⟩
  · skip
    refine AL.pure rfl rfl (by decide) (P_load ty50 rfl rfl rfl rfl) ?_
    refine AL.nil (AOK.go ?_)
    refine AO.one 4 (by kernel_rfl) rfl ?_
    refine AL.pure rfl rfl (by decide) (P_load ty49 rfl rfl rfl rfl) ?_
    refine AL.nil (AOK.go ?_)
    refine AO.one 9 (by kernel_rfl) rfl ?_
    refine AL.call (C_volume_Format g s z (Nor.new (s * z)) hs hz hr (Nor.new_ok s z) ) _ [] [] _ rfl (by decide) rfl rfl rfl (SubG.cons rfl (SubG.cons rfl (SubG.cons rfl (SubG.cons rfl (SubG.cons rfl (SubG.cons rfl (SubG.cons rfl (SubG.cons rfl SubG.nil)))))))) ?_
    rintro _ _ ⟨c', rfl, rfl, hj⟩
    refine ⟨rfl, rfl, ?_⟩
    refine AL.nil (AOK.go ?_)
    refine AO.take 10 rfl rfl rfl (by decide) (by kernel_rfl) (by kernel_rfl) (by kernel_rfl) (fun _ _ _ h => by obtain ⟨h1, _⟩ := h; rcases h1 with h1 | h1 <;> cases h1) (W_extract rfl rfl) ?_
    refine AO.one 11 (by kernel_rfl) rfl ?_
    refine AL.pure rfl rfl (by decide) (P_extract rfl rfl) ?_
    refine AL.nil (AOK.go ?_)
    refine AO.one 12 (by kernel_rfl) rfl ?_
    refine AL.call (C_vfs_System_up ) _ [] [] _ rfl (by decide) rfl rfl rfl (SubG.cons rfl SubG.nil) ?_
    rintro _ _ ⟨rfl, rfl⟩
    refine ⟨rfl, rfl, ?_⟩
    refine AL.nil (AOK.go ?_)
    refine AO.one 13 (by kernel_rfl) rfl ?_
    refine AL.pure rfl rfl (by decide) (P_assign rfl) ?_
    refine AL.nil (AOK.go ?_)
    refine AO.done_ (by kernel_rfl) ?_
    refine Then.go ?_
    refine AW.seq ?_
    refine AW.region ?_
    refine AL.pure rfl rfl (by decide) (P_move rfl) ?_
    refine AL.pure rfl rfl (by decide) (P_neq rfl rfl) ?_
    refine AL.nil ?_
    refine Then.go ?_
    refine AW.condF rfl ?_
    refine AW.skip ?_
    refine Then.go ?_
    refine AW.seq ?_
    refine AW.region ?_
    refine AL.pure rfl rfl (by decide) (P_move rfl) ?_
    refine AL.pure rfl rfl (by decide) (P_assign rfl) ?_
    refine AL.pure rfl rfl (by decide) (P_assign rfl) ?_
    refine AL.nil ?_
    refine Then.go ?_
    refine AW.ret ?_
    refine ⟨(by exact .inr rfl), _, _, (.cons (.tmp rfl) (.cons (.tmp rfl) .nil)), (SubG.cons (l := 80) rfl (SubG.cons (l := 60) rfl (SubG.cons (l := 70) rfl (SubG.cons (l := 71) rfl (SubG.cons (l := 50) rfl (SubG.cons (l := 40) rfl (SubG.cons (l := 41) rfl (SubG.cons (l := 30) rfl (SubG.cons (l := 1) rfl (SubG.cons (l := 2) rfl (SubG.cons (l := 10) rfl (SubG.cons (l := 11) rfl (SubG.cons (l := 12) rfl (SubG.cons (l := 20) rfl (SubG.cons (l := 21) rfl (SubG.cons (l := 22) rfl (SubG.cons (l := 23) rfl SubG.nil))))))))))))))))), ?_, rfl, rfl⟩
    exact ⟨s, z, c', hs, hz, rfl, rfl, hj⟩
end Go.Proofs.YtmakeajjgjnldaaGreatDoor
