/- Walks, part 14: chips while nothing goes out; a journal made. -/
import Derived.Test.YtmakeajjgjnldaaGreatDoorS13
import Derived.Test.YtmakeajjgjnldaaGreatDoorM4
set_option linter.unusedVariables false
set_option linter.unusedSimpArgs false
set_option maxRecDepth 100000
namespace Go.Proofs.YtmakeajjgjnldaaGreatDoor
open Go Go.Ab

/-- Power that stays. -/
def Pw.calm (p : Pw) : Prop := p.left = -1 ∧ p.off = false
theorem Pw.calm.ok {p : Pw} (h : p.calm) : p.ok := by obtain ⟨h1, h2⟩ := h; exact ⟨by omega, by omega⟩
theorem stepP_calm {p : Pw} (h : p.calm) : (stepP p).1 = true ∧ (stepP p).2.1 = false ∧ (stepP p).2.2.calm := by
  obtain ⟨h1, h2⟩ := h
  simp [stepP, h2, h1, Pw.calm]
/-- A chip's bytes. -/
structure Nor where
  p : Pw
  m : List UInt8
  er : List (Int × Int)
abbrev norS (g : Geo) (c : Nor) : GS := norG c.p g c.m c.er
structure NorOk (s z : Nat) (c : Nor) : Prop where
  calm : c.p.calm
  len : c.m.length = s * z
  er : okL in64 c.er
theorem or_ff (x : UInt8) : x ||| 255 = 255 := by
  apply UInt8.toNat_inj.1
  have key : ∀ n < 256, n ||| 255 = 255 := by decide
  have := key x.toNat x.toNat_lt
  simpa using this
theorem orAt_getD (m : List UInt8) (off k j : Nat) : (orAt m off k 255).getD j 0 = if off ≤ j ∧ j < off + k ∧ j < m.length then 255 else m.getD j 0 := by
  simp only [List.getD]
  by_cases h : j < m.length
  · have h2 : j < (orAt m off k 255).length := by rw [orAt_length]; exact h
    rw [List.getElem?_eq_getElem h2, List.getElem?_eq_getElem h]
    simp only [orAt, List.getElem_mapIdx, Option.getD_some]
    by_cases e : off ≤ j ∧ j < off + k
    · rw [if_pos e, if_pos ⟨e.1, e.2, h⟩]
      exact or_ff _
    · rw [if_neg e, if_neg (fun q => e ⟨q.1, q.2.1⟩)]
  · have h2 : ¬ j < (orAt m off k 255).length := by rw [orAt_length]; exact h
    rw [List.getElem?_eq_none (by omega), List.getElem?_eq_none (by omega), if_neg (by omega)]
theorem eraseN_calm {s z : Nat} {c : Nor} (h : NorOk s z c) (i : Nat) (hi : i ≤ 1000000) : (eraseN c.p c.m c.er i z).1 = 0 ∧ NorOk s z ⟨(eraseN c.p c.m c.er i z).2.1, (eraseN c.p c.m c.er i z).2.2.1, (eraseN c.p c.m c.er i z).2.2.2⟩ ∧
    ∀ j, (eraseN c.p c.m c.er i z).2.2.1.getD j 0 = if i * z ≤ j ∧ j < (i + 1) * z ∧ j < s * z then 255 else c.m.getD j 0 := by
  obtain ⟨h1, h2, h3⟩ := h
  obtain ⟨k1, k2, k3⟩ := stepP_calm h1
  have e : eraseN c.p c.m c.er i z = (0, (stepP c.p).2.2, orAt c.m (i * z) z 255, setL c.er i (IntKind.i64.wrap ((getL c.er i).getD 0 + 1))) := by simp [eraseN, k1]
  rw [e]
  refine ⟨rfl, ⟨k3, by rw [orAt_length]; exact h2, okL_setL h3 (by constructor <;> omega) _⟩, fun j => ?_⟩
  rw [orAt_getD, h2, Nat.succ_mul]
theorem wipeN_calm {s z base : Nat} : ∀ (k : Nat) {c : Nor}, NorOk s z c → base + k ≤ 1000000 → (wipeN c.p c.m c.er base z k).1 = 0 ∧ NorOk s z ⟨(wipeN c.p c.m c.er base z k).2.1, (wipeN c.p c.m c.er base z k).2.2.1, (wipeN c.p c.m c.er base z k).2.2.2⟩ ∧
    ∀ j, (wipeN c.p c.m c.er base z k).2.2.1.getD j 0 = if base * z ≤ j ∧ j < (base + k) * z ∧ j < s * z then 255 else c.m.getD j 0
  | 0, c, h, hk => by
    refine ⟨rfl, h, fun j => ?_⟩
    rw [if_neg (by rw [Nat.add_zero]; omega)]; rfl
  | k + 1, c, h, hk => by
    obtain ⟨e1, e2, e3⟩ := eraseN_calm h (base + k) (by omega)
    obtain ⟨w1, w2, w3⟩ := wipeN_calm (base := base) k e2 (by omega)
    have e : wipeN c.p c.m c.er base z (k + 1) = wipeN (eraseN c.p c.m c.er (base + k) z).2.1 (eraseN c.p c.m c.er (base + k) z).2.2.1 (eraseN c.p c.m c.er (base + k) z).2.2.2 base z k := by rw [wipeN, if_pos e1]
    rw [e]
    refine ⟨w1, w2, fun j => ?_⟩
    rw [w3, e3]
    have hle : base * z ≤ (base + k) * z := Nat.mul_le_mul_right _ (by omega)
    have hsu : (base + (k + 1)) * z = (base + k) * z + z := by rw [← Nat.add_assoc, Nat.succ_mul]
    have hsv : (base + k + 1) * z = (base + k) * z + z := Nat.succ_mul _ _
    rw [hsu, hsv]
    by_cases q1 : base * z ≤ j ∧ j < (base + k) * z ∧ j < s * z
    · rw [if_pos q1, if_pos (by omega)]
    · rw [if_neg q1]
      by_cases q2 : (base + k) * z ≤ j ∧ j < (base + k) * z + z ∧ j < s * z
      · rw [if_pos q2, if_pos (by omega)]
      · rw [if_neg q2, if_neg (by omega)]
theorem progN_calm : ∀ (b : List UInt8) {p : Pw} {m : List UInt8} {at_ : Nat}, p.calm → at_ + b.length ≤ m.length → (progN p m at_ b).1 = 0 ∧ (progN p m at_ b).2.1.calm ∧ (progN p m at_ b).2.2.length = m.length ∧
    ∀ j, (progN p m at_ b).2.2.getD j 0 = if at_ ≤ j ∧ j < at_ + b.length then b.getD (j - at_) 0 else m.getD j 0
  | [], p, m, at_, h, hl => by
    refine ⟨rfl, h, rfl, fun j => ?_⟩
    rw [if_neg (by simp)]; rfl
  | x :: b, p, m, at_, h, hl => by
    obtain ⟨k1, k2, k3⟩ := stepP_calm h
    simp only [List.length_cons] at hl
    obtain ⟨r1, r2, r3, r4⟩ := progN_calm b (p := (stepP p).2.2) (m := m.set at_ x) (at_ := at_ + 1) k3 (by simp; omega)
    have e : progN p m at_ (x :: b) = progN (stepP p).2.2 (m.set at_ x) (at_ + 1) b := by rw [progN, if_pos k1]
    rw [e]
    refine ⟨r1, r2, by rw [r3]; simp, fun j => ?_⟩
    rw [r4]
    simp only [List.length_cons]
    by_cases q1 : at_ + 1 ≤ j ∧ j < at_ + 1 + b.length
    · rw [if_pos q1, if_pos (by omega), show j - at_ = (j - (at_ + 1)) + 1 by omega]; simp [List.getD]
    · rw [if_neg q1]
      by_cases q2 : j = at_
      · subst q2
        rw [if_pos (by omega), Nat.sub_self]
        simp [List.getD, show j < m.length by omega]
      · rw [if_neg (by omega)]
        simp only [List.getD, List.getElem?_set]
        rw [if_neg (by omega)]
/-- What a record does to a chip's bytes. -/
def putB (m : List UInt8) (at_ : Nat) (b : List UInt8) (j : Nat) : UInt8 := if at_ ≤ j ∧ j < at_ + b.length then b.getD (j - at_) 0 else m.getD j 0
theorem appendN_calm {s z at_ : Nat} {c : Nor} {b : List UInt8} (h : NorOk s z c) (hl : at_ + b.length + 7 ≤ s * z) : (appendN c.p c.m at_ b).1 = 0 ∧ NorOk s z ⟨(appendN c.p c.m at_ b).2.1, (appendN c.p c.m at_ b).2.2, c.er⟩ ∧
    ∀ j, (appendN c.p c.m at_ b).2.2.getD j 0 = putB c.m at_ (frameOf b ++ [0]) j := by
  obtain ⟨h1, h2, h3⟩ := h
  have hf := frameOf_length b
  obtain ⟨r1, r2, r3, r4⟩ := progN_calm (frameOf b) (m := c.m) (at_ := at_) h1 (by omega)
  obtain ⟨t1, t2, t3, t4⟩ := progN_calm [0] (m := (progN c.p c.m at_ (frameOf b)).2.2) (at_ := at_ + (frameOf b).length) r2 (by simp; omega)
  rw [appendN, if_pos r1]
  refine ⟨t1, ⟨t2, by rw [t3, r3]; exact h2, h3⟩, fun j => ?_⟩
  rw [t4, r4, putB]
  simp only [List.length_append, List.length_singleton]
  by_cases q1 : at_ + (frameOf b).length ≤ j ∧ j < at_ + (frameOf b).length + 1
  · rw [if_pos q1, if_pos (by omega)]
    have : j - at_ = (frameOf b).length := by omega
    rw [this, show j - (at_ + (frameOf b).length) = 0 by omega]
    simp [List.getD]
  · rw [if_neg q1]
    by_cases q2 : at_ ≤ j ∧ j < at_ + (frameOf b).length
    · rw [if_pos q2, if_pos (by omega)]
      simp only [List.getD]
      rw [List.getElem?_append_left (by omega)]
    · rw [if_neg q2, if_neg (by omega)]

/-- A journal. -/
structure Jr where
  half : Nat
  epoch : Nat
  used : Nat
  s : Sta
abbrev jrC (j : Jr) : List AV := [.ptr 10 0, vI .i64 (j.half : Nat), vI .i64 (j.epoch : Nat), vI .i64 (j.used : Nat), .tr (iN j.s.next), .tr (.sl 7 (j.s.inos.map Ino.t)), .tr (.sl 1 (j.s.bad.map iN)), vB false]
abbrev jrO (j : Jr) : AObj := .row 165 (jrC j)
/-- A journal on a chip: behind what is used all is erased. -/
structure JOk (s z : Nat) (c : Nor) (j : Jr) : Prop where
  nor : NorOk s z c
  half : j.half < 2
  used : j.used ≤ s / 2 * z
  e1 : 1 ≤ j.epoch
  e2 : j.epoch ≤ 2147483647
  sta : StaOk j.s
  rest : ∀ k, j.used + j.half * (s / 2 * z) ≤ k → k < s / 2 * z + j.half * (s / 2 * z) → c.m.getD k 0 = 255
def Jr.new : Jr := ⟨0, 1, 69, Sta.new⟩
theorem Sta.new_ok : StaOk Sta.new := by
  refine ⟨by simp [Sta.new], by simp [Sta.new], ?_, by simp [Sta.new], by simp [Sta.new]⟩
  intro x hx
  simp only [Sta.new, List.mem_singleton] at hx
  subst hx
  exact ⟨by simp, by simp, by simp, by simp, by show 0 ≤ 100000; omega, by simp, by simp, by simp, by simp⟩
theorem first_new_length : (firstB 1 Sta.new).length = 62 := by
  simp [firstB, leBytes_length, deedsB, wholeD, Sta.new, ddB, inoB, txtB, ByteArray.size]

abbrev fs164 : Array Field := #[⟨ "c", 49, 0, false, "", "garret/journal", 0⟩, ⟨ "half", 3, 1, false, "", "garret/journal", 8⟩, ⟨ "epoch", 3, 2, false, "", "garret/journal", 16⟩, ⟨ "used", 3, 3, false, "", "garret/journal", 24⟩, ⟨ "s", 38, 4, false, "", "garret/journal", 32⟩, ⟨ "ended", 4, 7, false, "", "garret/journal", 88⟩]
theorem tf164 : FldIs Tryz.prog fs164 [(0, 1), (1, 1), (2, 1), (3, 1), (4, 3), (7, 1)] := ⟨by kernel_rfl⟩
theorem ty165 : TyIs Tryz.prog 165 (.struct fs164) 8 := ⟨Tryz.underlying165, by kernel_rfl⟩
theorem tz165 : TyZ Tryz.prog 165 (.agg #[.pointer none, .int .i64 0, .int .i64 0, .int .i64 0, .int .i64 0, .slice none 0 0, .slice none 0 0, .bool false]) := ⟨by kernel_rfl⟩

theorem C_journal_Format (g : Geo) (s z : Nat) (c : Nor) (hs : g.s = s) (hz : g.z = z) (hr : rightG g = true) (hc : NorOk s z c) : ACalls Tryz.prog 72 [.ptr 10 0] (norS g c) ([]) (fun r G => ∃ c', r = .tup [.ptr 30 0, vI .i64 0] ∧ G = (30, jrO Jr.new) :: norS g c' ∧ JOk s z c' Jr.new) := by
  obtain ⟨b1, b2, b3, b4, b5, _⟩ := rightG_facts hs hz hr
  have a3 : s * z ≤ 16 * 4096 := Nat.mul_le_mul b2 b4
  have a4 : s / 2 * z + s / 2 * z = s * z := by rw [← Nat.add_mul]; congr 1; omega
  have a5 : 1 * 256 ≤ s / 2 * z := Nat.mul_le_mul (by omega) b3
  have hfl := first_new_length
  refine acalls_of_body 49 [1, 2, 10, 11, 12] Tryz.func72 rfl (by kernel_rfl) Tryz.ntmps72 (Nat.le_of_ble_eq_true rfl) rfl ?_
  refine AW.seq ?_
  refine AW.region ?_
  refine AL.pure rfl rfl (by decide) (P_assign rfl) ?_
  refine AL.pure rfl rfl (by decide) (P_assign rfl) ?_
  refine AL.nil ?_
  refine Then.go ?_
  refine AW.seq ?_
  refine AW.seq ?_
  refine AW.region ?_
  refine AL.pure rfl rfl (by decide) (P_move rfl) ?_
  refine AL.nil ?_
  refine Then.go ?_
  refine AW.block ?_
  refine AW.loopK (σ := Nat × Nor) [0] [] (.cons rfl .nil) .nil rfl (fun (i, c) => [(9, vI .i64 (i : Nat))]) (fun (i, c) => [(1, pwO c.p), (10, norO g c.m.length), (11, .els 5 1 (bs c.m)), (12, .mapT (ents k1 i8 c.er))]) (fun (i, c) => i ≤ 2 ∧ NorOk s z c ∧ ∀ k, k < i * (s / 2 * z) → c.m.getD k 0 = 255) (fun (i, c) => 2 - i) ((0, c)) ?_ ?_ ?_ ?_
  · skip
    exact ⟨by omega, hc, fun k hk => by omega⟩
  · skip
    refine SubT.cons' (by decide) rfl ?_ ?_
    · skip
      rfl
    exact SubT.nil
  · skip
    refine SubG.cons' rfl ?_ ?_
    · skip
      rfl
    refine SubG.cons' rfl ?_ ?_
    · skip
      rfl
    refine SubG.cons' rfl ?_ ?_
    · skip
      rfl
    refine SubG.cons' rfl ?_ ?_
    · skip
      rfl
    exact SubG.nil
  · rintro ⟨i, c⟩ hs
    try dsimp only at hs
    dsimp only [List.cons_append, List.nil_append]
    obtain ⟨i0, hc, i1⟩ := hs
    refine AW.seq ?_
    refine AW.region ?_
    refine AL.pure rfl rfl (by decide) (P_lss rfl rfl) ?_
    refine AL.nil ?_
    refine Then.go ?_
    refine AW.seq ?_
    refine AW.condD _ rfl ?_ ?_
    · intro h1
      refine AW.skip ?_
      refine Then.go ?_
      refine AW.seq ?_
      refine AW.block ?_
      refine AW.seq ?_
      refine AW.region ?_
      refine AL.pure rfl rfl (by decide) (P_move rfl) ?_
      refine AL.pure rfl rfl (by decide) (P_assign rfl) ?_
      refine AL.nil ?_
      refine Then.go ?_
      refine AW.seq ?_
      refine AW.region ?_
      refine AL.pure rfl rfl (by decide) (P_move rfl) ?_
      refine AL.pure rfl rfl (by decide) (P_move rfl) ?_
      refine AL.call (C_half_Wipe c.p g c.m c.er i s z (by omega) hc.calm.ok hs hz hr hc.len hc.er ) _ [] [] _ rfl (by decide) rfl rfl rfl (SubG.cons rfl (SubG.cons rfl (SubG.cons rfl (SubG.cons rfl SubG.nil)))) ?_
      rintro _ _ ⟨rfl, rfl⟩
      refine ⟨rfl, rfl, ?_⟩
      refine AL.pure rfl rfl (by decide) (P_assign rfl) ?_
      refine AL.nil ?_
      refine Then.go ?_
      refine AW.seq ?_
      refine AW.region ?_
      refine AL.pure rfl rfl (by decide) (P_move rfl) ?_
      refine AL.pure rfl rfl (by decide) (P_neq rfl rfl) ?_
      refine AL.nil ?_
      refine Then.go ?_
      refine AW.condN _ rfl ?_ ?_
      · intro h2
        exfalso
        have hle : i * (s / 2) ≤ 1 * (s / 2) := Nat.mul_le_mul_right _ (by omega)
        obtain ⟨q1, _⟩ := wipeN_calm (base := i * (s / 2)) (s / 2) hc (by omega)
        omega
      · intro h2
        refine AW.skip ?_
        refine InBlock.go ?_
        refine Then.go ?_
        refine AW.region ?_
        refine AL.pure rfl rfl (by decide) (P_addN rfl rfl (by omega) (by omega)) ?_
        refine AL.pure rfl rfl (by decide) (P_move rfl) ?_
        refine AL.nil ?_
        refine Round.go ((i + 1, ⟨(wipeN c.p c.m c.er (i * (s / 2)) z (s / 2)).2.1, (wipeN c.p c.m c.er (i * (s / 2)) z (s / 2)).2.2.1, (wipeN c.p c.m c.er (i * (s / 2)) z (s / 2)).2.2.2⟩)) ?_ ?_ ?_ ?_
        · try dsimp only
          have hle : i * (s / 2) ≤ 1 * (s / 2) := Nat.mul_le_mul_right _ (by omega)
          obtain ⟨q1, q2, q3⟩ := wipeN_calm (base := i * (s / 2)) (s / 2) hc (by omega)
          refine ⟨by omega, q2, fun k hk => ?_⟩
          rw [q3]
          rw [Nat.succ_mul] at hk
          have e1 : i * (s / 2) * z = i * (s / 2 * z) := Nat.mul_assoc _ _ _
          have e2 : (i * (s / 2) + s / 2) * z = i * (s / 2 * z) + s / 2 * z := by rw [Nat.add_mul, e1]
          have e3 : i * (s / 2 * z) ≤ 1 * (s / 2 * z) := Nat.mul_le_mul_right _ (by omega)
          rw [e1, e2]
          by_cases q : i * (s / 2 * z) ≤ k
          · rw [if_pos (by omega)]
          · rw [if_neg (by omega)]; exact i1 k (by omega)
        · try dsimp only
          omega
        · skip
          refine SubT.cons' (by decide) rfl ?_ ?_
          · skip
            rfl
          exact (SubT.cons (by decide) rfl SubT.nil)
        · skip
          refine SubG.cons' rfl ?_ ?_
          · skip
            rfl
          refine SubG.cons' rfl ?_ ?_
          · skip
            rfl
          refine SubG.cons' rfl ?_ ?_
          · skip
            rfl
          refine SubG.cons' rfl ?_ ?_
          · skip
            rfl
          exact SubG.nil
    · intro h1
      refine AW.exit ?_
      refine Then.e ?_
      refine Round.e ?_
      refine InBlock.e ?_
      refine Then.go ?_
      refine AW.seq ?_
      refine AW.region ?_
      have hi2 : i = 2 := by omega
      subst hi2
      have hff : ∀ k, 0 + 0 * (s / 2 * z) ≤ k → k < 0 + 0 * (s / 2 * z) + (firstB 1 Sta.new).length + 7 → c.m.getD k 0 = 255 := fun k _ hk => i1 k (by omega)
      refine AL.pure rfl rfl (by decide) (P_move rfl) ?_
      refine AL.call (C_state_New ) _ [] [] _ rfl (by decide) rfl rfl rfl SubG.nil ?_
      rintro _ _ ⟨rfl, rfl⟩
      refine ⟨rfl, rfl, ?_⟩
      refine AL.pure rfl rfl (by decide) (P_build ty165 tz165 tf164 rfl) ?_
      refine AL.eff rfl rfl (by decide) (E_box 30 rfl rfl rfl rfl rfl rfl) ?_
      refine AL.pure rfl rfl (by decide) (P_assign rfl) ?_
      refine AL.nil ?_
      refine Then.go ?_
      refine AW.seq ?_
      refine AD.start ?_
      refine AD.op 0 23 [] _ rfl rfl rfl (B_pure (P_move rfl)) ?_
      refine AD.op 1 24 [0] _ rfl rfl rfl (B_pure (P_nilCheck rfl)) ?_
      refine AD.op 2 25 [0, 1] _ rfl rfl rfl (B_pure (P_fieldAddr ty165 rfl ty3 rfl)) ?_
      refine AD.op 3 26 [0, 1, 2] _ rfl rfl rfl (B_pure (P_load ty3 rfl rfl rfl rfl)) ?_
      refine AD.op 4 27 [] _ rfl rfl rfl (B_pure (P_move rfl)) ?_
      refine AD.op 5 28 [4] _ rfl rfl rfl (B_pure (P_nilCheck rfl)) ?_
      refine AD.op 6 29 [4, 5] _ rfl rfl rfl (B_pure (P_fieldAddr ty165 rfl ty38 rfl)) ?_
      refine AD.op 7 30 [4, 5, 6] _ rfl rfl rfl (B_pure (P_loadA ty38 rfl rfl rfl (Nat.le_of_ble_eq_true rfl))) ?_
      refine AD.tail mixed rfl (by kernel_rfl) rfl ?_
      refine AL.call (C_journal_first 1 Sta.new (by omega) Sta.new_ok ) _ [] [] _ rfl (by decide) rfl rfl rfl SubG.nil ?_
      rintro _ _ ⟨rfl, rfl⟩
      refine ⟨rfl, rfl, ?_⟩
      refine AL.pure rfl rfl (by decide) (P_assign rfl) ?_
      refine AL.nil ?_
      refine Then.go ?_
      refine AW.seq ?_
      refine AW.seq ?_
      refine AW.region ?_
      refine AL.pure rfl rfl (by decide) (P_move rfl) ?_
      refine AL.pure rfl rfl (by decide) (P_move rfl) ?_
      refine AL.pure rfl rfl (by decide) (P_nilCheck rfl) ?_
      refine AL.pure rfl rfl (by decide) (P_fieldAddr ty165 rfl ty3 rfl) ?_
      refine AL.pure rfl rfl (by decide) (P_load ty3 rfl rfl rfl rfl) ?_
      refine AL.pure rfl rfl (by decide) (P_move rfl) ?_
      refine AL.call (C_half_Append c.p g c.m 0 s z 0 (firstB 1 Sta.new) (by omega) hc.calm.ok hs hz hr hc.len (by omega) (by omega) hff ) _ [] [] _ rfl (by decide) rfl rfl rfl (SubG.cons rfl (SubG.cons rfl (SubG.cons rfl SubG.nil))) ?_
      rintro _ _ ⟨rfl, rfl⟩
      refine ⟨rfl, rfl, ?_⟩
      refine AL.pure rfl rfl (by decide) (P_assign rfl) ?_
      refine AL.nil ?_
      refine Then.go ?_
      refine AW.seq ?_
      refine AW.region ?_
      refine AL.pure rfl rfl (by decide) (P_move rfl) ?_
      refine AL.pure rfl rfl (by decide) (P_neq rfl rfl) ?_
      refine AL.nil ?_
      refine Then.go ?_
      refine AW.condN _ rfl ?_ ?_
      · intro h3
        exfalso; obtain ⟨q1, _⟩ := appendN_calm (at_ := 0 + 0 * (s / 2 * z)) hc (b := firstB 1 Sta.new) (by omega); omega
      · intro h3
        refine AW.skip ?_
        refine Then.go ?_
        refine AW.seq ?_
        refine AW.region ?_
        refine AL.pure rfl rfl (by decide) (P_move rfl) ?_
        refine AL.pure rfl rfl (by decide) (P_move rfl) ?_
        refine AL_lenM rfl rfl (by decide) ty26 rfl fun h4 => ?_
        try simp only [bs_length, List.length_map, List.length_append, List.length_replicate, List.length_cons, List.length_nil, List.length_take, List.length_set] at h4
        refine AL.call (C_frame_Size ((firstB 1 Sta.new).length : Nat) (by omega) (by omega) ) _ [] [] _ rfl (by decide) rfl rfl rfl SubG.nil ?_
        rintro _ _ ⟨rfl, rfl⟩
        refine ⟨rfl, rfl, ?_⟩
        refine AL.pure rfl rfl (by decide) (P_nilCheck rfl) ?_
        refine AL.pure rfl rfl (by decide) (P_fieldAddr ty165 rfl ty3 rfl) ?_
        refine AL.eff0 rfl rfl (E_store ty3 rfl rfl rfl rfl rfl (Nat.le_of_ble_eq_true rfl)) ?_
        refine AL.nil ?_
        refine Then.go ?_
        refine AW.seq ?_
        refine AW.region ?_
        refine AL.pure rfl rfl (by decide) (P_move rfl) ?_
        refine AL.pure rfl rfl (by decide) (P_assign rfl) ?_
        refine AL.pure rfl rfl (by decide) (P_assign rfl) ?_
        refine AL.nil ?_
        refine Then.go ?_
        refine AW.ret ?_
        refine ⟨(by exact .inr rfl), _, _, (.cons (.tmp rfl) (.cons (.tmp rfl) .nil)), (SubG.cons (l := 30) rfl (SubG.cons (l := 1) rfl (SubG.cons (l := 10) rfl (SubG.cons (l := 11) rfl (SubG.cons (l := 12) rfl SubG.nil))))), ?_, rfl, rfl⟩
        obtain ⟨q1, q2, q3⟩ := appendN_calm (at_ := 0 + 0 * (s / 2 * z)) hc (b := firstB 1 Sta.new) (by omega)
        refine ⟨⟨_, _, c.er⟩, rfl, ?_, ⟨q2, by simp [Jr.new], by simp only [Jr.new]; omega, by simp [Jr.new], by simp [Jr.new], Sta.new_ok, ?_⟩⟩
        · have hl : (appendN c.p c.m (0 + 0 * (s / 2 * z)) (firstB 1 Sta.new)).2.2.length = c.m.length := by rw [q2.len, hc.len]
          rw [show ((firstB 1 Sta.new).length : Int) + 7 = 69 by rw [hfl]; rfl]
          simp only [norS, norG, hl]; rfl
        · intro k hk1 hk2
          simp only [Jr.new] at hk1 hk2
          rw [q3, putB, if_neg (by simp [frameOf_length, hfl]; omega)]
          exact i1 k (by omega)
end Go.Proofs.YtmakeajjgjnldaaGreatDoor
