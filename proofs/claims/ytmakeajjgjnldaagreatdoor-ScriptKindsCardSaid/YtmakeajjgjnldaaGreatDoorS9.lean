/- Walks, part 9: halves. -/
import Derived.Test.YtmakeajjgjnldaaGreatDoorS8
set_option linter.unusedVariables false
set_option linter.unusedSimpArgs false
set_option maxRecDepth 100000
namespace Go.Proofs.YtmakeajjgjnldaaGreatDoor
open Go Go.Ab

theorem rightG_facts {g : Geo} {s z : Nat} (hs : g.s = s) (hz : g.z = z) (h : rightG g = true) : 2 ≤ s ∧ s ≤ 16 ∧ 256 ≤ z ∧ z ≤ 4096 ∧ s % 2 = 0 ∧ 4 ≤ g.b ∧ g.b ≤ 64 ∧ 2 ≤ g.p ∧ g.p ≤ 32 ∧ 16 ≤ g.q ∧ g.q ≤ 256 := by
  simp only [rightG, withinB, Bool.and_eq_true, decide_eq_true_eq] at h
  obtain ⟨⟨⟨⟨⟨h1, h2, h3⟩, h4, h5⟩, h6, h7⟩, h8, h9⟩, h10, h11⟩ := h
  rw [hs] at h1 h2 h3
  rw [hz] at h4 h5
  refine ⟨by omega, by omega, by omega, by omega, ?_, h6, h7, h8, h9, h10, h11⟩
  rw [Int.tmod_eq_emod_of_nonneg (by omega)] at h1
  omega



theorem C_half_Size (g : Geo) (s z : Nat) (hs : g.s = s) (hz : g.z = z) (hr : rightG g = true) : ACalls Tryz.prog 156 [.tr g.t] ([]) ([]) (fun r G => r = vI .i64 ((s / 2 * z : Nat) : Int) ∧ G = []) := by
  obtain ⟨b1, b2, b3, b4, _⟩ := rightG_facts hs hz hr
  have a1 : ((s / 2 : Nat) : Int) * g.z = ((s / 2 * z : Nat) : Int) := by rw [hz]; simp
  have a2 : s / 2 * z ≤ 8 * 4096 := Nat.mul_le_mul (by omega) (by omega)
  refine acalls_of_body 12 [] Tryz.func156 rfl (by kernel_rfl) Tryz.ntmps156 (Nat.le_of_ble_eq_true rfl) rfl ?_
  refine AW.seq ?_
  refine AW.region ?_
  refine AL.eff rfl rfl (by decide) (E_box 101 rfl rfl rfl rfl rfl rfl) ?_
  refine AL.pure rfl rfl (by decide) (P_assign rfl) ?_
  refine AL.nil ?_
  refine Then.go ?_
  refine AW.seq ?_
  refine AW.seq ?_
  refine AW.region ?_
  refine AL.pure rfl rfl (by decide) (P_loadA ty48 rfl rfl rfl (Nat.le_of_ble_eq_true rfl)) ?_
  refine AL.call (C_nor_Right _) _ [] [] _ rfl (by decide) rfl rfl rfl SubG.nil ?_
  rintro _ _ ⟨rfl, rfl⟩
  refine ⟨rfl, rfl, ?_⟩
  refine AL.pure rfl rfl (by decide) (P_not rfl) ?_
  refine AL.nil ?_
  refine Then.go ?_
  refine AW.cond _ rfl ?_ ?_
  · intro h1
    exfalso; simp_all
  · intro h1
    refine AW.skip ?_
    refine Then.go ?_
    refine AW.seq ?_
    refine AW.region ?_
    refine AL.pure rfl rfl (by decide) (P_fieldAddr ty48 rfl ty3 rfl) ?_
    refine AL.pure rfl rfl (by decide) (P_load ty3 rfl rfl rfl rfl) ?_
    refine AL.pure rfl rfl (by decide) (P_shrN rfl rfl 1 rfl (by decide)) ?_
    refine AL.recast 8 (vI .i64 ((s / 2 : Nat) : Int)) rfl (vI_congr (by rw [hs]; simp)) ?_
    refine AL.pure rfl rfl (by decide) (P_fieldAddr ty48 rfl ty3 rfl) ?_
    refine AL.pure rfl rfl (by decide) (P_load ty3 rfl rfl rfl rfl) ?_
    refine AL.pure rfl rfl (by decide) (P_mulN rfl rfl (by omega) (by omega)) ?_
    refine AL.pure rfl rfl (by decide) (P_assign rfl) ?_
    refine AL.nil ?_
    refine Then.go ?_
    refine AW.ret ?_
    refine ⟨(by exact .inr rfl), _, _, (.cons (.tmp rfl) .nil), SubG.nil, ?_, rfl, rfl⟩
    exact ⟨vI_congr a1, rfl⟩
theorem C_half_ask (h : Nat) (hh : h < 2) (g : Geo) (N : Nat) : ACalls Tryz.prog 155 [.ptr 10 0, vI .i64 (h : Nat)] ([]) ([]) (fun r G => r = vI .i64 0 ∧ G = []) := by
  refine acalls_of_body 15 [10] Tryz.func155 rfl (by kernel_rfl) Tryz.ntmps155 (Nat.le_of_ble_eq_true rfl) rfl ?_
  refine AW.seq ?_
  refine AW.region ?_
  refine AL.pure rfl rfl (by decide) (P_assign rfl) ?_
  refine AL.nil ?_
  refine Then.go ?_
  refine AW.seq ?_
  refine AW.block ?_
  refine AW.seq ?_
  refine AW.region ?_
  refine AL.pure rfl rfl (by decide) (P_move rfl) ?_
  refine AL.pure rfl rfl (by decide) (P_eqlPN ty49 rfl rfl) ?_
  refine AL.pure rfl rfl (by decide) (P_assign rfl) ?_
  refine AL.nil ?_
  refine Then.go ?_
  refine AW.condF rfl ?_
  refine AW.seq ?_
  refine AW.region ?_
  refine AL.pure rfl rfl (by decide) (P_move rfl) ?_
  refine AL.pure rfl rfl (by decide) (P_lss rfl rfl) ?_
  refine AL.pure rfl rfl (by decide) (P_move rfl) ?_
  refine AL.pure rfl rfl (by decide) (P_move rfl) ?_
  refine AL.pure rfl rfl (by decide) (P_geq rfl rfl) ?_
  refine AL.pure rfl rfl (by decide) (P_pickF rfl rfl) ?_
  refine AL.pure rfl rfl (by decide) (P_assign rfl) ?_
  refine AL.nil ?_
  refine Then.go ?_
  refine AW.condD _ rfl ?_ ?_
  · intro h1
    exfalso; omega
  · intro h1
    refine AW.skip ?_
    refine InBlock.go ?_
    refine Then.go ?_
    refine AW.seq ?_
    refine AW.region ?_
    refine AL.pure rfl rfl (by decide) (P_assign rfl) ?_
    refine AL.nil ?_
    refine Then.go ?_
    refine AW.ret ?_
    refine ⟨(by exact .inr rfl), _, _, (.cons (.tmp rfl) .nil), SubG.nil, ?_, rfl, rfl⟩
    exact ⟨rfl, rfl⟩

theorem eraseN_ok {p : Pw} {m : List UInt8} {er : List (Int × Int)} {i z : Nat} (hp : p.ok) (he : okL in64 er) (hi : i ≤ 1000000) :
    (eraseN p m er i z).2.1.ok ∧ (eraseN p m er i z).2.2.1.length = m.length ∧ okL in64 (eraseN p m er i z).2.2.2 := by
  have k1 := stepP_ok hp
  by_cases e1 : (stepP p).1 = true
  · rw [show eraseN p m er i z = (0, (stepP p).2.2, orAt m (i * z) z 255, setL er i (IntKind.i64.wrap ((getL er i).getD 0 + 1))) by simp [eraseN, e1]]
    exact ⟨k1, orAt_length _ _ _ _, okL_setL he (by constructor <;> omega) _⟩
  · by_cases e2 : (stepP p).2.1 = true
    · rw [show eraseN p m er i z = (6, (stepP p).2.2, orAt m (i * z) z (stepP p).2.2.mask, er) by simp [eraseN, e1, e2]]
      exact ⟨k1, orAt_length _ _ _ _, he⟩
    · rw [show eraseN p m er i z = (6, (stepP p).2.2, m, er) by simp [eraseN, e1, e2]]
      exact ⟨k1, rfl, he⟩
def wipeN (p : Pw) (m : List UInt8) (er : List (Int × Int)) (base z : Nat) : Nat → Int × Pw × List UInt8 × List (Int × Int)
  | 0 => (0, p, m, er)
  | k + 1 => if (eraseN p m er (base + k) z).1 = 0 then wipeN (eraseN p m er (base + k) z).2.1 (eraseN p m er (base + k) z).2.2.1 (eraseN p m er (base + k) z).2.2.2 base z k else eraseN p m er (base + k) z
theorem wipe_go {p q : Pw} {m c : List UInt8} {er e : List (Int × Int)} {base z j k : Nat} (hj : 0 < j) (h : wipeN q c e base z j = wipeN p m er base z k) (h0 : (eraseN q c e (base + (j - 1)) z).1 = 0) :
    wipeN (eraseN q c e (base + (j - 1)) z).2.1 (eraseN q c e (base + (j - 1)) z).2.2.1 (eraseN q c e (base + (j - 1)) z).2.2.2 base z (j - 1) = wipeN p m er base z k := by
  obtain ⟨i, rfl⟩ : ∃ i, j = i + 1 := ⟨j - 1, by omega⟩
  rw [wipeN] at h
  simp only [Nat.add_sub_cancel] at h0 ⊢
  rw [if_pos h0] at h; exact h
theorem wipe_stop {p q : Pw} {m c : List UInt8} {er e : List (Int × Int)} {base z j k : Nat} (hj : 0 < j) (h : wipeN q c e base z j = wipeN p m er base z k) (h0 : ¬ (eraseN q c e (base + (j - 1)) z).1 = 0) :
    wipeN p m er base z k = eraseN q c e (base + (j - 1)) z := by
  obtain ⟨i, rfl⟩ : ∃ i, j = i + 1 := ⟨j - 1, by omega⟩
  rw [wipeN] at h
  simp only [Nat.add_sub_cancel] at h0 ⊢
  rw [if_neg h0] at h; exact h.symm
theorem wipe_end {p q : Pw} {m c : List UInt8} {er e : List (Int × Int)} {base z k : Nat} (h : wipeN q c e base z 0 = wipeN p m er base z k) : wipeN p m er base z k = (0, q, c, e) := by
  rw [wipeN] at h; exact h.symm

theorem C_half_Wipe (p : Pw) (g : Geo) (m : List UInt8) (er : List (Int × Int)) (h s z : Nat) (hh : h < 2) (hp : p.ok) (hs : g.s = s) (hz : g.z = z) (hr : rightG g = true) (hN : m.length = s * z) (he : okL in64 er) : ACalls Tryz.prog 119 [.ptr 10 0, vI .i64 (h : Nat)] (norG p g m er) ([]) (fun r G => r = vI .i64 (wipeN p m er (h * (s / 2)) z (s / 2)).1 ∧ G = norG (wipeN p m er (h * (s / 2)) z (s / 2)).2.1 g (wipeN p m er (h * (s / 2)) z (s / 2)).2.2.1 (wipeN p m er (h * (s / 2)) z (s / 2)).2.2.2) := by
  obtain ⟨b1, b2, b3, b4, b5, _⟩ := rightG_facts hs hz hr
  have a1 : (h : Int) * ((s / 2 : Nat) : Int) = ((h * (s / 2) : Nat) : Int) := by simp
  have a2 : h * (s / 2) ≤ 1 * (s / 2) := Nat.mul_le_mul_right _ (by omega)
  have a3 : s * z ≤ 16 * 4096 := Nat.mul_le_mul b2 b4
  refine acalls_of_body 35 [1, 2, 10, 11, 12] Tryz.func119 rfl (by kernel_rfl) Tryz.ntmps119 (Nat.le_of_ble_eq_true rfl) rfl ?_
  refine AW.seq ?_
  refine AW.region ?_
  refine AL.pure rfl rfl (by decide) (P_assign rfl) ?_
  refine AL.nil ?_
  refine Then.go ?_
  refine AW.seq ?_
  refine AW.seq ?_
  refine AW.region ?_
  refine AL.pure rfl rfl (by decide) (P_move rfl) ?_
  refine AL.pure rfl rfl (by decide) (P_move rfl) ?_
  refine AL.call (C_half_ask h hh g m.length ) _ [] [] _ rfl (by decide) rfl rfl rfl SubG.nil ?_
  rintro _ _ ⟨rfl, rfl⟩
  refine ⟨rfl, rfl, ?_⟩
  refine AL.pure rfl rfl (by decide) (P_assign rfl) ?_
  refine AL.nil ?_
  refine Then.go ?_
  refine AW.seq ?_
  refine AW.region ?_
  refine AL.pure rfl rfl (by decide) (P_move rfl) ?_
  refine AL.pure rfl rfl (by decide) (P_neq rfl rfl) ?_
  refine AL.nil ?_
  refine Then.go ?_
  refine AW.condN _ rfl ?_ ?_
  · intro h1
    exfalso; omega
  · intro h1
    refine AW.skip ?_
    refine Then.go ?_
    refine AW.seq ?_
    refine AW.region ?_
    refine AL.pure rfl rfl (by decide) (P_move rfl) ?_
    refine AL.call (C_nor_Chip_Geometry g m.length ) _ [] [] _ rfl (by decide) rfl rfl rfl (SubG.cons rfl SubG.nil) ?_
    rintro _ _ ⟨rfl, rfl⟩
    refine ⟨rfl, rfl, ?_⟩
    refine AL.pure rfl rfl (by decide) (P_field ty48 rfl ty3 rfl rfl rfl) ?_
    refine AL.pure rfl rfl (by decide) (P_shrN rfl rfl 1 rfl (by decide)) ?_
    refine AL.recast 18 (vI .i64 ((s / 2 : Nat) : Int)) rfl (vI_congr (by rw [hs]; simp)) ?_
    refine AL.pure rfl rfl (by decide) (P_assign rfl) ?_
    refine AL.nil ?_
    refine Then.go ?_
    refine AW.seq ?_
    refine AW.seq ?_
    refine AW.region ?_
    refine AL.pure rfl rfl (by decide) (P_move rfl) ?_
    refine AL.pure rfl rfl (by decide) (P_subN rfl rfl (by omega) (by omega)) ?_
    refine AL.pure rfl rfl (by decide) (P_assign rfl) ?_
    refine AL.nil ?_
    refine Then.go ?_
    refine AW.block ?_
    refine AW.loopK (σ := Nat × Pw × List UInt8 × List (Int × Int)) [] [] .nil .nil rfl (fun (j, q, c, e) => [(0, .ptr 10 0), (1, vI .i64 (h : Nat)), (6, vI .i64 ((s / 2 : Nat) : Int)), (7, vI .i64 ((j : Int) - 1))]) (fun (j, q, c, e) => [(1, pwO q), (10, norO g c.length), (11, .els 5 1 (bs c)), (12, .mapT (ents k1 i8 e))]) (fun (j, q, c, e) => j ≤ s / 2 ∧ q.ok ∧ c.length = m.length ∧ okL in64 e ∧ wipeN q c e (h * (s / 2)) z j = wipeN p m er (h * (s / 2)) z (s / 2)) (fun (j, q, c, e) => j) ((s / 2, p, m, er)) ?_ ?_ ?_ ?_
    · skip
      exact ⟨by omega, hp, rfl, he, rfl⟩
    · skip
      refine SubT.cons' (by decide) rfl ?_ ?_
      · skip
        rfl
      refine SubT.cons' (by decide) rfl ?_ ?_
      · skip
        rfl
      refine SubT.cons' (by decide) rfl ?_ ?_
      · skip
        rfl
      refine SubT.cons' (by decide) rfl ?_ ?_
      · skip
        rfl
      exact SubT.nil
    · skip
      refine SubG.cons' rfl ?_ ?_
      · skip
        rfl
      refine SubG.cons' rfl ?_ ?_
      · skip
        rfl
      refine SubG.cons' rfl ?_ ?_
      · skip
        rfl
      refine SubG.cons' rfl ?_ ?_
      · skip
        rfl
      exact SubG.nil
    · rintro ⟨j, q, c, e⟩ hs
      try dsimp only at hs
      dsimp only [List.cons_append, List.nil_append]
      obtain ⟨i0, hq, i2, i4, i3⟩ := hs
      refine AW.seq ?_
      refine AW.seq ?_
      refine AW.region ?_
      refine AL.pure rfl rfl (by decide) (P_move rfl) ?_
      refine AL.pure rfl rfl (by decide) (P_geq rfl rfl) ?_
      refine AL.nil ?_
      refine Then.go ?_
      refine AW.condD _ rfl ?_ ?_
      · intro h2
        refine AW.skip ?_
        refine Then.go ?_
        refine AW.seq ?_
        refine AW.block ?_
        refine AW.seq ?_
        refine AW.region ?_
        refine AL.pure rfl rfl (by decide) (P_move rfl) ?_
        refine AL.pure rfl rfl (by decide) (P_move rfl) ?_
        refine AL.pure rfl rfl (by decide) (P_move rfl) ?_
        refine AL.pure rfl rfl (by decide) (P_mulN rfl rfl (by omega) (by omega)) ?_
        refine AL.pure rfl rfl (by decide) (P_move rfl) ?_
        refine AL.pure rfl rfl (by decide) (P_addN rfl rfl (by omega) (by omega)) ?_
        refine AL.recast 30 (vI .i64 ((h * (s / 2) + (j - 1) : Nat) : Int)) rfl (vI_congr (by omega)) ?_
        refine AL.call (C_nor_Chip_Erase q g c e (h * (s / 2) + (j - 1)) s z hq hs hz (by omega) (by omega) (by omega) (by omega) (by omega) i4 ) _ [] [] _ rfl (by decide) rfl rfl rfl (SubG.cons rfl (SubG.cons rfl (SubG.cons rfl (SubG.cons rfl SubG.nil)))) ?_
        rintro _ _ ⟨rfl, rfl⟩
        refine ⟨rfl, rfl, ?_⟩
        refine AL.pure rfl rfl (by decide) (P_assign rfl) ?_
        refine AL.nil ?_
        refine Then.go ?_
        refine AW.seq ?_
        refine AW.region ?_
        refine AL.pure rfl rfl (by decide) (P_move rfl) ?_
        refine AL.pure rfl rfl (by decide) (P_neq rfl rfl) ?_
        refine AL.nil ?_
        refine Then.go ?_
        refine AW.condN _ rfl ?_ ?_
        · intro h3
          refine AW.seq ?_
          refine AW.region ?_
          refine AL.pure rfl rfl (by decide) (P_move rfl) ?_
          refine AL.pure rfl rfl (by decide) (P_assign rfl) ?_
          refine AL.nil ?_
          refine Then.go ?_
          refine AW.ret ?_
          refine InBlock.r ?_
          refine Then.r ?_
          refine Round.r ?_
          refine InBlock.r ?_
          refine Then.r ?_
          refine ⟨(by exact .inr rfl), _, _, (.cons (.tmp rfl) .nil), (SubG.cons (l := 1) rfl (SubG.cons (l := 10) rfl (SubG.cons (l := 11) rfl (SubG.cons (l := 12) rfl SubG.nil)))), ?_, rfl, rfl⟩
          (rw [wipe_stop (by omega) i3 (by omega)]; exact ⟨rfl, rfl⟩)
        · intro h3
          refine AW.skip ?_
          refine InBlock.go ?_
          refine Then.go ?_
          refine AW.region ?_
          refine AL.pure rfl rfl (by decide) (P_move rfl) ?_
          refine AL.pure rfl rfl (by decide) (P_subN rfl rfl (by omega) (by omega)) ?_
          refine AL.pure rfl rfl (by decide) (P_assign rfl) ?_
          refine AL.nil ?_
          refine Round.go ((j - 1, (eraseN q c e (h * (s / 2) + (j - 1)) z).2.1, (eraseN q c e (h * (s / 2) + (j - 1)) z).2.2.1, (eraseN q c e (h * (s / 2) + (j - 1)) z).2.2.2)) ?_ ?_ ?_ ?_
          · try dsimp only
            obtain ⟨k1, k3, k4⟩ := eraseN_ok (m := c) (i := h * (s / 2) + (j - 1)) (z := z) hq i4 (by omega)
            exact ⟨by omega, k1, by omega, k4, wipe_go (by omega) i3 (by omega)⟩
          · try dsimp only
            omega
          · skip
            refine SubT.cons' (by decide) rfl ?_ ?_
            · skip
              rfl
            refine SubT.cons' (by decide) rfl ?_ ?_
            · skip
              rfl
            refine SubT.cons' (by decide) rfl ?_ ?_
            · skip
              rfl
            refine SubT.cons' (by decide) rfl ?_ ?_
            · skip
              (exact vI_congr (by omega))
            exact SubT.nil
          · skip
            refine SubG.cons' rfl ?_ ?_
            · skip
              rfl
            refine SubG.cons' rfl ?_ ?_
            · skip
              rfl
            refine SubG.cons' rfl ?_ ?_
            · skip
              rfl
            refine SubG.cons' rfl ?_ ?_
            · skip
              rfl
            exact SubG.nil
      · intro h2
        refine AW.exit ?_
        refine Then.e ?_
        refine Round.e ?_
        refine InBlock.e ?_
        refine Then.go ?_
        refine AW.seq ?_
        refine AW.region ?_
        refine AL.pure rfl rfl (by decide) (P_assign rfl) ?_
        refine AL.nil ?_
        refine Then.go ?_
        refine AW.ret ?_
        refine ⟨(by exact .inr rfl), _, _, (.cons (.tmp rfl) .nil), (SubG.cons (l := 1) rfl (SubG.cons (l := 10) rfl (SubG.cons (l := 11) rfl (SubG.cons (l := 12) rfl SubG.nil)))), ?_, rfl, rfl⟩
        (have hj : j = 0 := (by omega); subst hj; rw [wipe_end i3]; exact ⟨rfl, rfl⟩)

theorem progN_ok : ∀ (b : List UInt8) (p : Pw) (m : List UInt8) (at_ : Nat), p.ok → (progN p m at_ b).2.1.ok ∧ (progN p m at_ b).2.2.length = m.length
  | [], p, m, at_, hp => ⟨hp, rfl⟩
  | x :: b, p, m, at_, hp => by
    have k1 := stepP_ok hp
    rw [progN]
    split
    · obtain ⟨q1, q3⟩ := progN_ok b (stepP p).2.2 (m.set at_ x) (at_ + 1) k1
      exact ⟨q1, by rw [q3]; simp⟩
    · split
      · exact ⟨k1, by simp⟩
      · exact ⟨k1, rfl⟩
theorem frameOf_length (b : List UInt8) : (frameOf b).length = b.length + 6 := by simp [frameOf, leBytes_length]; omega
def appendN (p : Pw) (m : List UInt8) (at_ : Nat) (b : List UInt8) : Int × Pw × List UInt8 :=
  if (progN p m at_ (frameOf b)).1 = 0 then progN (progN p m at_ (frameOf b)).2.1 (progN p m at_ (frameOf b)).2.2 (at_ + (frameOf b).length) [0] else progN p m at_ (frameOf b)
theorem and_not_ff (x : UInt8) : x &&& ~~~(255 : UInt8) = 0 := by
  apply UInt8.toNat_inj.1; simp
theorem zero_and (x : UInt8) : (0 : UInt8) &&& x = 0 := by
  apply UInt8.toNat_inj.1; simp

theorem C_half_Append (p : Pw) (g : Geo) (m : List UInt8) (h s z at_ : Nat) (b : List UInt8) (hh : h < 2) (hp : p.ok) (hs : g.s = s) (hz : g.z = z) (hr : rightG g = true) (hN : m.length = s * z) (hb : b.length ≤ 65000) (hfit : at_ + b.length + 7 ≤ s / 2 * z) (hff : ∀ k, at_ + h * (s / 2 * z) ≤ k → k < at_ + h * (s / 2 * z) + b.length + 7 → m.getD k 0 = 255) : ACalls Tryz.prog 122 [.ptr 10 0, vI .i64 (h : Nat), vI .i64 (at_ : Nat), sB b] ([(1, pwO p), (10, norO g m.length), (11, .els 5 1 (bs m))]) ([]) (fun r G => r = vI .i64 (appendN p m (at_ + h * (s / 2 * z)) b).1 ∧ G = [(1, pwO (appendN p m (at_ + h * (s / 2 * z)) b).2.1), (10, norO g m.length), (11, .els 5 1 (bs (appendN p m (at_ + h * (s / 2 * z)) b).2.2))]) := by
  obtain ⟨b1, b2, b3, b4, b5, _⟩ := rightG_facts hs hz hr
  have a1 : (h : Int) * ((s / 2 * z : Nat) : Int) = ((h * (s / 2 * z) : Nat) : Int) := by simp
  have a2 : h * (s / 2 * z) ≤ 1 * (s / 2 * z) := Nat.mul_le_mul_right _ (by omega)
  have a3 : s * z ≤ 16 * 4096 := Nat.mul_le_mul b2 b4
  have a4 : s / 2 * z + s / 2 * z = s * z := by rw [← Nat.add_mul]; congr 1; omega
  have hf := frameOf_length b
  obtain ⟨o1, o3⟩ := progN_ok (frameOf b) p m (at_ + h * (s / 2 * z)) hp
  have hbits : ∀ i < (frameOf b).length, (frameOf b).getD i 0 &&& ~~~(m.getD (at_ + h * (s / 2 * z) + i) 0) = 0 := fun i hi => by rw [hff _ (by omega) (by omega)]; exact and_not_ff _
  refine acalls_of_body 60 [1, 2, 10, 11, 12] Tryz.func122 rfl (by kernel_rfl) Tryz.ntmps122 (Nat.le_of_ble_eq_true rfl) rfl ?_
  refine AW.seq ?_
  refine AW.region ?_
  refine AL.pure rfl rfl (by decide) (P_assign rfl) ?_
  refine AL.nil ?_
  refine Then.go ?_
  refine AW.seq ?_
  refine AW.seq ?_
  refine AW.region ?_
  refine AL.pure rfl rfl (by decide) (P_move rfl) ?_
  refine AL.pure rfl rfl (by decide) (P_move rfl) ?_
  refine AL.call (C_half_ask h hh g m.length ) _ [] [] _ rfl (by decide) rfl rfl rfl SubG.nil ?_
  rintro _ _ ⟨rfl, rfl⟩
  refine ⟨rfl, rfl, ?_⟩
  refine AL.pure rfl rfl (by decide) (P_assign rfl) ?_
  refine AL.nil ?_
  refine Then.go ?_
  refine AW.seq ?_
  refine AW.region ?_
  refine AL.pure rfl rfl (by decide) (P_move rfl) ?_
  refine AL.pure rfl rfl (by decide) (P_neq rfl rfl) ?_
  refine AL.nil ?_
  refine Then.go ?_
  refine AW.condN _ rfl ?_ ?_
  · intro h1
    exfalso; omega
  · intro h1
    refine AW.skip ?_
    refine Then.go ?_
    refine AW.seq ?_
    refine AW.seq ?_
    refine AW.region ?_
    refine AL.pure rfl rfl (by decide) (P_move rfl) ?_
    refine AL.pure rfl rfl (by decide) (P_lss rfl rfl) ?_
    refine AL.nil ?_
    refine Then.go ?_
    refine AW.condD _ rfl ?_ ?_
    · intro h2
      exfalso; omega
    · intro h2
      refine AW.skip ?_
      refine Then.go ?_
      refine AW.seq ?_
      refine AW.region ?_
      refine AL.pure rfl rfl (by decide) (P_move rfl) ?_
      refine AL.call (C_frame_Body b hb ) _ [] [] _ rfl (by decide) rfl rfl rfl SubG.nil ?_
      rintro _ _ ⟨rfl, rfl⟩
      refine ⟨rfl, rfl, ?_⟩
      refine AL.pure rfl rfl (by decide) (P_move rfl) ?_
      refine AL.pure rfl rfl (by decide) (P_extract rfl rfl) ?_
      refine AL.pure rfl rfl (by decide) (P_extract rfl rfl) ?_
      refine AL.pure rfl rfl (by decide) (P_assign rfl) ?_
      refine AL.pure rfl rfl (by decide) (P_assign rfl) ?_
      refine AL.nil ?_
      refine Then.go ?_
      refine AW.seq ?_
      refine AW.region ?_
      refine AL.pure rfl rfl (by decide) (P_move rfl) ?_
      refine AL.call (C_nor_Chip_Geometry g m.length ) _ [] [] _ rfl (by decide) rfl rfl rfl (SubG.cons rfl SubG.nil) ?_
      rintro _ _ ⟨rfl, rfl⟩
      refine ⟨rfl, rfl, ?_⟩
      refine AL.call (C_half_Size g s z hs hz hr ) _ [] [] _ rfl (by decide) rfl rfl rfl SubG.nil ?_
      rintro _ _ ⟨rfl, rfl⟩
      refine ⟨rfl, rfl, ?_⟩
      refine AL.pure rfl rfl (by decide) (P_assign rfl) ?_
      refine AL.nil ?_
      refine Then.go ?_
      refine AW.seq ?_
      refine AW.block ?_
      refine AW.seq ?_
      refine AW.region ?_
      refine AL.pure rfl rfl (by decide) (P_move rfl) ?_
      refine AL.pure rfl rfl (by decide) (P_neq rfl rfl) ?_
      refine AL.pure rfl rfl (by decide) (P_assign rfl) ?_
      refine AL.nil ?_
      refine Then.go ?_
      refine AW.condN _ rfl ?_ ?_
      · intro h3
        exfalso; omega
      · intro h3
        refine AW.seq ?_
        refine AW.region ?_
        refine AL.pure rfl rfl (by decide) (P_move rfl) ?_
        refine AL.pure rfl rfl (by decide) (P_move rfl) ?_
        refine AL.pure rfl rfl (by decide) (P_move rfl) ?_
        refine AL_lenM rfl rfl (by decide) ty26 rfl fun h4 => ?_
        try simp only [bs_length, List.length_map, List.length_append, List.length_replicate, List.length_cons, List.length_nil, List.length_take, List.length_set] at h4
        refine AL.call (C_frame_Size (b.length : Nat) (by omega) (by omega) ) _ [] [] _ rfl (by decide) rfl rfl rfl SubG.nil ?_
        rintro _ _ ⟨rfl, rfl⟩
        refine ⟨rfl, rfl, ?_⟩
        refine AL.pure rfl rfl (by decide) (P_subN rfl rfl (by omega) (by omega)) ?_
        refine AL.pure rfl rfl (by decide) (P_gtr rfl rfl) ?_
        refine AL.pure rfl rfl (by decide) (P_assign rfl) ?_
        refine AL.nil ?_
        refine Then.go ?_
        refine AW.condD _ rfl ?_ ?_
        · intro h5
          exfalso; omega
        · intro h5
          refine AW.skip ?_
          refine InBlock.go ?_
          refine Then.go ?_
          refine AW.seq ?_
          refine AW.region ?_
          refine AL.pure rfl rfl (by decide) (P_move rfl) ?_
          refine AL.pure rfl rfl (by decide) (P_move rfl) ?_
          refine AL.pure rfl rfl (by decide) (P_move rfl) ?_
          refine AL.pure rfl rfl (by decide) (P_mulN rfl rfl (by omega) (by omega)) ?_
          refine AL.pure rfl rfl (by decide) (P_addN rfl rfl (by omega) (by omega)) ?_
          refine AL.pure rfl rfl (by decide) (P_assign rfl) ?_
          refine AL.recast 2 (vI .i64 ((at_ + h * (s / 2 * z) : Nat) : Int)) rfl (vI_congr (by omega)) ?_
          refine AL.nil ?_
          refine Then.go ?_
          refine AW.seq ?_
          refine AW.seq ?_
          refine AW.region ?_
          refine AL.pure rfl rfl (by decide) (P_move rfl) ?_
          refine AL.pure rfl rfl (by decide) (P_move rfl) ?_
          refine AL.pure rfl rfl (by decide) (P_move rfl) ?_
          refine AL.call (C_nor_Chip_Program p g m (at_ + h * (s / 2 * z)) (frameOf b) hp (by omega) (by omega) hbits ) _ [] [] _ rfl (by decide) rfl rfl rfl (SubG.cons rfl (SubG.cons rfl (SubG.cons rfl SubG.nil))) ?_
          rintro _ _ ⟨rfl, rfl⟩
          refine ⟨rfl, rfl, ?_⟩
          refine AL.recastO 10 (norO g (progN p m (at_ + h * (s / 2 * z)) (frameOf b)).2.2.length) rfl (by rw [o3]) ?_
          refine AL.pure rfl rfl (by decide) (P_assign rfl) ?_
          refine AL.nil ?_
          refine Then.go ?_
          refine AW.seq ?_
          refine AW.region ?_
          refine AL.pure rfl rfl (by decide) (P_move rfl) ?_
          refine AL.pure rfl rfl (by decide) (P_neq rfl rfl) ?_
          refine AL.nil ?_
          refine Then.go ?_
          refine AW.condN _ rfl ?_ ?_
          · intro h6
            refine AW.seq ?_
            refine AW.region ?_
            refine AL.pure rfl rfl (by decide) (P_move rfl) ?_
            refine AL.pure rfl rfl (by decide) (P_assign rfl) ?_
            refine AL.nil ?_
            refine Then.go ?_
            refine AW.ret ?_
            refine Then.r ?_
            refine ⟨(by exact .inr rfl), _, _, (.cons (.tmp rfl) .nil), (SubG.cons (l := 1) rfl (SubG.cons (l := 10) rfl (SubG.cons (l := 11) rfl SubG.nil))), ?_, rfl, rfl⟩
            rw [← o3]
            (rw [appendN, if_neg (by omega)]; exact ⟨rfl, rfl⟩)
          · intro h6
            refine AW.skip ?_
            refine Then.go ?_
            refine AW.seq ?_
            refine AW.region ?_
            refine AL.pure rfl rfl (by decide) (P_move rfl) ?_
            refine AL.pure rfl rfl (by decide) (P_move rfl) ?_
            refine AL.pure rfl rfl (by decide) (P_move rfl) ?_
            refine AL_lenM rfl rfl (by decide) ty26 rfl fun h7 => ?_
            try simp only [bs_length, List.length_map, List.length_append, List.length_replicate, List.length_cons, List.length_nil, List.length_take, List.length_set] at h7
            refine AL.pure rfl rfl (by decide) (P_addN rfl rfl (by omega) (by omega)) ?_
            refine AL.recast 57 (vI .i64 ((at_ + h * (s / 2 * z) + (frameOf b).length : Nat) : Int)) rfl (vI_congr (by omega)) ?_
            refine AL.mk rfl rfl (by decide) (E_lit ty26 ty5 tz5 rfl rfl) ?_
            refine AL.call (C_nor_Chip_Program (progN p m (at_ + h * (s / 2 * z)) (frameOf b)).2.1 g (progN p m (at_ + h * (s / 2 * z)) (frameOf b)).2.2 (at_ + h * (s / 2 * z) + (frameOf b).length) [0] o1 (by omega) (by simp; omega) (by intro i hi; simp at hi; subst hi; exact zero_and _) ) _ [] [] _ rfl (by decide) rfl rfl rfl (SubG.cons rfl (SubG.cons rfl (SubG.cons rfl SubG.nil))) ?_
            rintro _ _ ⟨rfl, rfl⟩
            refine ⟨rfl, rfl, ?_⟩
            refine AL.pure rfl rfl (by decide) (P_assign rfl) ?_
            refine AL.nil ?_
            refine Then.go ?_
            refine AW.ret ?_
            refine ⟨(by exact .inr rfl), _, _, (.cons (.tmp rfl) .nil), (SubG.cons (l := 1) rfl (SubG.cons (l := 10) rfl (SubG.cons (l := 11) rfl SubG.nil))), ?_, rfl, rfl⟩
            rw [← o3]
            (rw [appendN, if_pos (by omega)]; exact ⟨rfl, rfl⟩)
end Go.Proofs.YtmakeajjgjnldaaGreatDoor
