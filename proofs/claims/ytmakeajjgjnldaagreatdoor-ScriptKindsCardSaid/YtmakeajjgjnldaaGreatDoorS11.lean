/- Walks, part 11: codes handed back as rows of one's own; a journal's first frame. -/
import Derived.Test.YtmakeajjgjnldaaGreatDoorS10
set_option linter.unusedVariables false
set_option linter.unusedSimpArgs false
set_option maxRecDepth 100000
namespace Go.Proofs.YtmakeajjgjnldaaGreatDoor
open Go Go.Ab

theorem ne_len {α : Type} {l : List α} (h : l ≠ []) : 0 < l.length := by cases l with | nil => exact absurd rfl h | cons a l => simp



theorem C_Concat_own (yss : List (List Tr)) (h : yss.flatten.length ≤ 140737488355328) (hne : yss ≠ []) : ACalls Tryz.prog 232 [.tr (.sl 1 (yss.map (Tr.sl 1)))] ([]) ([]) (fun r G => r = .own 1 90 0 yss.flatten.length ∧ G = [(90, .els 5 1 yss.flatten)]) := by
  refine acalls_of_body 36 [] Tryz.func232 rfl (by kernel_rfl) Tryz.ntmps232 (Nat.le_of_ble_eq_true rfl) rfl ?_
  refine AW.seq ?_
  refine AW.region ?_
  refine AL.pure rfl rfl (by decide) (P_assign rfl) ?_
  refine AL.nil ?_
  refine Then.go ?_
  refine AW.seq ?_
  refine AW.region ?_
  refine AL.pure rfl rfl (by decide) (P_assign rfl) ?_
  refine AL.nil ?_
  refine Then.go ?_
  refine AW.seq ?_
  refine AW.seq ?_
  refine AW.region ?_
  refine AL.pure rfl rfl (by decide) (P_move rfl) ?_
  refine AL_lenM rfl rfl (by decide) ty242 rfl fun h1 => ?_
  try simp only [bs_length, List.length_map, List.length_append, List.length_replicate, List.length_cons, List.length_nil, List.length_take, List.length_set] at h1
  refine AL.pure rfl rfl (by decide) (P_move rfl) ?_
  refine AL.nil ?_
  refine Then.go ?_
  refine AW.block ?_
  refine AW.loopK (σ := Nat) [2] [] (.cons rfl .nil) .nil rfl (fun i => [(9, .tr (.sl 1 (yss.map (Tr.sl 1)))), (10, vI .i64 (yss.length : Nat)), (11, vI .i64 (i : Nat)), (3, vI .i64 ((yss.take i).flatten.length : Nat)), (0, .tr (.sl 1 (yss.map (Tr.sl 1))))]) (fun i => []) (fun i => i ≤ yss.length) (fun i => yss.length - i) (0) ?_ ?_ ?_ ?_
  · skip
    simp
  · skip
    refine SubT.cons' (by decide) rfl ?_ ?_
    · skip
      rfl
    refine SubT.cons' (by decide) rfl ?_ ?_
    · skip
      rfl
    refine SubT.cons' (by decide) rfl ?_ ?_
    · skip
      rfl
    refine SubT.cons' (by decide) rfl ?_ ?_
    · skip
      rfl
    refine SubT.cons' (by decide) rfl ?_ ?_
    · skip
      rfl
    exact SubT.nil
  · skip
    exact SubG.nil
  · rintro i hs
    try dsimp only at hs
    dsimp only [List.cons_append, List.nil_append]
    have hle := flat_le yss i; have hle2 := flat_le yss (i + 1)
    refine AW.seq ?_
    refine AW.region ?_
    refine AL.pure rfl rfl (by decide) (P_lss rfl rfl) ?_
    refine AL.nil ?_
    refine Then.go ?_
    refine AW.seq ?_
    refine AW.condD _ rfl ?_ ?_
    · intro h2
      rw [flat_take (by omega), List.length_append] at hle2
      refine AW.skip ?_
      refine Then.go ?_
      refine AW.seq ?_
      refine AW.block ?_
      refine AW.seq ?_
      refine AW.region ?_
      refine AL.pure rfl rfl (by decide) (P_indexSl ty242 ty26 rfl rfl (by exact cat_at (by omega)) (by rfl)) ?_
      refine AL.pure rfl rfl (by decide) (P_loadR ty26 rfl rfl rfl) ?_
      refine AL.pure rfl rfl (by decide) (P_assign rfl) ?_
      refine AL.nil ?_
      refine Then.go ?_
      refine AW.seq ?_
      refine AW.region ?_
      refine AL.pure rfl rfl (by decide) (P_move rfl) ?_
      refine AL.pure rfl rfl (by decide) (P_move rfl) ?_
      refine AL_lenSl rfl rfl (by decide) ty26 rfl fun h3 => ?_
      try simp only [bs_length, List.length_map, List.length_append, List.length_replicate, List.length_cons, List.length_nil, List.length_take, List.length_set] at h3
      refine AL.pure rfl rfl (by decide) (P_addN rfl rfl (by omega) (by omega)) ?_
      refine AL.pure rfl rfl (by decide) (P_assign rfl) ?_
      refine AL.nil ?_
      refine Then.go ?_
      refine AW.seq ?_
      refine AW.region ?_
      refine AL.pure rfl rfl (by decide) (P_move rfl) ?_
      refine AL.pure rfl rfl (by decide) (P_lss rfl rfl) ?_
      refine AL.nil ?_
      refine Then.go ?_
      refine AW.condD _ rfl ?_ ?_
      · intro h4
        exfalso; omega
      · intro h4
        refine AW.skip ?_
        refine InBlock.go ?_
        refine Then.go ?_
        refine AW.region ?_
        refine AL.pure rfl rfl (by decide) (P_addN rfl rfl (by omega) (by omega)) ?_
        refine AL.pure rfl rfl (by decide) (P_move rfl) ?_
        refine AL.nil ?_
        refine Round.go (i + 1) ?_ ?_ ?_ ?_
        · try dsimp only
          omega
        · try dsimp only
          omega
        · skip
          refine SubT.cons' (by decide) rfl ?_ ?_
          · skip
            rfl
          refine SubT.cons' (by decide) rfl ?_ ?_
          · skip
            rfl
          refine SubT.cons' (by decide) rfl ?_ ?_
          · skip
            rfl
          refine SubT.cons' (by decide) rfl ?_ ?_
          · skip
            exact vI_congr (by rw [flat_take (by omega), List.length_append]; omega)
          refine SubT.cons' (by decide) rfl ?_ ?_
          · skip
            rfl
          exact (SubT.cons (by decide) rfl SubT.nil)
        · skip
          exact SubG.nil
    · intro h2
      refine AW.exit ?_
      refine Then.e ?_
      refine Round.e ?_
      refine InBlock.e ?_
      refine Then.go ?_
      refine AW.seq ?_
      refine AW.region ?_
      refine AL.pure rfl rfl (by decide) (P_move rfl) ?_
      refine AL.call (C_slices_Grow_byte_byte _ (by omega) (by have := flat_le yss i; omega) ) _ [] [] _ rfl (by decide) rfl rfl rfl SubG.nil ?_
      rintro _ _ ⟨zs, rfl, rfl⟩
      refine ⟨rfl, rfl, ?_⟩
      refine AL.pure rfl rfl (by decide) (P_assign rfl) ?_
      refine AL.nil ?_
      refine Then.go ?_
      refine AW.seq ?_
      refine AW.seq ?_
      refine AW.region ?_
      refine AL.pure rfl rfl (by decide) (P_move rfl) ?_
      refine AL_lenM rfl rfl (by decide) ty242 rfl fun h5 => ?_
      try simp only [bs_length, List.length_map, List.length_append, List.length_replicate, List.length_cons, List.length_nil, List.length_take, List.length_set] at h5
      refine AL.pure rfl rfl (by decide) (P_move rfl) ?_
      refine AL.nil ?_
      refine Then.go ?_
      refine AW.block ?_
      refine AW.loopK (σ := Nat × Nat × List Tr) [2] [] (.cons rfl .nil) .nil rfl (fun (i, m, xs) => [(25, .tr (.sl 1 (yss.map (Tr.sl 1)))), (26, vI .i64 (yss.length : Nat)), (27, vI .i64 (i : Nat)), (6, .own 1 90 0 m)]) (fun (i, m, xs) => [(90, .els 5 1 xs)]) (fun (i, m, xs) => i ≤ yss.length ∧ m ≤ xs.length ∧ xs.take m = (yss.take i).flatten ∧ m = (yss.take i).flatten.length ∧ (0 < i → xs = (yss.take i).flatten)) (fun (i, m, xs) => yss.length - i) ((0, 0, zs)) ?_ ?_ ?_ ?_
      · skip
        simp
      · skip
        refine SubT.cons' (by decide) rfl ?_ ?_
        · skip
          rfl
        refine SubT.cons' (by decide) rfl ?_ ?_
        · skip
          rfl
        refine SubT.cons' (by decide) rfl ?_ ?_
        · skip
          rfl
        refine SubT.cons' (by decide) rfl ?_ ?_
        · skip
          rfl
        exact SubT.nil
      · skip
        refine SubG.cons' rfl ?_ ?_
        · skip
          rfl
        exact SubG.nil
      · rintro ⟨i, m, xs⟩ hs
        try dsimp only at hs
        dsimp only [List.cons_append, List.nil_append]
        obtain ⟨i0, i1, i2, i3, i4⟩ := hs
        have hle := flat_le yss i; have hle2 := flat_le yss (i + 1)
        refine AW.seq ?_
        refine AW.region ?_
        refine AL.pure rfl rfl (by decide) (P_lss rfl rfl) ?_
        refine AL.nil ?_
        refine Then.go ?_
        refine AW.seq ?_
        refine AW.condD _ rfl ?_ ?_
        · intro h6
          rw [flat_take (by omega), List.length_append] at hle2
          refine AW.skip ?_
          refine Then.go ?_
          refine AW.seq ?_
          refine AW.block ?_
          refine AW.seq ?_
          refine AW.region ?_
          refine AL.pure rfl rfl (by decide) (P_indexSl ty242 ty26 rfl rfl (by exact cat_at (by omega)) (by rfl)) ?_
          refine AL.pure rfl rfl (by decide) (P_loadR ty26 rfl rfl rfl) ?_
          refine AL.pure rfl rfl (by decide) (P_assign rfl) ?_
          refine AL.nil ?_
          refine Then.go ?_
          refine AW.region ?_
          refine AL.pure rfl rfl (by decide) (P_move rfl) ?_
          refine AL.pure rfl rfl (by decide) (P_move rfl) ?_
          refine AL.eff rfl rfl (by decide) (E_append ty26 ty5 tz5 tb5 rfl rfl rfl rfl rfl (by omega) (by omega)) ?_
          refine AL.pure rfl rfl (by decide) (P_assign rfl) ?_
          refine AL.nil ?_
          refine InBlock.go ?_
          refine Then.go ?_
          refine AW.region ?_
          refine AL.pure rfl rfl (by decide) (P_addN rfl rfl (by omega) (by omega)) ?_
          refine AL.pure rfl rfl (by decide) (P_move rfl) ?_
          refine AL.nil ?_
          refine Round.go ((i + 1, m + (yss.getD i []).length, xs.take m ++ yss.getD i [])) ?_ ?_ ?_ ?_
          · try dsimp only
            refine ⟨by omega, by simp only [List.length_append, List.length_take]; omega, ?_, ?_, fun _ => ?_⟩
            · rw [flat_take (by omega), List.take_of_length_le (by simp only [List.length_append, List.length_take]; omega), i2]
            · rw [flat_take (by omega), List.length_append]; omega
            · rw [flat_take (by omega), i2]
          · try dsimp only
            omega
          · skip
            refine SubT.cons' (by decide) rfl ?_ ?_
            · skip
              rfl
            refine SubT.cons' (by decide) rfl ?_ ?_
            · skip
              rfl
            refine SubT.cons' (by decide) rfl ?_ ?_
            · skip
              rfl
            refine SubT.cons' (by decide) rfl ?_ ?_
            · skip
              rfl
            exact (SubT.cons (by decide) rfl SubT.nil)
          · skip
            refine SubG.cons' rfl ?_ ?_
            · skip
              rfl
            exact SubG.nil
        · intro h6
          refine AW.exit ?_
          refine Then.e ?_
          refine Round.e ?_
          refine InBlock.e ?_
          refine Then.go ?_
          refine AW.seq ?_
          refine AW.region ?_
          refine AL.pure rfl rfl (by decide) (P_move rfl) ?_
          refine AL.pure rfl rfl (by decide) (P_assign rfl) ?_
          refine AL.nil ?_
          refine Then.go ?_
          refine AW.ret ?_
          refine ⟨(by exact .inr rfl), _, _, (.cons (.tmp rfl) .nil), (SubG.cons (l := 90) rfl SubG.nil), ?_, rfl, rfl⟩
          have hi : i = yss.length := by omega
          have hx := i4 (by have := ne_len hne; omega)
          rw [hi, List.take_length] at i3 hx
          rw [← i3, ← hx]
          exact ⟨rfl, rfl⟩
theorem C_Put_own (xs : List Tr) (v n : Nat) (hv : v < 18446744073709551616) (hn : n ≤ 8) (hx : xs.length ≤ 140737488355000) : ACalls Tryz.prog 230 [.tr (.sl 1 xs), vI .u64 (v : Nat), vI .i64 (n : Nat)] ([]) ([]) (fun r G => r = .own 1 90 0 (xs.length + n) ∧ G = [(90, .els 5 1 (xs ++ bs (leBytes n v)))]) := by
  refine acalls_of_body 31 [] Tryz.func230 rfl (by kernel_rfl) Tryz.ntmps230 (Nat.le_of_ble_eq_true rfl) rfl ?_
  refine AW.seq ?_
  refine AW.region ?_
  refine AL.pure rfl rfl (by decide) (P_assign rfl) ?_
  refine AL.nil ?_
  refine Then.go ?_
  refine AW.seq ?_
  refine AW.region ?_
  refine AL.pure rfl rfl (by decide) (P_move rfl) ?_
  refine AL.pure rfl rfl (by decide) (P_max rfl rfl) ?_
  refine AL.pure rfl rfl (by decide) (P_min rfl rfl) ?_
  refine AL.eff rfl rfl (by decide) (E_make 112 ty26 ty5 tz5 tb5 rfl rfl rfl (by omega) rfl rfl rfl) ?_
  refine AL.pure rfl rfl (by decide) (P_assign rfl) ?_
  refine AL.nil ?_
  refine Then.go ?_
  refine AW.seq ?_
  refine AW.seq ?_
  refine AW.region ?_
  refine AL.pure rfl rfl (by decide) (P_move rfl) ?_
  refine AL_lenOwn rfl rfl (by decide) ty26 rfl fun h1 => ?_
  try simp only [bs_length, List.length_map, List.length_append, List.length_replicate, List.length_cons, List.length_nil, List.length_take, List.length_set] at h1
  refine AL.pure rfl rfl (by decide) (P_move rfl) ?_
  refine AL.nil ?_
  refine Then.go ?_
  refine AW.block ?_
  refine AW.loopK (σ := Nat × List Tr) [6] [] (.cons rfl .nil) .nil rfl (fun (i, l) => [(0, .tr (.sl 1 xs)), (1, vI .u64 (v : Nat)), (7, .own 1 112 0 n), (14, vI .i64 (n : Nat)), (15, vI .i64 (i : Nat))]) (fun (i, l) => [(112, .els 5 1 l)]) (fun (i, l) => i ≤ n ∧ l.length = n ∧ l = bs ((leBytes n v).take i) ++ List.replicate (n - i) z8) (fun (i, l) => n - i) ((0, List.replicate n z8)) ?_ ?_ ?_ ?_
  · skip
    simp
  · skip
    refine SubT.cons' (by decide) rfl ?_ ?_
    · skip
      rfl
    refine SubT.cons' (by decide) rfl ?_ ?_
    · skip
      rfl
    refine SubT.cons' (by decide) rfl ?_ ?_
    · skip
      exact own_congr (by omega)
    refine SubT.cons' (by decide) rfl ?_ ?_
    · skip
      exact vI_congr (by omega)
    refine SubT.cons' (by decide) rfl ?_ ?_
    · skip
      rfl
    exact SubT.nil
  · skip
    refine SubG.cons' rfl ?_ ?_
    · skip
      exact els_congr (by congr 1; omega)
    exact SubG.nil
  · rintro ⟨i, l⟩ hs
    try dsimp only at hs
    dsimp only [List.cons_append, List.nil_append]
    obtain ⟨i0, i1, i2⟩ := hs
    refine AW.seq ?_
    refine AW.region ?_
    refine AL.pure rfl rfl (by decide) (P_lss rfl rfl) ?_
    refine AL.nil ?_
    refine Then.go ?_
    refine AW.seq ?_
    refine AW.condD _ rfl ?_ ?_
    · intro h2
      refine AW.skip ?_
      refine Then.go ?_
      refine AW.seq ?_
      refine AW.block ?_
      refine AW.seq ?_
      refine AW.region ?_
      refine AL.pure rfl rfl (by decide) (P_move rfl) ?_
      refine AL.pure rfl rfl (by decide) (P_assign rfl) ?_
      refine AL.nil ?_
      refine Then.go ?_
      refine AW.region ?_
      refine AL.pure rfl rfl (by decide) (P_move rfl) ?_
      refine AL.pure rfl rfl (by decide) (P_move rfl) ?_
      refine AL.pure rfl rfl (by decide) (P_move rfl) ?_
      refine AL.pure rfl rfl (by decide) (P_move rfl) ?_
      refine AL.pure rfl rfl (by decide) (P_mulN rfl rfl (by omega) (by omega)) ?_
      refine AL.pure rfl rfl (by decide) (P_shr rfl rfl (by omega)) ?_
      refine AL.pure rfl rfl (by decide) (P_convI ty258 ty5 rfl) ?_
      refine AL.pure rfl rfl (by decide) (P_indexOwn1 ty26 ty5 rfl rfl (by omega)) ?_
      refine AL.eff0 rfl rfl (E_storeE1 ty5 rfl rfl rfl rfl (by omega) rfl) ?_
      refine AL.nil ?_
      refine InBlock.go ?_
      refine Then.go ?_
      refine AW.region ?_
      refine AL.pure rfl rfl (by decide) (P_addN rfl rfl (by omega) (by omega)) ?_
      refine AL.pure rfl rfl (by decide) (P_move rfl) ?_
      refine AL.nil ?_
      refine Round.go ((i + 1, bs ((leBytes n v).take (i + 1)) ++ List.replicate (n - (i + 1)) z8)) ?_ ?_ ?_ ?_
      · try dsimp only
        refine ⟨by omega, ?_, rfl⟩
        rw [← put_step (by omega) _ rfl, ← i2]; simp [i1]
      · try dsimp only
        omega
      · skip
        refine SubT.cons' (by decide) rfl ?_ ?_
        · skip
          rfl
        refine SubT.cons' (by decide) rfl ?_ ?_
        · skip
          rfl
        refine SubT.cons' (by decide) rfl ?_ ?_
        · skip
          rfl
        refine SubT.cons' (by decide) rfl ?_ ?_
        · skip
          rfl
        refine SubT.cons' (by decide) rfl ?_ ?_
        · skip
          rfl
        exact (SubT.cons (by decide) rfl SubT.nil)
      · skip
        refine SubG.cons' rfl ?_ ?_
        · skip
          refine els_congr ?_
          rw [← put_step (by omega) (.val (.int .u8 (IntKind.u8.wrap ((v : Int).fdiv (2 ^ min (8 * (i : Int)).toNat IntKind.u64.bits))))) ?_, ← i2]
          have hm : min (8 * (i : Int)).toNat IntKind.u64.bits = 8 * i := by simp only [IntKind.bits]; omega
          rw [hm, Int.fdiv_eq_ediv_of_nonneg _ (by exact_mod_cast Nat.zero_le (2 ^ (8 * i))), ← byte_of]
        exact SubG.nil
    · intro h2
      refine AW.exit ?_
      refine Then.e ?_
      refine Round.e ?_
      refine InBlock.e ?_
      refine Then.go ?_
      refine AW.seq ?_
      refine AW.region ?_
      refine AL.letGo 7 112 0 rfl rfl rfl (by decide) rfl (by omega) ?_
      refine AL.pure rfl rfl (by decide) (P_move rfl) ?_
      refine AL.pure rfl rfl (by decide) (P_move rfl) ?_
      refine AL.mk rfl rfl (by decide) (E_lit ty242 ty26 tz26 rfl rfl) ?_
      refine AL.call (C_Concat_own [xs, (l.drop 0).take n] (by simp; omega) (by simp) ) _ [] [] _ rfl (by decide) rfl rfl rfl SubG.nil ?_
      rintro _ _ ⟨rfl, rfl⟩
      refine ⟨rfl, rfl, ?_⟩
      refine AL.pure rfl rfl (by decide) (P_assign rfl) ?_
      refine AL.nil ?_
      refine Then.go ?_
      refine AW.ret ?_
      refine ⟨(by exact .inr rfl), _, _, (.cons (.tmp rfl) .nil), (SubG.cons (l := 90) rfl SubG.nil), ?_, rfl, rfl⟩
      have hi : i = n := by omega
      subst hi
      have hl : [xs, (l.drop 0).take i].flatten = xs ++ bs (leBytes i v) := by simp [i2, leBytes_length, List.take_of_length_le]
      rw [hl]
      refine ⟨?_, rfl⟩
      exact own_congr (by simp [leBytes_length])
theorem C_PutInt_own (xs : List Tr) (v : Nat) (hv : v ≤ 9223372036854775807) (hx : xs.length ≤ 140737488355000) : ACalls Tryz.prog 176 [.tr (.sl 1 xs), vI .i64 (v : Nat)] ([]) ([]) (fun r G => r = .own 1 90 0 (xs.length + 8) ∧ G = [(90, .els 5 1 (xs ++ bs (leBytes 8 v)))]) := by
  refine acalls_of_body 9 [] Tryz.func176 rfl (by kernel_rfl) Tryz.ntmps176 (Nat.le_of_ble_eq_true rfl) rfl ?_
  refine AW.seq ?_
  refine AW.region ?_
  refine AL.pure rfl rfl (by decide) (P_assign rfl) ?_
  refine AL.nil ?_
  refine Then.go ?_
  refine AW.seq ?_
  refine AW.region ?_
  refine AL.pure rfl rfl (by decide) (P_move rfl) ?_
  refine AL.pure rfl rfl (by decide) (P_move rfl) ?_
  refine AL.pure rfl rfl (by decide) (P_conv_u64 ty3 ty258 rfl (by omega) (by omega)) ?_
  refine AL.call (C_Put_own _ _ 8 (by omega) (by omega) (by omega) ) _ [] [] _ rfl (by decide) rfl rfl rfl SubG.nil ?_
  rintro _ _ ⟨rfl, rfl⟩
  refine ⟨rfl, rfl, ?_⟩
  refine AL.pure rfl rfl (by decide) (P_assign rfl) ?_
  refine AL.nil ?_
  refine Then.go ?_
  refine AW.ret ?_
  refine ⟨(by exact .inr rfl), _, _, (.cons (.tmp rfl) .nil), (SubG.cons (l := 90) rfl SubG.nil), ?_, rfl, rfl⟩
  exact ⟨rfl, rfl⟩

structure StaOk (s : Sta) : Prop where
  next : s.next ≤ 9223372036854775807
  ni : s.inos.length ≤ 1000
  inos : ∀ x ∈ s.inos, InoOk x
  nb : s.bad.length ≤ 1000
  bad : ∀ n ∈ s.bad, n ≤ 9223372036854775807
def firstB (epoch : Nat) (s : Sta) : List UInt8 := leBytes 8 epoch ++ deedsB (wholeD s)
theorem InoOk.z : InoOk Ino.z := ⟨by simp [Ino.z], by simp [Ino.z], by simp [Ino.z], by simp [Ino.z], by show 0 ≤ 100000; omega, by simp [Ino.z], by simp [Ino.z], by simp [Ino.z], by simp [Ino.z]⟩
theorem wholeD_ok {s : Sta} (h : StaOk s) : ∀ d ∈ wholeD s, d.kind ≤ 9223372036854775807 ∧ d.no ≤ 9223372036854775807 ∧ InoOk d.ino := by
  intro d hd
  simp only [wholeD, List.mem_cons, List.mem_append, List.mem_map] at hd
  rcases hd with rfl | ⟨x, hx, rfl⟩ | ⟨n, hn, rfl⟩
  · exact ⟨by simp, h.next, InoOk.z⟩
  · exact ⟨by simp, by simp, h.inos x hx⟩
  · exact ⟨by simp, h.bad n hn, InoOk.z⟩
theorem wholeD_len (s : Sta) : (wholeD s).length = 1 + s.inos.length + s.bad.length := by simp [wholeD]; omega
theorem deedsB_len {l : List Dd} (h : ∀ d ∈ l, d.kind ≤ 9223372036854775807 ∧ d.no ≤ 9223372036854775807 ∧ InoOk d.ino) : (deedsB l).length ≤ l.length * 200000000 := flatMap_len ddB 200000000 l fun d hd => ddB_len (h d hd).2.2

theorem C_journal_first (epoch : Nat) (s : Sta) (he : epoch ≤ 9223372036854775807) (h : StaOk s) : ACalls Tryz.prog 121 [vI .i64 (epoch : Nat), .tr s.t] ([]) ([]) (fun r G => r = sB (firstB epoch s) ∧ G = []) := by
  have w1 := wholeD_ok h; have w2 := wholeD_len s; have w3 := deedsB_len w1; have w4 := h.ni; have w5 := h.nb
  refine acalls_of_body 11 [] Tryz.func121 rfl (by kernel_rfl) Tryz.ntmps121 (Nat.le_of_ble_eq_true rfl) rfl ?_
  refine AW.seq ?_
  refine AW.region ?_
  refine AL.eff rfl rfl (by decide) (E_box 103 rfl rfl rfl rfl rfl rfl) ?_
  refine AL.pure rfl rfl (by decide) (P_assign rfl) ?_
  refine AL.nil ?_
  refine Then.go ?_
  refine AW.seq ?_
  refine AD.start ?_
  refine AD.op 0 5 [] _ rfl rfl rfl (B_pure (P_move rfl)) ?_
  refine AD.op 1 6 [0] _ rfl rfl rfl (B_call0 (ACalls.argR (.nilS (.same .nil)) (C_PutInt_own [] epoch he (by simp) ) ) _ rfl rfl (by rintro _ _ ⟨rfl, rfl⟩; exact ⟨rfl, rfl⟩)) ?_
  refine AD.op 2 7 [] _ rfl rfl rfl (B_pure (P_loadA ty38 rfl rfl rfl (Nat.le_of_ble_eq_true rfl))) ?_
  refine AD.tail mixed rfl (by kernel_rfl) rfl ?_
  refine AL.call (C_state_Whole s (by omega) (by omega) (fun x hx => ⟨(h.inos x hx).ne, (h.inos x hx).nr⟩) ) _ [] [] _ rfl (by decide) rfl rfl rfl SubG.nil ?_
  rintro _ _ ⟨rfl, rfl⟩
  refine ⟨rfl, rfl, ?_⟩
  refine AL.call (C_pack_Deeds (wholeD s) (by omega) w1 ) _ [] [] _ rfl (by decide) rfl rfl rfl SubG.nil ?_
  rintro _ _ ⟨rfl, rfl⟩
  refine ⟨rfl, rfl, ?_⟩
  refine AL.eff rfl rfl (by decide) (E_append ty26 ty5 tz5 tb5 rfl rfl rfl rfl rfl (by (simp only [bs_length, List.length_map, List.length_append, List.length_replicate, List.length_set, List.length_take, List.length_nil, List.length_cons, leBytes_length]; omega)) (by (simp only [bs_length, List.length_map, List.length_append, List.length_replicate, List.length_set, List.length_take, List.length_nil, List.length_cons, leBytes_length]; omega))) ?_
  refine AL.pure rfl rfl (by decide) (P_assign rfl) ?_
  refine AL.letGo 4 90 0 rfl rfl rfl (by decide) rfl (by simp [leBytes_length]) ?_
  refine AL.nil ?_
  refine Then.go ?_
  refine AW.ret ?_
  refine ⟨(by exact .inr rfl), _, _, (.cons (.tmp rfl) .nil), SubG.nil, ?_, rfl, rfl⟩
  refine ⟨sl_congr ?_, rfl⟩
  simp [firstB, bs, leBytes_length, List.take_of_length_le]
end Go.Proofs.YtmakeajjgjnldaaGreatDoor
