/- Walks, part 4: codes of numbers and texts; frames. -/
import Derived.Test.YtmakeajjgjnldaaGreatDoorS3
set_option linter.unusedVariables false
set_option linter.unusedSimpArgs false
set_option maxRecDepth 100000
namespace Go.Proofs.YtmakeajjgjnldaaGreatDoor
open Go Go.Ab

/-- A frame's bytes but the last. -/
def frameOf (b : List UInt8) : List UInt8 := leBytes 2 b.length ++ (leBytes 4 (sumOf (leBytes 2 b.length ++ b)) ++ b)
theorem sumOf_lt (l : List UInt8) : sumOf l < 4294967296 := by
  have key : ∀ (l : List UInt8) (x : Nat × Nat), x.1 < 65521 → x.2 < 65521 → (l.foldl sumStep x).1 < 65521 ∧ (l.foldl sumStep x).2 < 65521 := by
    intro l
    induction l with
    | nil => intro x h1 h2; exact ⟨h1, h2⟩
    | cons c l ih => intro x h1 h2; exact ih _ (by simp only [sumStep]; omega) (by simp only [sumStep]; omega)
  obtain ⟨h1, h2⟩ := key l (1, 0) (by decide) (by decide)
  unfold sumOf
  exact Nat.or_lt_two_pow (n := 32) (by omega) (by omega)

theorem ty9 : TyIs Tryz.prog 9 (.string) 1 := ⟨Tryz.underlying9, by kernel_rfl⟩

theorem C_codec_PutInt (xs : List Tr) (v : Nat) (hv : v ≤ 9223372036854775807) (hx : xs.length ≤ 140737488355000) : ACalls Tryz.prog 176 [.tr (.sl 1 xs), vI .i64 (v : Nat)] ([]) ([]) (fun r G => r = .tr (.sl 1 (xs ++ bs (leBytes 8 v))) ∧ G = []) := by
  refine acalls_of_body 9 [] Tryz.func176 rfl (by kernel_rfl) Tryz.ntmps176 (Nat.le_of_ble_eq_true rfl) rfl ?_
  refine AW.seq ?_
  refine AW.region ?_
  refine AL.pure rfl rfl (by decide) (P_assign rfl) ?_
  refine AL.nil ?_
  refine Then.go ?_
  refine AW.seq ?_
  refine AW.region ?_
  refine AL.pure rfl rfl (by decide) (P_move rfl) ?_
  refine AL.pure rfl rfl (by decide) (P_move rfl) ?_
  refine AL.pure rfl rfl (by decide) (P_conv_u64 ty3 ty258 rfl (by omega) (by omega)) ?_
  refine AL.call (C_codec_Put _ _ 8 (by omega) (by omega) (by omega) ) _ [] [] _ rfl (by decide) rfl rfl rfl SubG.nil ?_
  rintro _ _ ⟨rfl, rfl⟩
  refine ⟨rfl, rfl, ?_⟩
  refine AL.pure rfl rfl (by decide) (P_assign rfl) ?_
  refine AL.nil ?_
  refine Then.go ?_
  refine AW.ret ?_
  refine ⟨(by exact .inr rfl), _, _, (.cons (.tmp rfl) .nil), SubG.nil, ?_, rfl, rfl⟩
  exact ⟨rfl, rfl⟩
theorem C_codec_PutText (xs : List Tr) (s : ByteArray) (hs : s.size ≤ 100000) (hx : xs.length ≤ 140737488200000) : ACalls Tryz.prog 279 [.tr (.sl 1 xs), vS s] ([]) ([]) (fun r G => r = .tr (.sl 1 (xs ++ bs (leBytes 4 s.size ++ s.data.toList))) ∧ G = []) := by
  refine acalls_of_body 14 [] Tryz.func279 rfl (by kernel_rfl) Tryz.ntmps279 (Nat.le_of_ble_eq_true rfl) rfl ?_
  refine AW.seq ?_
  refine AW.region ?_
  refine AL.pure rfl rfl (by decide) (P_assign rfl) ?_
  refine AL.nil ?_
  refine Then.go ?_
  refine AW.seq ?_
  refine AW.region ?_
  refine AL.pure rfl rfl (by decide) (P_move rfl) ?_
  refine AL.pure rfl rfl (by decide) (P_move rfl) ?_
  refine AL.pure rfl rfl (by decide) (P_lenStr ty9 rfl) ?_
  refine AL.pure rfl rfl (by decide) (P_conv_u64 ty3 ty258 rfl (by omega) (by omega)) ?_
  refine AL.call (C_codec_Put _ s.size 4 (by omega) (by omega) (by omega) ) _ [] [] _ rfl (by decide) rfl rfl rfl SubG.nil ?_
  rintro _ _ ⟨rfl, rfl⟩
  refine ⟨rfl, rfl, ?_⟩
  refine AL.pure rfl rfl (by decide) (P_move rfl) ?_
  refine AL.mk rfl rfl (by decide) (E_convSB ty9 ty26 ty5 rfl (by omega)) ?_
  refine AL.mk rfl rfl (by decide) (E_lit ty242 ty26 tz26 rfl rfl) ?_
  refine AL.call (C_slices_Concat_byte_byte [xs ++ bs (leBytes 4 s.size), bs s.data.toList] (by have : s.data.size = s.size := rfl; simp [leBytes_length]; omega) ) _ [] [] _ rfl (by decide) rfl rfl rfl SubG.nil ?_
  rintro _ _ ⟨rfl, rfl⟩
  refine ⟨rfl, rfl, ?_⟩
  refine AL.pure rfl rfl (by decide) (P_assign rfl) ?_
  refine AL.nil ?_
  refine Then.go ?_
  refine AW.ret ?_
  refine ⟨(by exact .inr rfl), _, _, (.cons (.tmp rfl) .nil), SubG.nil, ?_, rfl, rfl⟩
  refine ⟨sl_congr ?_, rfl⟩
  simp
theorem C_frame_Body (b : List UInt8) (hb : b.length ≤ 65000) : ACalls Tryz.prog 179 [sB b] ([]) ([]) (fun r G => r = .tup [sB (frameOf b), vI .i64 0] ∧ G = []) := by
  refine acalls_of_body 23 [] Tryz.func179 rfl (by kernel_rfl) Tryz.ntmps179 (Nat.le_of_ble_eq_true rfl) rfl ?_
  refine AW.seq ?_
  refine AW.region ?_
  refine AL.pure rfl rfl (by decide) (P_assign rfl) ?_
  refine AL.pure rfl rfl (by decide) (P_assign rfl) ?_
  refine AL.nil ?_
  refine Then.go ?_
  refine AW.seq ?_
  refine AW.seq ?_
  refine AW.region ?_
  refine AL.pure rfl rfl (by decide) (P_move rfl) ?_
  refine AL_lenM rfl rfl (by decide) ty26 rfl fun h1 => ?_
  try simp only [bs_length, List.length_map, List.length_append, List.length_replicate, List.length_cons, List.length_nil, List.length_take, List.length_set] at h1
  refine AL.pure rfl rfl (by decide) (P_gtr rfl rfl) ?_
  refine AL.nil ?_
  refine Then.go ?_
  refine AW.condD _ rfl ?_ ?_
  · intro h2
    exfalso; omega
  · intro h2
    refine AW.skip ?_
    refine Then.go ?_
    refine AW.seq ?_
    refine AW.region ?_
    refine AL.pure rfl rfl (by decide) (P_move rfl) ?_
    refine AL_lenM rfl rfl (by decide) ty26 rfl fun h3 => ?_
    try simp only [bs_length, List.length_map, List.length_append, List.length_replicate, List.length_cons, List.length_nil, List.length_take, List.length_set] at h3
    refine AL.pure rfl rfl (by decide) (P_conv_u64 ty3 ty258 rfl (by omega) (by omega)) ?_
    refine AL.call (ACalls.argR (.nilS (.same (.same .nil))) (C_codec_Put [] b.length 2 (by omega) (by omega) (by simp) ) ) _ [] [] _ rfl (by decide) rfl rfl rfl SubG.nil ?_
    rintro _ _ ⟨rfl, rfl⟩
    refine ⟨rfl, rfl, ?_⟩
    refine AL.pure rfl rfl (by decide) (P_assign rfl) ?_
    refine AL.nil ?_
    refine Then.go ?_
    refine AW.seq ?_
    refine AW.region ?_
    refine AL.pure rfl rfl (by decide) (P_move rfl) ?_
    refine AL.pure rfl rfl (by decide) (P_move rfl) ?_
    refine AL.pure rfl rfl (by decide) (P_move rfl) ?_
    refine AL.mk rfl rfl (by decide) (E_lit ty242 ty26 tz26 rfl rfl) ?_
    refine AL.call (C_slices_Concat_byte_byte [bs (leBytes 2 b.length), bs b] (by simp [leBytes_length]; omega) ) _ [] [] _ rfl (by decide) rfl rfl rfl SubG.nil ?_
    rintro _ _ ⟨rfl, rfl⟩
    refine ⟨rfl, rfl, ?_⟩
    refine AL.recast 16 (sB (leBytes 2 b.length ++ b)) rfl (by simp [bs]) ?_
    have hs := sumOf_lt (leBytes 2 b.length ++ b)
    refine AL.call (C_sum_Of (leBytes 2 b.length ++ b) ) _ [] [] _ rfl (by decide) rfl rfl rfl SubG.nil ?_
    rintro _ _ ⟨rfl, rfl⟩
    refine ⟨rfl, rfl, ?_⟩
    refine AL.pure rfl rfl (by decide) (P_conv_u64 ty255 ty258 rfl (by omega) (by omega)) ?_
    refine AL.call (C_codec_Put _ (sumOf (leBytes 2 b.length ++ b)) 4 (by have := sumOf_lt (leBytes 2 b.length ++ b); omega) (by omega) (by simp [leBytes_length]) ) _ [] [] _ rfl (by decide) rfl rfl rfl SubG.nil ?_
    rintro _ _ ⟨rfl, rfl⟩
    refine ⟨rfl, rfl, ?_⟩
    refine AL.pure rfl rfl (by decide) (P_move rfl) ?_
    refine AL.mk rfl rfl (by decide) (E_lit ty242 ty26 tz26 rfl rfl) ?_
    refine AL.call (C_slices_Concat_byte_byte [bs (leBytes 2 b.length) ++ bs (leBytes 4 (sumOf (leBytes 2 b.length ++ b))), bs b] (by simp [leBytes_length]; omega) ) _ [] [] _ rfl (by decide) rfl rfl rfl SubG.nil ?_
    rintro _ _ ⟨rfl, rfl⟩
    refine ⟨rfl, rfl, ?_⟩
    refine AL.pure rfl rfl (by decide) (P_assign rfl) ?_
    refine AL.pure rfl rfl (by decide) (P_assign rfl) ?_
    refine AL.nil ?_
    refine Then.go ?_
    refine AW.ret ?_
    refine ⟨(by exact .inr rfl), _, _, (.cons (.tmp rfl) (.cons (.tmp rfl) .nil)), SubG.nil, ?_, rfl, rfl⟩
    refine ⟨?_, rfl⟩
    simp [oneOr, frameOf, bs]
end Go.Proofs.YtmakeajjgjnldaaGreatDoor
