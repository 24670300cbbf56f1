/- Walks, part 3: slices joined; codes. -/
import Derived.Test.YtmakeajjgjnldaaGreatDoorS2
set_option linter.unusedVariables false
set_option linter.unusedSimpArgs false
set_option maxRecDepth 100000
namespace Go.Proofs.YtmakeajjgjnldaaGreatDoor
open Go Go.Ab

theorem mixed : Tryz.prog.follows .mixedOrders = true := by kernel_rfl

theorem ty3 : TyIs Tryz.prog 3 (.int .i64) 1 := ⟨Tryz.underlying3, by kernel_rfl⟩
theorem tb5 : TyB Tryz.prog 5 1 := ⟨by kernel_rfl⟩
theorem tz5 : TyZ Tryz.prog 5 (.int .u8 0) := ⟨by kernel_rfl⟩
theorem tz26 : TyZ Tryz.prog 26 (.slice none 0 0) := ⟨by kernel_rfl⟩
theorem ty242 : TyIs Tryz.prog 242 (.slice 26) 1 := ⟨Tryz.underlying242, by kernel_rfl⟩
theorem ty258 : TyIs Tryz.prog 258 (.int .u64) 1 := ⟨Tryz.underlying258, by kernel_rfl⟩

theorem C_slices_Clone_byte_byte (xs : List Tr) (h : xs.length ≤ 140737488355328) : ACalls Tryz.prog 219 [.tr (.sl 1 xs)] ([]) ([]) (fun r G => r = .own 1 90 0 xs.length ∧ G = [(90, .els 5 1 xs)]) := by
  refine acalls_of_body 8 [] Tryz.func219 rfl (by kernel_rfl) Tryz.ntmps219 (Nat.le_of_ble_eq_true rfl) rfl ?_
  refine AW.seq ?_
  refine AW.region ?_
  refine AL.pure rfl rfl (by decide) (P_assign rfl) ?_
  refine AL.nil ?_
  refine Then.go ?_
  refine AW.seq ?_
  refine AW.seq ?_
  refine AW.region ?_
  refine AL.pure rfl rfl (by decide) (P_move rfl) ?_
  refine AL_eqlNil rfl rfl (by decide) ty26 rfl rfl fun bh1 h1 => ?_
  refine AL.nil ?_
  refine Then.go ?_
  refine AW.cond _ rfl ?_ ?_
  · intro h2
    refine AW.seq ?_
    refine AW.region ?_
    refine AL.pure rfl rfl (by decide) (P_assign rfl) ?_
    refine AL.ghost 2 90 5 1 rfl rfl rfl rfl ?_
    refine AL.nil ?_
    refine Then.go ?_
    refine AW.ret ?_
    refine Then.r ?_
    refine ⟨(by exact .inr rfl), _, _, (.cons (.tmp rfl) .nil), (SubG.cons (l := 90) rfl SubG.nil), ?_, rfl, rfl⟩
    (obtain rfl := h1 h2; exact ⟨rfl, rfl⟩)
  · intro h2
    refine AW.skip ?_
    refine Then.go ?_
    refine AW.seq ?_
    refine AW.region ?_
    refine AL.eff rfl rfl (by decide) (E_litO 90 ty26 ty5 tz5 rfl rfl rfl rfl rfl) ?_
    refine AL.pure rfl rfl (by decide) (P_move rfl) ?_
    refine AL.eff rfl rfl (by decide) (E_append ty26 ty5 tz5 tb5 rfl rfl rfl rfl rfl (by omega) (by omega)) ?_
    refine AL.pure rfl rfl (by decide) (P_assign rfl) ?_
    refine AL.nil ?_
    refine Then.go ?_
    refine AW.ret ?_
    refine ⟨(by exact .inr rfl), _, _, (.cons (.tmp rfl) .nil), (SubG.cons (l := 90) rfl SubG.nil), ?_, rfl, rfl⟩
    (refine ⟨?_, rfl⟩; simp [oneOr]; done)

theorem cat_at {yss : List (List Tr)} {i : Nat} (h : i < yss.length) : (yss.map (Tr.sl 1))[i]? = some (.sl 1 (yss.getD i [])) := by
  simp [List.getElem?_eq_getElem h, List.getD, h]
theorem flat_take {yss : List (List Tr)} {i : Nat} (h : i < yss.length) : (yss.take (i + 1)).flatten = (yss.take i).flatten ++ yss.getD i [] := by
  rw [List.take_add_one, List.flatten_append]; simp [List.getElem?_eq_getElem h, List.getD, h]
theorem flat_le (yss : List (List Tr)) (i : Nat) : (yss.take i).flatten.length ≤ yss.flatten.length := by
  conv => rhs; rw [← List.take_append_drop i yss, List.flatten_append, List.length_append]
  omega
theorem own_congr {sz l off m m' : Nat} (h : m = m') : AV.own sz l off m = .own sz l off m' := h ▸ rfl
theorem els_congr {e : TypeId} {sz : Nat} {xs ys : List Tr} (h : xs = ys) : AObj.els e sz xs = .els e sz ys := h ▸ rfl
theorem sl_congr {sz : Nat} {xs ys : List Tr} (h : xs = ys) : AV.tr (.sl sz xs) = .tr (.sl sz ys) := h ▸ rfl
/-- The bytes of a number, the least first. -/
def leBytes (n v : Nat) : List UInt8 := (List.range n).map fun i => UInt8.ofNat (v / 2 ^ (8 * i))
theorem leBytes_length (n v : Nat) : (leBytes n v).length = n := by simp [leBytes]
abbrev z8 : Tr := .val (.int .u8 0)
theorem put_step {n v i : Nat} (h : i < n) (x : Tr) (hx : x = b8 (UInt8.ofNat (v / 2 ^ (8 * i)))) :
    (bs ((leBytes n v).take i) ++ List.replicate (n - i) z8).set i x = bs ((leBytes n v).take (i + 1)) ++ List.replicate (n - (i + 1)) z8 := by
  have hl : (leBytes n v).length = n := leBytes_length n v
  have h1 : (leBytes n v).take (i + 1) = (leBytes n v).take i ++ [UInt8.ofNat (v / 2 ^ (8 * i))] := by
    rw [List.take_add_one, List.getElem?_eq_getElem (by omega)]; simp [leBytes]
  have h2 : (bs ((leBytes n v).take i)).length = i := by simp [bs]; omega
  rw [h1]
  simp only [bs, List.map_append, List.map_cons, List.map_nil] at h2 ⊢
  rw [List.append_assoc, List.set_append_right _ _ (by rw [h2]; omega), h2, Nat.sub_self, show n - i = (n - (i + 1)) + 1 by omega, List.replicate_succ, List.set_cons_zero, hx]
  rfl
theorem byte_of {v j : Nat} : ((UInt8.ofNat (v / 2 ^ j)).toNat : Int) = IntKind.u8.wrap ((v : Int) / 2 ^ j) := by
  rw [IntKind.wrap_u8]
  have : ((v : Int) / 2 ^ j) = ((v / 2 ^ j : Nat) : Int) := by simp
  rw [this]; simp

theorem C_slices_Grow_byte_byte (n : Int) (h0 : 0 ≤ n) (h1 : n ≤ 140737488355328) : ACalls Tryz.prog 281 [.tr (.val (.slice none 0 0)), vI .i64 n] ([]) ([]) (fun r G => ∃ zs, r = .own 1 90 0 0 ∧ G = [(90, .els 5 1 zs)]) := by
  refine acalls_of_body 27 [] Tryz.func281 rfl (by kernel_rfl) Tryz.ntmps281 (Nat.le_of_ble_eq_true rfl) rfl ?_
  refine AW.seq ?_
  refine AW.region ?_
  refine AL.pure rfl rfl (by decide) (P_assign rfl) ?_
  refine AL.nil ?_
  refine Then.go ?_
  refine AW.seq ?_
  refine AW.seq ?_
  refine AW.region ?_
  refine AL.pure rfl rfl (by decide) (P_move rfl) ?_
  refine AL.pure rfl rfl (by decide) (P_lss rfl rfl) ?_
  refine AL.nil ?_
  refine Then.go ?_
  refine AW.condD _ rfl ?_ ?_
  · intro h1
    exfalso; omega
  · intro h1
    refine AW.skip ?_
    refine Then.go ?_
    refine AW.seq ?_
    refine AW.seq ?_
    refine AW.region ?_
    refine AL.pure rfl rfl (by decide) (P_move rfl) ?_
    refine AL.pure rfl rfl (by decide) (P_move rfl) ?_
    refine AL.pure rfl rfl (by decide) (P_capNil ty26 rfl) ?_
    refine AL.pure rfl rfl (by decide) (P_move rfl) ?_
    refine AL.pure rfl rfl (by decide) (P_lenNil ty26 rfl) ?_
    try simp only [bs_length, List.length_map, List.length_append, List.length_replicate, List.length_cons, List.length_nil, List.length_take, List.length_set] at h2
    refine AL.pure rfl rfl (by decide) (P_subN rfl rfl (by omega) (by omega)) ?_
    refine AL.pure rfl rfl (by decide) (P_subN rfl rfl (by omega) (by omega)) ?_
    refine AL.pure rfl rfl (by decide) (P_assign rfl) ?_
    refine AL.nil ?_
    refine Then.go ?_
    refine AW.seq ?_
    refine AW.region ?_
    refine AL.pure rfl rfl (by decide) (P_move rfl) ?_
    refine AL.pure rfl rfl (by decide) (P_gtr rfl rfl) ?_
    refine AL.nil ?_
    refine Then.go ?_
    refine AW.condD _ rfl ?_ ?_
    · intro h3
      refine AW.region ?_
      refine AL.pure rfl rfl (by decide) (P_move rfl) ?_
      refine AL.pure rfl rfl (by decide) (P_move rfl) ?_
      refine AL.pure rfl rfl (by decide) (P_capNil ty26 rfl) ?_
      refine AL.pure rfl rfl (by decide) (P_sliceNilH ty26 ty5 rfl rfl) ?_
      refine AL.pure rfl rfl (by decide) (P_move rfl) ?_
      refine AL.eff rfl rfl (by decide) (E_appendZ 90 ty26 ty3 ty5 tz5 tb5 rfl rfl rfl (by omega) rfl rfl rfl) ?_
      refine AL.pure rfl rfl (by decide) (P_move rfl) ?_
      refine AL.pure rfl rfl (by decide) (P_lenNil ty26 rfl) ?_
      try simp only [bs_length, List.length_map, List.length_append, List.length_replicate, List.length_cons, List.length_nil, List.length_take, List.length_set] at h4
      refine AL.pure rfl rfl (by decide) (P_sliceOH ty26 ty5 rfl rfl (by omega)) ?_
      refine AL.pure rfl rfl (by decide) (P_assign rfl) ?_
      refine AL.nil ?_
      refine Then.go ?_
      refine AW.seq ?_
      refine AW.region ?_
      refine AL.pure rfl rfl (by decide) (P_move rfl) ?_
      refine AL.pure rfl rfl (by decide) (P_assign rfl) ?_
      skip
      refine AL.nil ?_
      refine Then.go ?_
      refine AW.ret ?_
      refine ⟨(by exact .inr rfl), _, _, (.cons (.tmp rfl) .nil), (SubG.cons (l := 90) rfl SubG.nil), ?_, rfl, rfl⟩
      exact ⟨_, rfl, rfl⟩
    · intro h3
      refine AW.skip ?_
      refine Then.go ?_
      refine AW.seq ?_
      refine AW.region ?_
      refine AL.pure rfl rfl (by decide) (P_move rfl) ?_
      refine AL.pure rfl rfl (by decide) (P_assign rfl) ?_
      refine AL.ghost 4 90 5 1 rfl rfl rfl rfl ?_
      refine AL.nil ?_
      refine Then.go ?_
      refine AW.ret ?_
      refine ⟨(by exact .inr rfl), _, _, (.cons (.tmp rfl) .nil), (SubG.cons (l := 90) rfl SubG.nil), ?_, rfl, rfl⟩
      exact ⟨_, rfl, rfl⟩
theorem C_slices_Concat_byte_byte (yss : List (List Tr)) (h : yss.flatten.length ≤ 140737488355328) : ACalls Tryz.prog 232 [.tr (.sl 1 (yss.map (Tr.sl 1)))] ([]) ([]) (fun r G => r = .tr (.sl 1 yss.flatten) ∧ G = []) := by
  refine acalls_of_body 36 [] Tryz.func232 rfl (by kernel_rfl) Tryz.ntmps232 (Nat.le_of_ble_eq_true rfl) rfl ?_
  refine AW.seq ?_
  refine AW.region ?_
  refine AL.pure rfl rfl (by decide) (P_assign rfl) ?_
  refine AL.nil ?_
  refine Then.go ?_
  refine AW.seq ?_
  refine AW.region ?_
  refine AL.pure rfl rfl (by decide) (P_assign rfl) ?_
  refine AL.nil ?_
  refine Then.go ?_
  refine AW.seq ?_
  refine AW.seq ?_
  refine AW.region ?_
  refine AL.pure rfl rfl (by decide) (P_move rfl) ?_
  refine AL_lenM rfl rfl (by decide) ty242 rfl fun h1 => ?_
  try simp only [bs_length, List.length_map, List.length_append, List.length_replicate, List.length_cons, List.length_nil, List.length_take, List.length_set] at h1
  refine AL.pure rfl rfl (by decide) (P_move rfl) ?_
  refine AL.nil ?_
  refine Then.go ?_
  refine AW.block ?_
  refine AW.loopK (σ := Nat) [2] [] (.cons rfl .nil) .nil rfl (fun i => [(9, .tr (.sl 1 (yss.map (Tr.sl 1)))), (10, vI .i64 (yss.length : Nat)), (11, vI .i64 (i : Nat)), (3, vI .i64 ((yss.take i).flatten.length : Nat)), (0, .tr (.sl 1 (yss.map (Tr.sl 1))))]) (fun i => []) (fun i => i ≤ yss.length) (fun i => yss.length - i) (0) ?_ ?_ ?_ ?_
  · skip
    simp
  · skip
    refine SubT.cons' (by decide) rfl ?_ ?_
    · skip
      rfl
    refine SubT.cons' (by decide) rfl ?_ ?_
    · skip
      simp only [List.length_map]
    refine SubT.cons' (by decide) rfl ?_ ?_
    · skip
      rfl
    refine SubT.cons' (by decide) rfl ?_ ?_
    · skip
      rfl
    refine SubT.cons' (by decide) rfl ?_ ?_
    · skip
      rfl
    exact SubT.nil
  · skip
    exact SubG.nil
  · rintro i hs
    try dsimp only at hs
    dsimp only [List.cons_append, List.nil_append]
    have hle := flat_le yss i; have hle2 := flat_le yss (i + 1)
    refine AW.seq ?_
    refine AW.region ?_
    refine AL.pure rfl rfl (by decide) (P_lss rfl rfl) ?_
    refine AL.nil ?_
    refine Then.go ?_
    refine AW.seq ?_
    refine AW.condD _ rfl ?_ ?_
    · intro h2
      rw [flat_take (by omega), List.length_append] at hle2
      refine AW.skip ?_
      refine Then.go ?_
      refine AW.seq ?_
      refine AW.block ?_
      refine AW.seq ?_
      refine AW.region ?_
      refine AL.pure rfl rfl (by decide) (P_indexSl ty242 ty26 rfl rfl (by exact cat_at (by omega)) (by rfl)) ?_
      refine AL.pure rfl rfl (by decide) (P_loadR ty26 rfl rfl rfl) ?_
      refine AL.pure rfl rfl (by decide) (P_assign rfl) ?_
      refine AL.nil ?_
      refine Then.go ?_
      refine AW.seq ?_
      refine AW.region ?_
      refine AL.pure rfl rfl (by decide) (P_move rfl) ?_
      refine AL.pure rfl rfl (by decide) (P_move rfl) ?_
      refine AL_lenSl rfl rfl (by decide) ty26 rfl fun h3 => ?_
      try simp only [bs_length, List.length_map, List.length_append, List.length_replicate, List.length_cons, List.length_nil, List.length_take, List.length_set] at h3
      refine AL.pure rfl rfl (by decide) (P_addN rfl rfl (by omega) (by omega)) ?_
      refine AL.pure rfl rfl (by decide) (P_assign rfl) ?_
      refine AL.nil ?_
      refine Then.go ?_
      refine AW.seq ?_
      refine AW.region ?_
      refine AL.pure rfl rfl (by decide) (P_move rfl) ?_
      refine AL.pure rfl rfl (by decide) (P_lss rfl rfl) ?_
      refine AL.nil ?_
      refine Then.go ?_
      refine AW.condD _ rfl ?_ ?_
      · intro h4
        exfalso; omega
      · intro h4
        refine AW.skip ?_
        refine InBlock.go ?_
        refine Then.go ?_
        refine AW.region ?_
        refine AL.pure rfl rfl (by decide) (P_addN rfl rfl (by omega) (by omega)) ?_
        refine AL.pure rfl rfl (by decide) (P_move rfl) ?_
        refine AL.nil ?_
        refine Round.go (i + 1) ?_ ?_ ?_ ?_
        · try dsimp only
          omega
        · try dsimp only
          omega
        · skip
          refine SubT.cons' (by decide) rfl ?_ ?_
          · skip
            rfl
          refine SubT.cons' (by decide) rfl ?_ ?_
          · skip
            rfl
          refine SubT.cons' (by decide) rfl ?_ ?_
          · skip
            rfl
          refine SubT.cons' (by decide) rfl ?_ ?_
          · skip
            exact vI_congr (by rw [flat_take (by omega), List.length_append]; omega)
          refine SubT.cons' (by decide) rfl ?_ ?_
          · skip
            rfl
          exact (SubT.cons (by decide) rfl SubT.nil)
        · skip
          exact SubG.nil
    · intro h2
      refine AW.exit ?_
      refine Then.e ?_
      refine Round.e ?_
      refine InBlock.e ?_
      refine Then.go ?_
      refine AW.seq ?_
      refine AW.region ?_
      refine AL.pure rfl rfl (by decide) (P_move rfl) ?_
      refine AL.call (C_slices_Grow_byte_byte _ (by omega) (by have := flat_le yss i; omega) ) _ [] [] _ rfl (by decide) rfl rfl rfl SubG.nil ?_
      rintro _ _ ⟨zs, rfl, rfl⟩
      refine ⟨rfl, rfl, ?_⟩
      refine AL.pure rfl rfl (by decide) (P_assign rfl) ?_
      refine AL.nil ?_
      refine Then.go ?_
      refine AW.seq ?_
      refine AW.seq ?_
      refine AW.region ?_
      refine AL.pure rfl rfl (by decide) (P_move rfl) ?_
      refine AL_lenM rfl rfl (by decide) ty242 rfl fun h5 => ?_
      try simp only [bs_length, List.length_map, List.length_append, List.length_replicate, List.length_cons, List.length_nil, List.length_take, List.length_set] at h5
      refine AL.pure rfl rfl (by decide) (P_move rfl) ?_
      refine AL.nil ?_
      refine Then.go ?_
      refine AW.block ?_
      refine AW.loopK (σ := Nat × Nat × List Tr) [2] [] (.cons rfl .nil) .nil rfl (fun (i, m, xs) => [(25, .tr (.sl 1 (yss.map (Tr.sl 1)))), (26, vI .i64 (yss.length : Nat)), (27, vI .i64 (i : Nat)), (6, .own 1 90 0 m)]) (fun (i, m, xs) => [(90, .els 5 1 xs)]) (fun (i, m, xs) => i ≤ yss.length ∧ m ≤ xs.length ∧ xs.take m = (yss.take i).flatten ∧ m = (yss.take i).flatten.length) (fun (i, m, xs) => yss.length - i) ((0, 0, zs)) ?_ ?_ ?_ ?_
      · skip
        simp
      · skip
        refine SubT.cons' (by decide) rfl ?_ ?_
        · skip
          rfl
        refine SubT.cons' (by decide) rfl ?_ ?_
        · skip
          simp only [List.length_map]
        refine SubT.cons' (by decide) rfl ?_ ?_
        · skip
          rfl
        refine SubT.cons' (by decide) rfl ?_ ?_
        · skip
          rfl
        exact SubT.nil
      · skip
        refine SubG.cons' rfl ?_ ?_
        · skip
          rfl
        exact SubG.nil
      · rintro ⟨i, m, xs⟩ hs
        try dsimp only at hs
        dsimp only [List.cons_append, List.nil_append]
        obtain ⟨i0, i1, i2, i3⟩ := hs
        have hle := flat_le yss i; have hle2 := flat_le yss (i + 1)
        refine AW.seq ?_
        refine AW.region ?_
        refine AL.pure rfl rfl (by decide) (P_lss rfl rfl) ?_
        refine AL.nil ?_
        refine Then.go ?_
        refine AW.seq ?_
        refine AW.condD _ rfl ?_ ?_
        · intro h6
          rw [flat_take (by omega), List.length_append] at hle2
          refine AW.skip ?_
          refine Then.go ?_
          refine AW.seq ?_
          refine AW.block ?_
          refine AW.seq ?_
          refine AW.region ?_
          refine AL.pure rfl rfl (by decide) (P_indexSl ty242 ty26 rfl rfl (by exact cat_at (by omega)) (by rfl)) ?_
          refine AL.pure rfl rfl (by decide) (P_loadR ty26 rfl rfl rfl) ?_
          refine AL.pure rfl rfl (by decide) (P_assign rfl) ?_
          refine AL.nil ?_
          refine Then.go ?_
          refine AW.region ?_
          refine AL.pure rfl rfl (by decide) (P_move rfl) ?_
          refine AL.pure rfl rfl (by decide) (P_move rfl) ?_
          refine AL.eff rfl rfl (by decide) (E_append ty26 ty5 tz5 tb5 rfl rfl rfl rfl rfl (by omega) (by omega)) ?_
          refine AL.pure rfl rfl (by decide) (P_assign rfl) ?_
          refine AL.nil ?_
          refine InBlock.go ?_
          refine Then.go ?_
          refine AW.region ?_
          refine AL.pure rfl rfl (by decide) (P_addN rfl rfl (by omega) (by omega)) ?_
          refine AL.pure rfl rfl (by decide) (P_move rfl) ?_
          refine AL.nil ?_
          refine Round.go ((i + 1, m + (yss.getD i []).length, xs.take m ++ yss.getD i [])) ?_ ?_ ?_ ?_
          · try dsimp only
            refine ⟨by omega, by simp only [List.length_append, List.length_take]; omega, ?_, ?_⟩
            · rw [flat_take (by omega), List.take_of_length_le (by simp only [List.length_append, List.length_take]; omega), i2]
            · rw [flat_take (by omega), List.length_append]; omega
          · try dsimp only
            omega
          · skip
            refine SubT.cons' (by decide) rfl ?_ ?_
            · skip
              rfl
            refine SubT.cons' (by decide) rfl ?_ ?_
            · skip
              rfl
            refine SubT.cons' (by decide) rfl ?_ ?_
            · skip
              rfl
            refine SubT.cons' (by decide) rfl ?_ ?_
            · skip
              rfl
            exact (SubT.cons (by decide) rfl SubT.nil)
          · skip
            refine SubG.cons' rfl ?_ ?_
            · skip
              rfl
            exact SubG.nil
        · intro h6
          refine AW.exit ?_
          refine Then.e ?_
          refine Round.e ?_
          refine InBlock.e ?_
          refine Then.go ?_
          refine AW.seq ?_
          refine AW.region ?_
          refine AL.pure rfl rfl (by decide) (P_move rfl) ?_
          refine AL.pure rfl rfl (by decide) (P_assign rfl) ?_
          refine AL.letGo 2 90 0 rfl rfl rfl (by decide) rfl (by omega) ?_
          refine AL.nil ?_
          refine Then.go ?_
          refine AW.ret ?_
          refine ⟨(by exact .inr rfl), _, _, (.cons (.tmp rfl) .nil), SubG.nil, ?_, rfl, rfl⟩
          refine ⟨sl_congr ?_, rfl⟩
          have hi : i = yss.length := by omega
          rw [List.drop_zero, i2, hi, List.take_length]
theorem C_codec_Put (xs : List Tr) (v n : Nat) (hv : v < 18446744073709551616) (hn : n ≤ 8) (hx : xs.length ≤ 140737488355000) : ACalls Tryz.prog 230 [.tr (.sl 1 xs), vI .u64 (v : Nat), vI .i64 (n : Nat)] ([]) ([]) (fun r G => r = .tr (.sl 1 (xs ++ bs (leBytes n v))) ∧ G = []) := by
  refine acalls_of_body 31 [] Tryz.func230 rfl (by kernel_rfl) Tryz.ntmps230 (Nat.le_of_ble_eq_true rfl) rfl ?_
  refine AW.seq ?_
  refine AW.region ?_
  refine AL.pure rfl rfl (by decide) (P_assign rfl) ?_
  refine AL.nil ?_
  refine Then.go ?_
  refine AW.seq ?_
  refine AW.region ?_
  refine AL.pure rfl rfl (by decide) (P_move rfl) ?_
  refine AL.pure rfl rfl (by decide) (P_max rfl rfl) ?_
  refine AL.pure rfl rfl (by decide) (P_min rfl rfl) ?_
  refine AL.eff rfl rfl (by decide) (E_make 112 ty26 ty5 tz5 tb5 rfl rfl rfl (by omega) rfl rfl rfl) ?_
  refine AL.pure rfl rfl (by decide) (P_assign rfl) ?_
  refine AL.nil ?_
  refine Then.go ?_
  refine AW.seq ?_
  refine AW.seq ?_
  refine AW.region ?_
  refine AL.pure rfl rfl (by decide) (P_move rfl) ?_
  refine AL_lenOwn rfl rfl (by decide) ty26 rfl fun h1 => ?_
  try simp only [bs_length, List.length_map, List.length_append, List.length_replicate, List.length_cons, List.length_nil, List.length_take, List.length_set] at h1
  refine AL.pure rfl rfl (by decide) (P_move rfl) ?_
  refine AL.nil ?_
  refine Then.go ?_
  refine AW.block ?_
  refine AW.loopK (σ := Nat × List Tr) [6] [] (.cons rfl .nil) .nil rfl (fun (i, l) => [(0, .tr (.sl 1 xs)), (1, vI .u64 (v : Nat)), (7, .own 1 112 0 n), (14, vI .i64 (n : Nat)), (15, vI .i64 (i : Nat))]) (fun (i, l) => [(112, .els 5 1 l)]) (fun (i, l) => i ≤ n ∧ l.length = n ∧ l = bs ((leBytes n v).take i) ++ List.replicate (n - i) z8) (fun (i, l) => n - i) ((0, List.replicate n z8)) ?_ ?_ ?_ ?_
  · skip
    simp
  · skip
    refine SubT.cons' (by decide) rfl ?_ ?_
    · skip
      rfl
    refine SubT.cons' (by decide) rfl ?_ ?_
    · skip
      rfl
    refine SubT.cons' (by decide) rfl ?_ ?_
    · skip
      exact own_congr (by omega)
    refine SubT.cons' (by decide) rfl ?_ ?_
    · skip
      exact vI_congr (by omega)
    refine SubT.cons' (by decide) rfl ?_ ?_
    · skip
      rfl
    exact SubT.nil
  · skip
    refine SubG.cons' rfl ?_ ?_
    · skip
      exact els_congr (by congr 1; omega)
    exact SubG.nil
  · rintro ⟨i, l⟩ hs
    try dsimp only at hs
    dsimp only [List.cons_append, List.nil_append]
    obtain ⟨i0, i1, i2⟩ := hs
    refine AW.seq ?_
    refine AW.region ?_
    refine AL.pure rfl rfl (by decide) (P_lss rfl rfl) ?_
    refine AL.nil ?_
    refine Then.go ?_
    refine AW.seq ?_
    refine AW.condD _ rfl ?_ ?_
    · intro h2
      refine AW.skip ?_
      refine Then.go ?_
      refine AW.seq ?_
      refine AW.block ?_
      refine AW.seq ?_
      refine AW.region ?_
      refine AL.pure rfl rfl (by decide) (P_move rfl) ?_
      refine AL.pure rfl rfl (by decide) (P_assign rfl) ?_
      refine AL.nil ?_
      refine Then.go ?_
      refine AW.region ?_
      refine AL.pure rfl rfl (by decide) (P_move rfl) ?_
      refine AL.pure rfl rfl (by decide) (P_move rfl) ?_
      refine AL.pure rfl rfl (by decide) (P_move rfl) ?_
      refine AL.pure rfl rfl (by decide) (P_move rfl) ?_
      refine AL.pure rfl rfl (by decide) (P_mulN rfl rfl (by omega) (by omega)) ?_
      refine AL.pure rfl rfl (by decide) (P_shr rfl rfl (by omega)) ?_
      refine AL.pure rfl rfl (by decide) (P_convI ty258 ty5 rfl) ?_
      refine AL.pure rfl rfl (by decide) (P_indexOwn1 ty26 ty5 rfl rfl (by omega)) ?_
      refine AL.eff0 rfl rfl (E_storeE1 ty5 rfl rfl rfl rfl (by omega) rfl) ?_
      refine AL.nil ?_
      refine InBlock.go ?_
      refine Then.go ?_
      refine AW.region ?_
      refine AL.pure rfl rfl (by decide) (P_addN rfl rfl (by omega) (by omega)) ?_
      refine AL.pure rfl rfl (by decide) (P_move rfl) ?_
      refine AL.nil ?_
      refine Round.go ((i + 1, bs ((leBytes n v).take (i + 1)) ++ List.replicate (n - (i + 1)) z8)) ?_ ?_ ?_ ?_
      · try dsimp only
        refine ⟨by omega, ?_, rfl⟩
        rw [← put_step (by omega) _ rfl, ← i2]; simp [i1]
      · try dsimp only
        omega
      · skip
        refine SubT.cons' (by decide) rfl ?_ ?_
        · skip
          rfl
        refine SubT.cons' (by decide) rfl ?_ ?_
        · skip
          rfl
        refine SubT.cons' (by decide) rfl ?_ ?_
        · skip
          rfl
        refine SubT.cons' (by decide) rfl ?_ ?_
        · skip
          rfl
        refine SubT.cons' (by decide) rfl ?_ ?_
        · skip
          rfl
        exact (SubT.cons (by decide) rfl SubT.nil)
      · skip
        refine SubG.cons' rfl ?_ ?_
        · skip
          refine els_congr ?_
          rw [← put_step (by omega) (.val (.int .u8 (IntKind.u8.wrap ((v : Int).fdiv (2 ^ min (8 * (i : Int)).toNat IntKind.u64.bits))))) ?_, ← i2]
          have hm : min (8 * (i : Int)).toNat IntKind.u64.bits = 8 * i := by simp only [IntKind.bits]; omega
          rw [hm, Int.fdiv_eq_ediv_of_nonneg _ (by exact_mod_cast Nat.zero_le (2 ^ (8 * i))), ← byte_of]
        exact SubG.nil
    · intro h2
      refine AW.exit ?_
      refine Then.e ?_
      refine Round.e ?_
      refine InBlock.e ?_
      refine Then.go ?_
      refine AW.seq ?_
      refine AW.region ?_
      refine AL.letGo 7 112 0 rfl rfl rfl (by decide) rfl (by omega) ?_
      refine AL.pure rfl rfl (by decide) (P_move rfl) ?_
      refine AL.pure rfl rfl (by decide) (P_move rfl) ?_
      refine AL.mk rfl rfl (by decide) (E_lit ty242 ty26 tz26 rfl rfl) ?_
      refine AL.call (C_slices_Concat_byte_byte [xs, (l.drop 0).take n] (by simp; omega) ) _ [] [] _ rfl (by decide) rfl rfl rfl SubG.nil ?_
      rintro _ _ ⟨rfl, rfl⟩
      refine ⟨rfl, rfl, ?_⟩
      refine AL.pure rfl rfl (by decide) (P_assign rfl) ?_
      refine AL.nil ?_
      refine Then.go ?_
      refine AW.ret ?_
      refine ⟨(by exact .inr rfl), _, _, (.cons (.tmp rfl) .nil), SubG.nil, ?_, rfl, rfl⟩
      refine ⟨sl_congr ?_, rfl⟩
      have hi : i = n := by omega
      subst hi
      simp [i2, leBytes_length, List.take_of_length_le]
end Go.Proofs.YtmakeajjgjnldaaGreatDoor
