/- Walks, part 6: inodes and deeds as bytes. -/
import Derived.Test.YtmakeajjgjnldaaGreatDoorS5
set_option linter.unusedVariables false
set_option linter.unusedSimpArgs false
set_option maxRecDepth 100000
namespace Go.Proofs.YtmakeajjgjnldaaGreatDoor
open Go Go.Ab

abbrev edz : En := ⟨⟨#[]⟩, 0⟩
abbrev rnz : Rn := ⟨0, 0, 0⟩
abbrev ddz : Dd := ⟨0, 0, Ino.z⟩
structure InoOk (x : Ino) : Prop where
  no : x.no ≤ 9223372036854775807
  kind : x.kind ≤ 9223372036854775807
  links : x.links ≤ 9223372036854775807
  size : x.size ≤ 9223372036854775807
  tgt : x.target.size ≤ 100000
  ne : x.ents.length ≤ 1000
  en : ∀ e ∈ x.ents, e.name.size ≤ 100000 ∧ e.no ≤ 9223372036854775807
  nr : x.runs.length ≤ 1000
  rn : ∀ r ∈ x.runs, r.fr ≤ 9223372036854775807 ∧ r.at_ ≤ 9223372036854775807 ∧ r.ct ≤ 9223372036854775807
theorem strl (s : ByteArray) : s.data.toList.length = s.size := by simp
theorem txtB_length (s : ByteArray) : (txtB s).length = 4 + s.size := by have : s.data.size = s.size := rfl; simp [txtB, leBytes_length]

theorem tz3 : TyZ Tryz.prog 3 (.int .i64 0) := ⟨by kernel_rfl⟩
theorem ty82 : TyIs Tryz.prog 82 (.slice 136) 1 := ⟨Tryz.underlying82, by kernel_rfl⟩
theorem ty83 : TyIs Tryz.prog 83 (.slice 139) 1 := ⟨Tryz.underlying83, by kernel_rfl⟩
abbrev fs84 : Array Field := #[⟨ "No", 3, 0, false, "", "", 0⟩, ⟨ "Kind", 3, 1, false, "", "", 8⟩, ⟨ "Links", 3, 2, false, "", "", 16⟩, ⟨ "Size", 3, 3, false, "", "", 24⟩, ⟨ "Target", 9, 4, false, "", "", 32⟩, ⟨ "Entries", 82, 5, false, "", "", 48⟩, ⟨ "Runs", 83, 6, false, "", "", 72⟩]
theorem ty85 : TyIs Tryz.prog 85 (.struct fs84) 7 := ⟨Tryz.underlying85, by kernel_rfl⟩
theorem ty130 : TyIs Tryz.prog 130 (.slice 132) 1 := ⟨Tryz.underlying130, by kernel_rfl⟩
abbrev fs131 : Array Field := #[⟨ "Kind", 3, 0, false, "", "", 0⟩, ⟨ "No", 3, 1, false, "", "", 8⟩, ⟨ "Inode", 85, 2, false, "", "", 16⟩]
theorem ty132 : TyIs Tryz.prog 132 (.struct fs131) 9 := ⟨Tryz.underlying132, by kernel_rfl⟩
theorem tz132 : TyZ Tryz.prog 132 (.agg #[.int .i64 0, .int .i64 0, .int .i64 0, .int .i64 0, .int .i64 0, .int .i64 0, .string ⟨#[]⟩, .slice none 0 0, .slice none 0 0]) := ⟨by kernel_rfl⟩
abbrev fs135 : Array Field := #[⟨ "Name", 9, 0, false, "", "", 0⟩, ⟨ "No", 3, 1, false, "", "", 16⟩]
theorem ty136 : TyIs Tryz.prog 136 (.struct fs135) 2 := ⟨Tryz.underlying136, by kernel_rfl⟩
theorem tz136 : TyZ Tryz.prog 136 (.agg #[.string ⟨#[]⟩, .int .i64 0]) := ⟨by kernel_rfl⟩
abbrev fs138 : Array Field := #[⟨ "From", 3, 0, false, "", "", 0⟩, ⟨ "At", 3, 1, false, "", "", 8⟩, ⟨ "Count", 3, 2, false, "", "", 16⟩]
theorem ty139 : TyIs Tryz.prog 139 (.struct fs138) 3 := ⟨Tryz.underlying139, by kernel_rfl⟩
theorem tz139 : TyZ Tryz.prog 139 (.agg #[.int .i64 0, .int .i64 0, .int .i64 0]) := ⟨by kernel_rfl⟩

theorem C_pack_inode (acc : List UInt8) (x : Ino) (hx : InoOk x) (ha : acc.length ≤ 10000000000000) : ACalls Tryz.prog 231 [sB acc, .tr x.t] ([]) ([]) (fun r G => r = sB (acc ++ inoB x) ∧ G = []) := by
  obtain ⟨x1, x2, x3, x4, x5, x6, x7, x8, x9⟩ := hx
  refine acalls_of_body 68 [] Tryz.func231 rfl (by kernel_rfl) Tryz.ntmps231 (Nat.le_of_ble_eq_true rfl) rfl ?_
  refine AW.seq ?_
  refine AW.region ?_
  refine AL.eff rfl rfl (by decide) (E_box 103 rfl rfl rfl rfl rfl rfl) ?_
  refine AL.pure rfl rfl (by decide) (P_assign rfl) ?_
  refine AL.nil ?_
  refine Then.go ?_
  refine AW.seq ?_
  refine AD.start ?_
  refine AD.op 0 9 [] _ rfl rfl rfl (B_pure (P_move rfl)) ?_
  refine AD.op 1 10 [] _ rfl rfl rfl (B_pure (P_fieldAddr ty85 rfl ty3 rfl)) ?_
  refine AD.op 2 11 [1] _ rfl rfl rfl (B_pure (P_load ty3 rfl rfl rfl rfl)) ?_
  refine AD.op 3 12 [] _ rfl rfl rfl (B_pure (P_fieldAddr ty85 rfl ty3 rfl)) ?_
  refine AD.op 4 13 [3] _ rfl rfl rfl (B_pure (P_load ty3 rfl rfl rfl rfl)) ?_
  refine AD.op 5 14 [] _ rfl rfl rfl (B_pure (P_fieldAddr ty85 rfl ty3 rfl)) ?_
  refine AD.op 6 15 [5] _ rfl rfl rfl (B_pure (P_load ty3 rfl rfl rfl rfl)) ?_
  refine AD.op 7 16 [] _ rfl rfl rfl (B_pure (P_fieldAddr ty85 rfl ty3 rfl)) ?_
  refine AD.op 8 17 [7] _ rfl rfl rfl (B_pure (P_load ty3 rfl rfl rfl rfl)) ?_
  refine AD.op 9 18 [1, 2, 3, 4, 5, 6, 7, 8] _ rfl rfl rfl (B_lit ty36 ty3 tz3 rfl rfl) ?_
  refine AD.op 10 19 [0, 1, 2, 3, 4, 5, 6, 7, 8, 9] _ rfl rfl rfl (B_call0 (C_pack_ints acc [x.no, x.kind, x.links, x.size] (by simp) (by simp [*]) (by omega) ) _ rfl rfl (by rintro _ _ ⟨rfl, rfl⟩; exact ⟨rfl, rfl⟩)) ?_
  refine AD.op 11 20 [] _ rfl rfl rfl (B_pure (P_fieldAddr ty85 rfl ty9 rfl)) ?_
  refine AD.op 12 21 [11] _ rfl rfl rfl (B_pure (P_load ty9 rfl rfl rfl rfl)) ?_
  refine AD.tail mixed rfl (by kernel_rfl) rfl ?_
  refine AL.call (C_codec_PutText (bs (acc ++ [x.no, x.kind, x.links, x.size].flatMap (leBytes 8))) x.target (by omega) (by simp [leBytes_length]; omega) ) _ [] [] _ rfl (by decide) rfl rfl rfl SubG.nil ?_
  rintro _ _ ⟨rfl, rfl⟩
  refine ⟨rfl, rfl, ?_⟩
  refine AL.pure rfl rfl (by decide) (P_assign rfl) ?_
  refine AL.nil ?_
  refine Then.go ?_
  refine AW.seq ?_
  refine AW.region ?_
  refine AL.pure rfl rfl (by decide) (P_move rfl) ?_
  refine AL.pure rfl rfl (by decide) (P_fieldAddr ty85 rfl ty82 rfl) ?_
  refine AL.pure rfl rfl (by decide) (P_load ty82 rfl rfl rfl rfl) ?_
  refine AL_lenM rfl rfl (by decide) ty82 rfl fun h1 => ?_
  try simp only [bs_length, List.length_map, List.length_append, List.length_replicate, List.length_cons, List.length_nil, List.length_take, List.length_set] at h1
  refine AL.pure rfl rfl (by decide) (P_conv_u64 ty3 ty258 rfl (by omega) (by omega)) ?_
  refine AL.call (C_codec_Put _ x.ents.length 4 (by omega) (by omega) (by have := txtB_length x.target; simp [leBytes_length, txtB] at this ⊢; omega) ) _ [] [] _ rfl (by decide) rfl rfl rfl SubG.nil ?_
  rintro _ _ ⟨rfl, rfl⟩
  refine ⟨rfl, rfl, ?_⟩
  refine AL.pure rfl rfl (by decide) (P_assign rfl) ?_
  refine AL.nil ?_
  refine Then.go ?_
  refine AW.seq ?_
  refine AW.seq ?_
  refine AW.region ?_
  refine AL.pure rfl rfl (by decide) (P_fieldAddr ty85 rfl ty82 rfl) ?_
  refine AL.pure rfl rfl (by decide) (P_load ty82 rfl rfl rfl rfl) ?_
  refine AL_lenM rfl rfl (by decide) ty82 rfl fun h2 => ?_
  try simp only [bs_length, List.length_map, List.length_append, List.length_replicate, List.length_cons, List.length_nil, List.length_take, List.length_set] at h2
  refine AL.pure rfl rfl (by decide) (P_move rfl) ?_
  refine AL.nil ?_
  refine Then.go ?_
  refine AW.block ?_
  refine AW.loopK (σ := Nat × List UInt8) [4] [] (.cons rfl .nil) .nil rfl (fun (i, a) => [(30, .tr (.sl 2 (x.ents.map En.t))), (31, vI .i64 (x.ents.length : Nat)), (32, vI .i64 (i : Nat)), (0, sB a), (3, .ptr 103 0)]) (fun (i, a) => [(103, .row 85 (x.c.map .tr))]) (fun (i, a) => i ≤ x.ents.length ∧ a.length ≤ 10000001000000 + 100012 * i ∧ a = (((acc ++ [x.no, x.kind, x.links, x.size].flatMap (leBytes 8)) ++ txtB x.target) ++ leBytes 4 x.ents.length) ++ (x.ents.take i).flatMap entB) (fun (i, a) => x.ents.length - i) ((0, (((acc ++ [x.no, x.kind, x.links, x.size].flatMap (leBytes 8)) ++ txtB x.target) ++ leBytes 4 x.ents.length))) ?_ ?_ ?_ ?_
  · skip
    have := txtB_length x.target
    simp [leBytes_length] at this ⊢
    omega
  · skip
    refine SubT.cons' (by decide) rfl ?_ ?_
    · skip
      rfl
    refine SubT.cons' (by decide) rfl ?_ ?_
    · skip
      rfl
    refine SubT.cons' (by decide) rfl ?_ ?_
    · skip
      rfl
    refine SubT.cons' (by decide) rfl ?_ ?_
    · skip
      exact sl_congr (by simp [bs, txtB])
    refine SubT.cons' (by decide) rfl ?_ ?_
    · skip
      rfl
    exact SubT.nil
  · skip
    refine SubG.cons' rfl ?_ ?_
    · skip
      rfl
    exact SubG.nil
  · rintro ⟨i, a⟩ hs
    try dsimp only at hs
    dsimp only [List.cons_append, List.nil_append]
    obtain ⟨i0, i1, i2⟩ := hs
    refine AW.seq ?_
    refine AW.region ?_
    refine AL.pure rfl rfl (by decide) (P_lss rfl rfl) ?_
    refine AL.nil ?_
    refine Then.go ?_
    refine AW.seq ?_
    refine AW.condD _ rfl ?_ ?_
    · intro h3
      have hm := x7 _ (getD_mem edz (show i < x.ents.length by omega))
      refine AW.skip ?_
      refine Then.go ?_
      refine AW.seq ?_
      refine AW.block ?_
      refine AW.seq ?_
      refine AW.region ?_
      refine AL.pure rfl rfl (by decide) (P_indexSl ty82 ty136 rfl rfl (by exact map_at edz (by omega)) (by rfl)) ?_
      refine AL.pure rfl rfl (by decide) (P_loadAR ty136 rfl rfl (Nat.le_of_ble_eq_true rfl)) ?_
      refine AL.eff rfl rfl (by decide) (E_alloc 106 tz136 rfl rfl rfl) ?_
      refine AL.eff0 rfl rfl (E_store ty136 rfl rfl rfl rfl rfl (Nat.le_of_ble_eq_true rfl)) ?_
      refine AL.nil ?_
      refine Then.go ?_
      refine AD.start ?_
      refine AD.op 0 36 [] _ rfl rfl rfl (B_pure (P_move rfl)) ?_
      refine AD.op 1 37 [] _ rfl rfl rfl (B_pure (P_fieldAddr ty136 rfl ty9 rfl)) ?_
      refine AD.op 2 38 [1] _ rfl rfl rfl (B_pure (P_load ty9 rfl rfl rfl rfl)) ?_
      refine AD.op 3 39 [0, 1, 2] _ rfl rfl rfl (B_call0 (C_codec_PutText (bs a) (x.ents.getD i edz).name (by omega) (by simp; omega) ) _ rfl rfl (by rintro _ _ ⟨rfl, rfl⟩; exact ⟨rfl, rfl⟩)) ?_
      refine AD.op 4 40 [] _ rfl rfl rfl (B_pure (P_fieldAddr ty136 rfl ty3 rfl)) ?_
      refine AD.op 5 41 [4] _ rfl rfl rfl (B_pure (P_load ty3 rfl rfl rfl rfl)) ?_
      refine AD.tail mixed rfl (by kernel_rfl) rfl ?_
      refine AL.call (C_codec_PutInt _ (x.ents.getD i edz).no (by omega) (by simp only [List.length_append, bs_length, leBytes_length, strl]; omega) ) _ [] [] _ rfl (by decide) rfl rfl rfl SubG.nil ?_
      rintro _ _ ⟨rfl, rfl⟩
      refine ⟨rfl, rfl, ?_⟩
      refine AL.pure rfl rfl (by decide) (P_assign rfl) ?_
      refine AL.nil ?_
      refine InBlock.go ?_
      refine Then.go ?_
      refine AW.region ?_
      refine AL.pure rfl rfl (by decide) (P_addN rfl rfl (by omega) (by omega)) ?_
      refine AL.pure rfl rfl (by decide) (P_move rfl) ?_
      refine AL.nil ?_
      refine Round.go ((i + 1, a ++ entB (x.ents.getD i edz))) ?_ ?_ ?_ ?_
      · try dsimp only
        have := txtB_length (x.ents.getD i edz).name
        refine ⟨by omega, by simp only [List.length_append, entB, leBytes_length]; omega, ?_⟩
        rw [take_succ_flatMap _ edz (by omega), i2, List.append_assoc]
      · try dsimp only
        omega
      · skip
        refine SubT.cons' (by decide) rfl ?_ ?_
        · skip
          rfl
        refine SubT.cons' (by decide) rfl ?_ ?_
        · skip
          rfl
        refine SubT.cons' (by decide) rfl ?_ ?_
        · skip
          rfl
        refine SubT.cons' (by decide) rfl ?_ ?_
        · skip
          exact sl_congr (by simp [bs, entB, txtB])
        refine SubT.cons' (by decide) rfl ?_ ?_
        · skip
          rfl
        exact (SubT.cons (by decide) rfl SubT.nil)
      · skip
        refine SubG.cons' rfl ?_ ?_
        · skip
          rfl
        exact SubG.nil
    · intro h3
      refine AW.exit ?_
      refine Then.e ?_
      refine Round.e ?_
      refine InBlock.e ?_
      refine Then.go ?_
      refine AW.seq ?_
      refine AW.region ?_
      refine AL.pure rfl rfl (by decide) (P_move rfl) ?_
      refine AL.pure rfl rfl (by decide) (P_fieldAddr ty85 rfl ty83 rfl) ?_
      refine AL.pure rfl rfl (by decide) (P_load ty83 rfl rfl rfl rfl) ?_
      refine AL_lenM rfl rfl (by decide) ty83 rfl fun h4 => ?_
      try simp only [bs_length, List.length_map, List.length_append, List.length_replicate, List.length_cons, List.length_nil, List.length_take, List.length_set] at h4
      refine AL.pure rfl rfl (by decide) (P_conv_u64 ty3 ty258 rfl (by omega) (by omega)) ?_
      refine AL.call (C_codec_Put _ x.runs.length 4 (by omega) (by omega) (by simp; omega) ) _ [] [] _ rfl (by decide) rfl rfl rfl SubG.nil ?_
      rintro _ _ ⟨rfl, rfl⟩
      refine ⟨rfl, rfl, ?_⟩
      refine AL.pure rfl rfl (by decide) (P_assign rfl) ?_
      refine AL.nil ?_
      refine Then.go ?_
      refine AW.seq ?_
      refine AW.seq ?_
      refine AW.region ?_
      refine AL.pure rfl rfl (by decide) (P_fieldAddr ty85 rfl ty83 rfl) ?_
      refine AL.pure rfl rfl (by decide) (P_load ty83 rfl rfl rfl rfl) ?_
      refine AL_lenM rfl rfl (by decide) ty83 rfl fun h5 => ?_
      try simp only [bs_length, List.length_map, List.length_append, List.length_replicate, List.length_cons, List.length_nil, List.length_take, List.length_set] at h5
      refine AL.pure rfl rfl (by decide) (P_move rfl) ?_
      refine AL.nil ?_
      refine Then.go ?_
      refine AW.block ?_
      refine AW.loopK (σ := Nat × List UInt8) [4] [] (.cons rfl .nil) .nil rfl (fun (j, c) => [(51, .tr (.sl 3 (x.runs.map Rn.t))), (52, vI .i64 (x.runs.length : Nat)), (53, vI .i64 (j : Nat)), (0, sB c)]) (fun (j, c) => []) (fun (j, c) => j ≤ x.runs.length ∧ c.length ≤ 10000201000000 + 24 * j ∧ c = (a ++ leBytes 4 x.runs.length) ++ (x.runs.take j).flatMap runB) (fun (j, c) => x.runs.length - j) ((0, a ++ leBytes 4 x.runs.length)) ?_ ?_ ?_ ?_
      · skip
        simp [leBytes_length]
        omega
      · skip
        refine SubT.cons' (by decide) rfl ?_ ?_
        · skip
          rfl
        refine SubT.cons' (by decide) rfl ?_ ?_
        · skip
          rfl
        refine SubT.cons' (by decide) rfl ?_ ?_
        · skip
          rfl
        refine SubT.cons' (by decide) rfl ?_ ?_
        · skip
          exact sl_congr (by simp [bs])
        exact SubT.nil
      · skip
        exact SubG.nil
      · rintro ⟨j, c⟩ hs
        try dsimp only at hs
        dsimp only [List.cons_append, List.nil_append]
        obtain ⟨j0, j1, j2⟩ := hs
        refine AW.seq ?_
        refine AW.region ?_
        refine AL.pure rfl rfl (by decide) (P_lss rfl rfl) ?_
        refine AL.nil ?_
        refine Then.go ?_
        refine AW.seq ?_
        refine AW.condD _ rfl ?_ ?_
        · intro h6
          have hm := x9 _ (getD_mem rnz (show j < x.runs.length by omega))
          refine AW.skip ?_
          refine Then.go ?_
          refine AW.seq ?_
          refine AW.block ?_
          refine AW.seq ?_
          refine AW.region ?_
          refine AL.pure rfl rfl (by decide) (P_indexSl ty83 ty139 rfl rfl (by exact map_at rnz (by omega)) (by rfl)) ?_
          refine AL.pure rfl rfl (by decide) (P_loadAR ty139 rfl rfl (Nat.le_of_ble_eq_true rfl)) ?_
          refine AL.eff rfl rfl (by decide) (E_alloc 108 tz139 rfl rfl rfl) ?_
          refine AL.eff0 rfl rfl (E_store ty139 rfl rfl rfl rfl rfl (Nat.le_of_ble_eq_true rfl)) ?_
          refine AL.nil ?_
          refine Then.go ?_
          refine AW.region ?_
          refine AL.pure rfl rfl (by decide) (P_move rfl) ?_
          refine AL.pure rfl rfl (by decide) (P_fieldAddr ty139 rfl ty3 rfl) ?_
          refine AL.pure rfl rfl (by decide) (P_load ty3 rfl rfl rfl rfl) ?_
          refine AL.pure rfl rfl (by decide) (P_fieldAddr ty139 rfl ty3 rfl) ?_
          refine AL.pure rfl rfl (by decide) (P_load ty3 rfl rfl rfl rfl) ?_
          refine AL.pure rfl rfl (by decide) (P_fieldAddr ty139 rfl ty3 rfl) ?_
          refine AL.pure rfl rfl (by decide) (P_load ty3 rfl rfl rfl rfl) ?_
          refine AL.mk rfl rfl (by decide) (E_lit ty36 ty3 tz3 rfl rfl) ?_
          refine AL.call (C_pack_ints c [(x.runs.getD j rnz).fr, (x.runs.getD j rnz).at_, (x.runs.getD j rnz).ct] (by simp) (by simpa using hm) (by omega) ) _ [] [] _ rfl (by decide) rfl rfl rfl SubG.nil ?_
          rintro _ _ ⟨rfl, rfl⟩
          refine ⟨rfl, rfl, ?_⟩
          refine AL.pure rfl rfl (by decide) (P_assign rfl) ?_
          refine AL.nil ?_
          refine InBlock.go ?_
          refine Then.go ?_
          refine AW.region ?_
          refine AL.pure rfl rfl (by decide) (P_addN rfl rfl (by omega) (by omega)) ?_
          refine AL.pure rfl rfl (by decide) (P_move rfl) ?_
          refine AL.nil ?_
          refine Round.go ((j + 1, c ++ runB (x.runs.getD j rnz))) ?_ ?_ ?_ ?_
          · try dsimp only
            refine ⟨by omega, by simp only [List.length_append, runB, leBytes_length]; omega, ?_⟩
            rw [take_succ_flatMap _ rnz (by omega), j2, List.append_assoc]
          · try dsimp only
            omega
          · skip
            refine SubT.cons' (by decide) rfl ?_ ?_
            · skip
              rfl
            refine SubT.cons' (by decide) rfl ?_ ?_
            · skip
              rfl
            refine SubT.cons' (by decide) rfl ?_ ?_
            · skip
              rfl
            refine SubT.cons' (by decide) rfl ?_ ?_
            · skip
              exact sl_congr (by simp [bs, runB])
            exact (SubT.cons (by decide) rfl SubT.nil)
          · skip
            exact SubG.nil
        · intro h6
          refine AW.exit ?_
          refine Then.e ?_
          refine Round.e ?_
          refine InBlock.e ?_
          refine Then.go ?_
          refine AW.seq ?_
          refine AW.region ?_
          refine AL.pure rfl rfl (by decide) (P_move rfl) ?_
          refine AL.pure rfl rfl (by decide) (P_assign rfl) ?_
          refine AL.nil ?_
          refine Then.go ?_
          refine AW.ret ?_
          refine ⟨(by exact .inr rfl), _, _, (.cons (.tmp rfl) .nil), SubG.nil, ?_, rfl, rfl⟩
          refine ⟨sl_congr ?_, rfl⟩
          have hj : j = x.runs.length := by omega
          have hi : i = x.ents.length := by omega
          rw [j2, i2, hi, hj, List.take_length, List.take_length]
          simp [inoB]

theorem flatMap_len {α β : Type} (f : α → List β) (c : Nat) : ∀ l : List α, (∀ x ∈ l, (f x).length ≤ c) → (l.flatMap f).length ≤ l.length * c
  | [], _ => by simp
  | x :: l, h => by
    have := flatMap_len f c l fun y hy => h y (by simp [hy])
    have := h x (by simp)
    simp only [List.flatMap_cons, List.length_append, List.length_cons, Nat.succ_mul]; omega
theorem inoB_len {x : Ino} (h : InoOk x) : (inoB x).length ≤ 199999000 := by
  have h1 := flatMap_len entB 100012 x.ents (fun e he => by have := (h.en e he).1; have := txtB_length e.name; simp only [entB, List.length_append, leBytes_length]; omega)
  have h2 := flatMap_len runB 24 x.runs (fun r hr => by simp [runB, leBytes_length])
  have h3 := txtB_length x.target
  have := h.tgt; have := h.ne; have := h.nr
  have h4 : x.ents.length * 100012 ≤ 1000 * 100012 := Nat.mul_le_mul_right _ h.ne
  have h5 : x.runs.length * 24 ≤ 1000 * 24 := Nat.mul_le_mul_right _ h.nr
  simp only [inoB, List.length_append, leBytes_length]; omega
theorem ddB_len {d : Dd} (h : InoOk d.ino) : (ddB d).length ≤ 200000000 := by
  have := inoB_len h
  unfold ddB
  split
  · simp [leBytes_length]
  · split
    · simp only [List.length_append, leBytes_length]; omega
    · simp [leBytes_length]
def deedsB (l : List Dd) : List UInt8 := l.flatMap ddB

theorem C_pack_Deeds (l : List Dd) (hl : l.length ≤ 10000) (hd : ∀ d ∈ l, d.kind ≤ 9223372036854775807 ∧ d.no ≤ 9223372036854775807 ∧ InoOk d.ino) : ACalls Tryz.prog 177 [.tr (.sl 9 (l.map Dd.t))] ([]) ([]) (fun r G => r = sB (deedsB l) ∧ G = []) := by
  refine acalls_of_body 35 [] Tryz.func177 rfl (by kernel_rfl) Tryz.ntmps177 (Nat.le_of_ble_eq_true rfl) rfl ?_
  refine AW.seq ?_
  refine AW.region ?_
  refine AL.pure rfl rfl (by decide) (P_assign rfl) ?_
  refine AL.nil ?_
  refine Then.go ?_
  refine AW.seq ?_
  refine AW.region ?_
  refine AL.pure rfl rfl (by decide) (P_assign rfl) ?_
  refine AL.nilS 3 1 rfl ?_
  refine AL.nil ?_
  refine Then.go ?_
  refine AW.seq ?_
  refine AW.seq ?_
  refine AW.region ?_
  refine AL.pure rfl rfl (by decide) (P_move rfl) ?_
  refine AL_lenM rfl rfl (by decide) ty130 rfl fun h1 => ?_
  try simp only [bs_length, List.length_map, List.length_append, List.length_replicate, List.length_cons, List.length_nil, List.length_take, List.length_set] at h1
  refine AL.pure rfl rfl (by decide) (P_move rfl) ?_
  refine AL.nil ?_
  refine Then.go ?_
  refine AW.block ?_
  refine AW.loopK (σ := Nat × List UInt8) [2] [] (.cons rfl .nil) .nil rfl (fun (i, a) => [(6, .tr (.sl 9 (l.map Dd.t))), (7, vI .i64 (l.length : Nat)), (8, vI .i64 (i : Nat)), (3, sB a)]) (fun (i, a) => []) (fun (i, a) => i ≤ l.length ∧ a.length ≤ 200000000 * i ∧ a = (l.take i).flatMap ddB) (fun (i, a) => l.length - i) ((0, [])) ?_ ?_ ?_ ?_
  · skip
    simp
  · skip
    refine SubT.cons' (by decide) rfl ?_ ?_
    · skip
      rfl
    refine SubT.cons' (by decide) rfl ?_ ?_
    · skip
      rfl
    refine SubT.cons' (by decide) rfl ?_ ?_
    · skip
      rfl
    refine SubT.cons' (by decide) rfl ?_ ?_
    · skip
      rfl
    exact SubT.nil
  · skip
    exact SubG.nil
  · rintro ⟨i, a⟩ hs
    try dsimp only at hs
    dsimp only [List.cons_append, List.nil_append]
    obtain ⟨i0, i1, i2⟩ := hs
    refine AW.seq ?_
    refine AW.region ?_
    refine AL.pure rfl rfl (by decide) (P_lss rfl rfl) ?_
    refine AL.nil ?_
    refine Then.go ?_
    refine AW.seq ?_
    refine AW.condD _ rfl ?_ ?_
    · intro h2
      have hm := hd _ (getD_mem ddz (show i < l.length by omega))
      refine AW.skip ?_
      refine Then.go ?_
      refine AW.seq ?_
      refine AW.block ?_
      refine AW.seq ?_
      refine AW.region ?_
      refine AL.pure rfl rfl (by decide) (P_indexSl ty130 ty132 rfl rfl (by exact map_at ddz (by omega)) (by rfl)) ?_
      refine AL.pure rfl rfl (by decide) (P_loadAR ty132 rfl rfl (Nat.le_of_ble_eq_true rfl)) ?_
      refine AL.eff rfl rfl (by decide) (E_alloc 105 tz132 rfl rfl rfl) ?_
      refine AL.eff0 rfl rfl (E_store ty132 rfl rfl rfl rfl rfl (Nat.le_of_ble_eq_true rfl)) ?_
      refine AL.nil ?_
      refine Then.go ?_
      refine AW.seq ?_
      refine AW.region ?_
      refine AL.pure rfl rfl (by decide) (P_move rfl) ?_
      refine AL.pure rfl rfl (by decide) (P_fieldAddr ty132 rfl ty3 rfl) ?_
      refine AL.pure rfl rfl (by decide) (P_load ty3 rfl rfl rfl rfl) ?_
      refine AL.pure rfl rfl (by decide) (P_conv_u64 ty3 ty258 rfl (by omega) (by omega)) ?_
      refine AL.call (C_codec_Put (bs a) (l.getD i ddz).kind 1 (by omega) (by omega) (by simp; omega) ) _ [] [] _ rfl (by decide) rfl rfl rfl SubG.nil ?_
      rintro _ _ ⟨rfl, rfl⟩
      refine ⟨rfl, rfl, ?_⟩
      refine AL.pure rfl rfl (by decide) (P_assign rfl) ?_
      refine AL.nil ?_
      refine Then.go ?_
      refine AW.seq ?_
      refine AW.region ?_
      refine AL.pure rfl rfl (by decide) (P_fieldAddr ty132 rfl ty3 rfl) ?_
      refine AL.pure rfl rfl (by decide) (P_load ty3 rfl rfl rfl rfl) ?_
      refine AL.nil ?_
      refine Then.go ?_
      refine AW.block ?_
      refine AW.seq ?_
      refine AW.seq ?_
      refine AW.region ?_
      refine AL.pure rfl rfl (by decide) (P_eql rfl rfl) ?_
      refine AL.pure rfl rfl (by decide) (P_assign rfl) ?_
      refine AL.nil ?_
      refine Then.go ?_
      refine AW.condD _ rfl ?_ ?_
      · intro h3
        refine AW.skip ?_
        refine Then.go ?_
        refine AW.condD _ rfl ?_ ?_
        · intro h4
          refine AW.region ?_
          refine AL.pure rfl rfl (by decide) (P_move rfl) ?_
          refine AL.pure rfl rfl (by decide) (P_fieldAddr ty132 rfl ty3 rfl) ?_
          refine AL.pure rfl rfl (by decide) (P_load ty3 rfl rfl rfl rfl) ?_
          refine AL.call (C_codec_PutInt (bs a ++ bs (leBytes 1 (l.getD i ddz).kind)) (l.getD i ddz).no (by omega) (by simp [leBytes_length]; omega) ) _ [] [] _ rfl (by decide) rfl rfl rfl SubG.nil ?_
          rintro _ _ ⟨rfl, rfl⟩
          refine ⟨rfl, rfl, ?_⟩
          refine AL.pure rfl rfl (by decide) (P_assign rfl) ?_
          refine AL.nil ?_
          refine InBlock.go ?_
          refine InBlock.go ?_
          refine Then.go ?_
          refine AW.region ?_
          refine AL.pure rfl rfl (by decide) (P_addN rfl rfl (by omega) (by omega)) ?_
          refine AL.pure rfl rfl (by decide) (P_move rfl) ?_
          refine AL.nil ?_
          refine Round.go ((i + 1, a ++ ddB (l.getD i ddz))) ?_ ?_ ?_ ?_
          · try dsimp only
            have := ddB_len hm.2.2
            refine ⟨by omega, by simp only [List.length_append]; omega, ?_⟩
            rw [take_succ_flatMap _ ddz (by omega), i2]
          · try dsimp only
            omega
          · skip
            refine SubT.cons' (by decide) rfl ?_ ?_
            · skip
              rfl
            refine SubT.cons' (by decide) rfl ?_ ?_
            · skip
              rfl
            refine SubT.cons' (by decide) rfl ?_ ?_
            · skip
              rfl
            refine SubT.cons' (by decide) rfl ?_ ?_
            · skip
              (refine sl_congr ?_; rw [ddB, if_pos (by omega)]; simp [bs]; done)
            exact (SubT.cons (by decide) rfl SubT.nil)
          · skip
            exact SubG.nil
        · intro h4
          refine AW.seq ?_
          refine AW.region ?_
          refine AL.pure rfl rfl (by decide) (P_eql rfl rfl) ?_
          refine AL.pure rfl rfl (by decide) (P_assign rfl) ?_
          refine AL.nil ?_
          refine Then.go ?_
          refine AW.condD _ rfl ?_ ?_
          · intro h5
            refine AW.region ?_
            refine AL.pure rfl rfl (by decide) (P_move rfl) ?_
            refine AL.recast 29 (sB (a ++ leBytes 1 (l.getD i ddz).kind)) rfl (by simp [bs]) ?_
            refine AL.pure rfl rfl (by decide) (P_fieldAddr ty132 rfl ty85 rfl) ?_
            refine AL.pure rfl rfl (by decide) (P_loadA ty85 rfl rfl rfl (Nat.le_of_ble_eq_true rfl)) ?_
            refine AL.call (C_pack_inode (a ++ leBytes 1 (l.getD i ddz).kind) (l.getD i ddz).ino hm.2.2 (by simp [leBytes_length]; omega) ) _ [] [] _ rfl (by decide) rfl rfl rfl SubG.nil ?_
            rintro _ _ ⟨rfl, rfl⟩
            refine ⟨rfl, rfl, ?_⟩
            refine AL.pure rfl rfl (by decide) (P_assign rfl) ?_
            refine AL.nil ?_
            refine InBlock.go ?_
            refine InBlock.go ?_
            refine Then.go ?_
            refine AW.region ?_
            refine AL.pure rfl rfl (by decide) (P_addN rfl rfl (by omega) (by omega)) ?_
            refine AL.pure rfl rfl (by decide) (P_move rfl) ?_
            refine AL.nil ?_
            refine Round.go ((i + 1, a ++ ddB (l.getD i ddz))) ?_ ?_ ?_ ?_
            · try dsimp only
              have := ddB_len hm.2.2
              refine ⟨by omega, by simp only [List.length_append]; omega, ?_⟩
              rw [take_succ_flatMap _ ddz (by omega), i2]
            · try dsimp only
              omega
            · skip
              refine SubT.cons' (by decide) rfl ?_ ?_
              · skip
                rfl
              refine SubT.cons' (by decide) rfl ?_ ?_
              · skip
                rfl
              refine SubT.cons' (by decide) rfl ?_ ?_
              · skip
                rfl
              refine SubT.cons' (by decide) rfl ?_ ?_
              · skip
                (exfalso; omega)
              exact (SubT.cons (by decide) rfl SubT.nil)
            · skip
              exact SubG.nil
          · intro h5
            refine AW.skip ?_
            refine InBlock.go ?_
            refine InBlock.go ?_
            refine Then.go ?_
            refine AW.region ?_
            refine AL.pure rfl rfl (by decide) (P_addN rfl rfl (by omega) (by omega)) ?_
            refine AL.pure rfl rfl (by decide) (P_move rfl) ?_
            refine AL.nil ?_
            refine Round.go ((i + 1, a ++ ddB (l.getD i ddz))) ?_ ?_ ?_ ?_
            · try dsimp only
              have := ddB_len hm.2.2
              refine ⟨by omega, by simp only [List.length_append]; omega, ?_⟩
              rw [take_succ_flatMap _ ddz (by omega), i2]
            · try dsimp only
              omega
            · skip
              refine SubT.cons' (by decide) rfl ?_ ?_
              · skip
                rfl
              refine SubT.cons' (by decide) rfl ?_ ?_
              · skip
                rfl
              refine SubT.cons' (by decide) rfl ?_ ?_
              · skip
                rfl
              refine SubT.cons' (by decide) rfl ?_ ?_
              · skip
                (exfalso; omega)
              exact (SubT.cons (by decide) rfl SubT.nil)
            · skip
              exact SubG.nil
      · intro h3
        refine AW.seq ?_
        refine AW.region ?_
        refine AL.pure rfl rfl (by decide) (P_eql rfl rfl) ?_
        refine AL.pure rfl rfl (by decide) (P_assign rfl) ?_
        refine AL.nil ?_
        refine Then.go ?_
        refine AW.condD _ rfl ?_ ?_
        · intro h6
          refine AW.skip ?_
          refine Then.go ?_
          refine AW.condD _ rfl ?_ ?_
          · intro h7
            refine AW.region ?_
            refine AL.pure rfl rfl (by decide) (P_move rfl) ?_
            refine AL.pure rfl rfl (by decide) (P_fieldAddr ty132 rfl ty3 rfl) ?_
            refine AL.pure rfl rfl (by decide) (P_load ty3 rfl rfl rfl rfl) ?_
            refine AL.call (C_codec_PutInt (bs a ++ bs (leBytes 1 (l.getD i ddz).kind)) (l.getD i ddz).no (by omega) (by simp [leBytes_length]; omega) ) _ [] [] _ rfl (by decide) rfl rfl rfl SubG.nil ?_
            rintro _ _ ⟨rfl, rfl⟩
            refine ⟨rfl, rfl, ?_⟩
            refine AL.pure rfl rfl (by decide) (P_assign rfl) ?_
            refine AL.nil ?_
            refine InBlock.go ?_
            refine InBlock.go ?_
            refine Then.go ?_
            refine AW.region ?_
            refine AL.pure rfl rfl (by decide) (P_addN rfl rfl (by omega) (by omega)) ?_
            refine AL.pure rfl rfl (by decide) (P_move rfl) ?_
            refine AL.nil ?_
            refine Round.go ((i + 1, a ++ ddB (l.getD i ddz))) ?_ ?_ ?_ ?_
            · try dsimp only
              have := ddB_len hm.2.2
              refine ⟨by omega, by simp only [List.length_append]; omega, ?_⟩
              rw [take_succ_flatMap _ ddz (by omega), i2]
            · try dsimp only
              omega
            · skip
              refine SubT.cons' (by decide) rfl ?_ ?_
              · skip
                rfl
              refine SubT.cons' (by decide) rfl ?_ ?_
              · skip
                rfl
              refine SubT.cons' (by decide) rfl ?_ ?_
              · skip
                rfl
              refine SubT.cons' (by decide) rfl ?_ ?_
              · skip
                (refine sl_congr ?_; rw [ddB, if_pos (by omega)]; simp [bs]; done)
              exact (SubT.cons (by decide) rfl SubT.nil)
            · skip
              exact SubG.nil
          · intro h7
            refine AW.seq ?_
            refine AW.region ?_
            refine AL.pure rfl rfl (by decide) (P_eql rfl rfl) ?_
            refine AL.pure rfl rfl (by decide) (P_assign rfl) ?_
            refine AL.nil ?_
            refine Then.go ?_
            refine AW.condD _ rfl ?_ ?_
            · intro h8
              refine AW.region ?_
              refine AL.pure rfl rfl (by decide) (P_move rfl) ?_
              refine AL.recast 29 (sB (a ++ leBytes 1 (l.getD i ddz).kind)) rfl (by simp [bs]) ?_
              refine AL.pure rfl rfl (by decide) (P_fieldAddr ty132 rfl ty85 rfl) ?_
              refine AL.pure rfl rfl (by decide) (P_loadA ty85 rfl rfl rfl (Nat.le_of_ble_eq_true rfl)) ?_
              refine AL.call (C_pack_inode (a ++ leBytes 1 (l.getD i ddz).kind) (l.getD i ddz).ino hm.2.2 (by simp [leBytes_length]; omega) ) _ [] [] _ rfl (by decide) rfl rfl rfl SubG.nil ?_
              rintro _ _ ⟨rfl, rfl⟩
              refine ⟨rfl, rfl, ?_⟩
              refine AL.pure rfl rfl (by decide) (P_assign rfl) ?_
              refine AL.nil ?_
              refine InBlock.go ?_
              refine InBlock.go ?_
              refine Then.go ?_
              refine AW.region ?_
              refine AL.pure rfl rfl (by decide) (P_addN rfl rfl (by omega) (by omega)) ?_
              refine AL.pure rfl rfl (by decide) (P_move rfl) ?_
              refine AL.nil ?_
              refine Round.go ((i + 1, a ++ ddB (l.getD i ddz))) ?_ ?_ ?_ ?_
              · try dsimp only
                have := ddB_len hm.2.2
                refine ⟨by omega, by simp only [List.length_append]; omega, ?_⟩
                rw [take_succ_flatMap _ ddz (by omega), i2]
              · try dsimp only
                omega
              · skip
                refine SubT.cons' (by decide) rfl ?_ ?_
                · skip
                  rfl
                refine SubT.cons' (by decide) rfl ?_ ?_
                · skip
                  rfl
                refine SubT.cons' (by decide) rfl ?_ ?_
                · skip
                  rfl
                refine SubT.cons' (by decide) rfl ?_ ?_
                · skip
                  (exfalso; omega)
                exact (SubT.cons (by decide) rfl SubT.nil)
              · skip
                exact SubG.nil
            · intro h8
              refine AW.skip ?_
              refine InBlock.go ?_
              refine InBlock.go ?_
              refine Then.go ?_
              refine AW.region ?_
              refine AL.pure rfl rfl (by decide) (P_addN rfl rfl (by omega) (by omega)) ?_
              refine AL.pure rfl rfl (by decide) (P_move rfl) ?_
              refine AL.nil ?_
              refine Round.go ((i + 1, a ++ ddB (l.getD i ddz))) ?_ ?_ ?_ ?_
              · try dsimp only
                have := ddB_len hm.2.2
                refine ⟨by omega, by simp only [List.length_append]; omega, ?_⟩
                rw [take_succ_flatMap _ ddz (by omega), i2]
              · try dsimp only
                omega
              · skip
                refine SubT.cons' (by decide) rfl ?_ ?_
                · skip
                  rfl
                refine SubT.cons' (by decide) rfl ?_ ?_
                · skip
                  rfl
                refine SubT.cons' (by decide) rfl ?_ ?_
                · skip
                  rfl
                refine SubT.cons' (by decide) rfl ?_ ?_
                · skip
                  (exfalso; omega)
                exact (SubT.cons (by decide) rfl SubT.nil)
              · skip
                exact SubG.nil
        · intro h6
          refine AW.region ?_
          refine AL.pure rfl rfl (by decide) (P_eql rfl rfl) ?_
          refine AL.pure rfl rfl (by decide) (P_assign rfl) ?_
          refine AL.nil ?_
          refine Then.go ?_
          refine AW.condD _ rfl ?_ ?_
          · intro h9
            refine AW.region ?_
            refine AL.pure rfl rfl (by decide) (P_move rfl) ?_
            refine AL.pure rfl rfl (by decide) (P_fieldAddr ty132 rfl ty3 rfl) ?_
            refine AL.pure rfl rfl (by decide) (P_load ty3 rfl rfl rfl rfl) ?_
            refine AL.call (C_codec_PutInt (bs a ++ bs (leBytes 1 (l.getD i ddz).kind)) (l.getD i ddz).no (by omega) (by simp [leBytes_length]; omega) ) _ [] [] _ rfl (by decide) rfl rfl rfl SubG.nil ?_
            rintro _ _ ⟨rfl, rfl⟩
            refine ⟨rfl, rfl, ?_⟩
            refine AL.pure rfl rfl (by decide) (P_assign rfl) ?_
            refine AL.nil ?_
            refine InBlock.go ?_
            refine InBlock.go ?_
            refine Then.go ?_
            refine AW.region ?_
            refine AL.pure rfl rfl (by decide) (P_addN rfl rfl (by omega) (by omega)) ?_
            refine AL.pure rfl rfl (by decide) (P_move rfl) ?_
            refine AL.nil ?_
            refine Round.go ((i + 1, a ++ ddB (l.getD i ddz))) ?_ ?_ ?_ ?_
            · try dsimp only
              have := ddB_len hm.2.2
              refine ⟨by omega, by simp only [List.length_append]; omega, ?_⟩
              rw [take_succ_flatMap _ ddz (by omega), i2]
            · try dsimp only
              omega
            · skip
              refine SubT.cons' (by decide) rfl ?_ ?_
              · skip
                rfl
              refine SubT.cons' (by decide) rfl ?_ ?_
              · skip
                rfl
              refine SubT.cons' (by decide) rfl ?_ ?_
              · skip
                rfl
              refine SubT.cons' (by decide) rfl ?_ ?_
              · skip
                (refine sl_congr ?_; rw [ddB, if_pos (by omega)]; simp [bs]; done)
              exact (SubT.cons (by decide) rfl SubT.nil)
            · skip
              exact SubG.nil
          · intro h9
            refine AW.seq ?_
            refine AW.region ?_
            refine AL.pure rfl rfl (by decide) (P_eql rfl rfl) ?_
            refine AL.pure rfl rfl (by decide) (P_assign rfl) ?_
            refine AL.nil ?_
            refine Then.go ?_
            refine AW.condD _ rfl ?_ ?_
            · intro h10
              refine AW.region ?_
              refine AL.pure rfl rfl (by decide) (P_move rfl) ?_
              refine AL.recast 29 (sB (a ++ leBytes 1 (l.getD i ddz).kind)) rfl (by simp [bs]) ?_
              refine AL.pure rfl rfl (by decide) (P_fieldAddr ty132 rfl ty85 rfl) ?_
              refine AL.pure rfl rfl (by decide) (P_loadA ty85 rfl rfl rfl (Nat.le_of_ble_eq_true rfl)) ?_
              refine AL.call (C_pack_inode (a ++ leBytes 1 (l.getD i ddz).kind) (l.getD i ddz).ino hm.2.2 (by simp [leBytes_length]; omega) ) _ [] [] _ rfl (by decide) rfl rfl rfl SubG.nil ?_
              rintro _ _ ⟨rfl, rfl⟩
              refine ⟨rfl, rfl, ?_⟩
              refine AL.pure rfl rfl (by decide) (P_assign rfl) ?_
              refine AL.nil ?_
              refine InBlock.go ?_
              refine InBlock.go ?_
              refine Then.go ?_
              refine AW.region ?_
              refine AL.pure rfl rfl (by decide) (P_addN rfl rfl (by omega) (by omega)) ?_
              refine AL.pure rfl rfl (by decide) (P_move rfl) ?_
              refine AL.nil ?_
              refine Round.go ((i + 1, a ++ ddB (l.getD i ddz))) ?_ ?_ ?_ ?_
              · try dsimp only
                have := ddB_len hm.2.2
                refine ⟨by omega, by simp only [List.length_append]; omega, ?_⟩
                rw [take_succ_flatMap _ ddz (by omega), i2]
              · try dsimp only
                omega
              · skip
                refine SubT.cons' (by decide) rfl ?_ ?_
                · skip
                  rfl
                refine SubT.cons' (by decide) rfl ?_ ?_
                · skip
                  rfl
                refine SubT.cons' (by decide) rfl ?_ ?_
                · skip
                  rfl
                refine SubT.cons' (by decide) rfl ?_ ?_
                · skip
                  (refine sl_congr ?_; rw [ddB, if_neg (by omega), if_pos (by omega)]; simp [bs]; done)
                exact (SubT.cons (by decide) rfl SubT.nil)
              · skip
                exact SubG.nil
            · intro h10
              refine AW.skip ?_
              refine InBlock.go ?_
              refine InBlock.go ?_
              refine Then.go ?_
              refine AW.region ?_
              refine AL.pure rfl rfl (by decide) (P_addN rfl rfl (by omega) (by omega)) ?_
              refine AL.pure rfl rfl (by decide) (P_move rfl) ?_
              refine AL.nil ?_
              refine Round.go ((i + 1, a ++ ddB (l.getD i ddz))) ?_ ?_ ?_ ?_
              · try dsimp only
                have := ddB_len hm.2.2
                refine ⟨by omega, by simp only [List.length_append]; omega, ?_⟩
                rw [take_succ_flatMap _ ddz (by omega), i2]
              · try dsimp only
                omega
              · skip
                refine SubT.cons' (by decide) rfl ?_ ?_
                · skip
                  rfl
                refine SubT.cons' (by decide) rfl ?_ ?_
                · skip
                  rfl
                refine SubT.cons' (by decide) rfl ?_ ?_
                · skip
                  rfl
                refine SubT.cons' (by decide) rfl ?_ ?_
                · skip
                  (refine sl_congr ?_; rw [ddB, if_neg (by omega), if_neg (by omega)]; simp [bs]; done)
                exact (SubT.cons (by decide) rfl SubT.nil)
              · skip
                exact SubG.nil
    · intro h2
      refine AW.exit ?_
      refine Then.e ?_
      refine Round.e ?_
      refine InBlock.e ?_
      refine Then.go ?_
      refine AW.seq ?_
      refine AW.region ?_
      refine AL.pure rfl rfl (by decide) (P_move rfl) ?_
      refine AL.pure rfl rfl (by decide) (P_assign rfl) ?_
      refine AL.nil ?_
      refine Then.go ?_
      refine AW.ret ?_
      refine ⟨(by exact .inr rfl), _, _, (.cons (.tmp rfl) .nil), SubG.nil, ?_, rfl, rfl⟩
      refine ⟨sl_congr ?_, rfl⟩
      have hi : i = l.length := by omega
      rw [i2, hi, List.take_length, deedsB]
end Go.Proofs.YtmakeajjgjnldaaGreatDoor
