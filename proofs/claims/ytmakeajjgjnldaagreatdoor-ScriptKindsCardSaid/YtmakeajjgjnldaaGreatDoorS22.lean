/- Walks, part 22: the text of answers. -/
import Derived.Test.YtmakeajjgjnldaaGreatDoorS21
set_option linter.unusedVariables false
set_option linter.unusedSimpArgs false
set_option maxRecDepth 100000
namespace Go.Proofs.YtmakeajjgjnldaaGreatDoor
open Go Go.Ab

abbrev itoaS (n : Int) : ByteArray := strL (Lib.itoa n)
theorem C_Itoa_small (n : Int) (h0 : 0 ≤ n) (h1 : n < 100) : ACalls Tryz.prog 53 [vI .i64 n] [] [] (fun r G => r = vS (itoaS n) ∧ G = []) := by
  obtain ⟨i, rfl⟩ : ∃ i : Nat, n = i := ⟨n.toNat, by omega⟩
  refine acalls_of_calls (vs0 := [.int .i64 i]) Tryz.func53 rfl (by kernel_rfl) (fun M ι w us h => by
      simp only [RAs, RA, RT] at h
      obtain ⟨u, us', rfl, rfl, rfl⟩ := h
      rfl) (fun M ι w => by simp only [RA, RT, itoaS, Lib.itoa_nonneg]; rfl) (fun w => Tryz.strconv_Itoa_small i (by omega) w)
theorem itoaS_small {n : Int} (h0 : 0 ≤ n) (h1 : n < 100) : (itoaS n).size ≤ 2 := by
  obtain ⟨i, rfl⟩ : ∃ i : Nat, n = i := ⟨n.toNat, by omega⟩
  simp only [itoaS, Lib.itoa_nonneg]
  by_cases h : i < 10
  · rw [Lib.decDigits_one h]; exact Nat.le_succ 1
  · rw [Lib.decDigits_two h (by omega)]; exact Nat.le_refl 2
theorem sz1 (x : UInt8) : ByteArray.size ⟨#[x]⟩ = 1 := rfl
theorem strL_list (l : List UInt8) : (strL l).data.toList = l := by simp [strL]
def headT (a : Ans) : List UInt8 := Lib.itoa a.err ++ 32 :: Lib.itoa (if a.n < 0 then 0 else a.n) ++ 32 :: Lib.itoa (a.data.length : Nat)
def nameT (l : List ByteArray) : List UInt8 := l.flatMap fun s => 32 :: s.data.toList
def lineT (a : Ans) : List UInt8 := headT a ++ nameT a.names ++ [10]
def textT (l : List Ans) : List UInt8 := l.flatMap lineT
/-- Small numbers. -/
structure AnsSm (a : Ans) : Prop where
  e0 : 0 ≤ a.err
  e1 : a.err < 100
  n1 : a.n < 100
  d1 : a.data.length < 100
def ansz : Ans := ⟨0, 0, [], [], Stt.z, 0, 0, 0⟩
theorem textT_succ {l : List Ans} {i : Nat} (h : i < l.length) : textT (l.take (i + 1)) = textT (l.take i) ++ lineT (l.getD i ansz) := by
  simp only [textT, List.take_add_one, List.flatMap_append]; simp [List.getElem?_eq_getElem h, List.getD, h]
theorem nameT_succ {l : List ByteArray} {i : Nat} (h : i < l.length) : nameT (l.take (i + 1)) = nameT (l.take i) ++ 32 :: (l.getD i emS).data.toList := by
  simp only [nameT, List.take_add_one, List.flatMap_append]; simp [List.getElem?_eq_getElem h, List.getD, h]
theorem textT_le {l : List Ans} {i : Nat} (h : i < l.length) : (textT (l.take i)).length + (lineT (l.getD i ansz)).length ≤ (textT l).length := by
  have : textT l = textT (l.take (i + 1)) ++ textT (l.drop (i + 1)) := by rw [textT, textT, textT, ← List.flatMap_append, List.take_append_drop]
  rw [this, textT_succ h]; simp only [List.length_append]; omega
theorem nameT_le {l : List ByteArray} {i : Nat} (h : i < l.length) : (nameT (l.take i)).length + 1 + (l.getD i emS).size ≤ (nameT l).length := by
  have : nameT l = nameT (l.take (i + 1)) ++ nameT (l.drop (i + 1)) := by rw [nameT, nameT, nameT, ← List.flatMap_append, List.take_append_drop]
  rw [this, nameT_succ h]; simp only [List.length_append, List.length_cons, ← size_data]; omega
theorem lineT_length (a : Ans) : (lineT a).length = (headT a).length + (nameT a.names).length + 1 := by simp [lineT]; omega

theorem ty64 : TyIs Tryz.prog 64 (.slice 33) 1 := ⟨Tryz.underlying64, by kernel_rfl⟩
theorem tz105 : TyZ Tryz.prog 105 (.agg #[.pointer none, .slice none 0 0]) := ⟨by kernel_rfl⟩

theorem C_Text_nil  : ACalls Tryz.prog 26 [.tr (.sl 12 [])] ([]) ([]) (fun r G => r = vS ⟨#[]⟩ ∧ G = []) := by
  refine acalls_of_body 44 [] Tryz.func26 rfl (by kernel_rfl) Tryz.ntmps26 (Nat.le_of_ble_eq_true rfl) rfl ?_
  refine AW.seq ?_
  refine AW.region ?_
  refine AL.pure rfl rfl (by decide) (P_assign rfl) ?_
  refine AL.nil ?_
  refine Then.go ?_
  refine AW.seq ?_
  refine AW.region ?_
  refine AL.eff rfl rfl (by decide) (E_alloc 370 tz105 rfl rfl rfl) ?_
  refine AL.nil ?_
  refine Then.go ?_
  refine AW.seq ?_
  refine AW.seq ?_
  refine AW.region ?_
  refine AL.pure rfl rfl (by decide) (P_move rfl) ?_
  refine AL_lenSl rfl rfl (by decide) ty64 rfl fun h1 => ?_
  try simp only [bs_length, List.length_map, List.length_append, List.length_replicate, List.length_cons, List.length_nil, List.length_take, List.length_set] at h1
  refine AL.pure rfl rfl (by decide) (P_move rfl) ?_
  refine AL.nil ?_
  refine Then.go ?_
  refine AW.block ?_
  refine AW.loopK (σ := Unit) [2, 3, 8, 9] [370] (.cons rfl (.cons rfl (.cons rfl (.cons rfl .nil)))) (.cons rfl .nil) rfl (fun u => [(10, vI .i64 0)]) (fun u => []) (fun u => True) (fun u => 0) (()) ?_ ?_ ?_ ?_
  · skip
    trivial
  · skip
    refine SubT.cons' (by decide) rfl ?_ ?_
    · skip
      rfl
    exact SubT.nil
  · skip
    exact SubG.nil
  · rintro u hs
    try dsimp only at hs
    dsimp only [List.cons_append, List.nil_append]
    refine AW.seq ?_
    refine AW.region ?_
    refine AL.pure rfl rfl (by decide) (P_lss rfl rfl) ?_
    refine AL.nil ?_
    refine Then.go ?_
    refine AW.seq ?_
    refine AW.condD _ rfl ?_ ?_
    · intro h2
      exfalso; simp_all
    · intro h2
      refine AW.exit ?_
      refine Then.e ?_
      refine Round.e ?_
      refine InBlock.e ?_
      refine Then.go ?_
      refine AW.seq ?_
      refine AW.region ?_
      refine AL.call (C_Builder_String_nil ) _ [] [] _ rfl (by decide) rfl rfl rfl (SubG.cons rfl SubG.nil) ?_
      rintro _ _ ⟨rfl, rfl⟩
      refine ⟨rfl, rfl, ?_⟩
      refine AL.pure rfl rfl (by decide) (P_assign rfl) ?_
      refine AL.nil ?_
      refine Then.go ?_
      refine AW.ret ?_
      refine ⟨(by exact .inr rfl), _, _, (.cons (.tmp rfl) .nil), SubG.nil, ?_, rfl, rfl⟩
      exact ⟨rfl, rfl⟩

theorem bld_congr {l l' : List UInt8} (h : l = l') : bldG l = bldG l' := h ▸ rfl
theorem list_ptr {l l' : List UInt8} (h : l = l') : (AObj.row 105 [.ptrN 370 0, .own 1 371 0 l.length]) = .row 105 [.ptrN 370 0, .own 1 371 0 l'.length] := h ▸ rfl
theorem bs_els {l l' : List UInt8} (h : l = l') : AObj.els 5 1 (bs l) = .els 5 1 (bs l') := h ▸ rfl
theorem head_eq (a : Ans) : (itoaS a.err ++ ⟨#[32]⟩ ++ itoaS (if a.n < 0 then 0 else a.n) ++ ⟨#[32]⟩ ++ itoaS (a.data.length : Nat)).data.toList = headT a := by
  simp [headT, strL]
theorem headT_small {a : Ans} (h : AnsSm a) : (headT a).length ≤ 8 := by
  have h1 := itoaS_small h.e0 h.e1
  have h2 : (itoaS (if a.n < 0 then 0 else a.n)).size ≤ 2 := by have := h.n1; split <;> exact itoaS_small (by omega) (by omega)
  have h3 : (itoaS (a.data.length : Nat)).size ≤ 2 := itoaS_small (by omega) (by have := h.d1; omega)
  simp only [itoaS, size_data, strL_list] at h1 h2 h3
  simp only [headT, List.length_append, List.length_cons]
  omega

theorem C_Text_small (l : List Ans) (h0 : l ≠ []) (hn : l.length ≤ 1000000) (hT : (textT l).length ≤ 1000000) (hsA : ∀ a ∈ l, AnsSm a) : ACalls Tryz.prog 26 [.tr (.sl 12 (l.map Ans.t))] ([]) ([]) (fun r G => r = vS (strL (textT l)) ∧ G = []) := by
  refine acalls_of_body 44 [] Tryz.func26 rfl (by kernel_rfl) Tryz.ntmps26 (Nat.le_of_ble_eq_true rfl) rfl ?_
  refine AW.seq ?_
  refine AW.region ?_
  refine AL.pure rfl rfl (by decide) (P_assign rfl) ?_
  refine AL.nil ?_
  refine Then.go ?_
  refine AW.seq ?_
  refine AW.region ?_
  refine AL.eff rfl rfl (by decide) (E_alloc 370 tz105 rfl rfl rfl) ?_
  refine AL.nilN 370 0 370 0 rfl rfl ?_
  refine AL.ghostO 370 1 371 5 1 rfl rfl rfl rfl rfl rfl ?_
  refine AL.nil ?_
  refine Then.go ?_
  refine AW.seq ?_
  refine AW.seq ?_
  refine AW.region ?_
  refine AL.pure rfl rfl (by decide) (P_move rfl) ?_
  refine AL_lenM rfl rfl (by decide) ty64 rfl fun h1 => ?_
  try simp only [bs_length, List.length_map, List.length_append, List.length_replicate, List.length_cons, List.length_nil, List.length_take, List.length_set] at h1
  refine AL.pure rfl rfl (by decide) (P_move rfl) ?_
  refine AL.nil ?_
  refine Then.go ?_
  refine AW.block ?_
  refine AW.loopK (σ := Nat) [2, 3, 8, 9] [] (.cons rfl (.cons rfl (.cons rfl (.cons rfl .nil)))) .nil rfl (fun i => [(10, vI .i64 (i : Nat))]) (fun i => [(370, .row 105 [.ptrN 370 0, .own 1 371 0 (textT (l.take i)).length]), (371, .els 5 1 (bs (textT (l.take i))))]) (fun i => i ≤ l.length) (fun i => l.length - i) (0) ?_ ?_ ?_ ?_
  · skip
    exact Nat.zero_le _
  · skip
    refine SubT.cons' (by decide) rfl ?_ ?_
    · skip
      rfl
    exact SubT.nil
  · skip
    refine SubG.cons' rfl ?_ ?_
    · skip
      rfl
    refine SubG.cons' rfl ?_ ?_
    · skip
      rfl
    exact SubG.nil
  · rintro i hs
    try dsimp only at hs
    dsimp only [List.cons_append, List.nil_append]
    refine AW.seq ?_
    refine AW.region ?_
    refine AL.pure rfl rfl (by decide) (P_lss rfl rfl) ?_
    refine AL.nil ?_
    refine Then.go ?_
    refine AW.seq ?_
    refine AW.condD _ rfl ?_ ?_
    · intro h2
      have hi : i < l.length := by omega
      have hle := textT_le hi
      rw [lineT_length] at hle
      refine AW.skip ?_
      refine Then.go ?_
      refine AW.seq ?_
      refine AW.block ?_
      refine AW.seq ?_
      refine AW.region ?_
      refine AL.pure rfl rfl (by decide) (P_indexSl ty64 ty33 rfl rfl (by exact map_at ansz (by omega)) (by rfl)) ?_
      refine AL.pure rfl rfl (by decide) (P_loadAR ty33 rfl rfl (Nat.le_of_ble_eq_true rfl)) ?_
      have hsm := hsA _ (getD_mem ansz hi)
      generalize hx : l.getD i ansz = x at hle hsm ⊢
      have hh := headT_small hsm
      obtain ⟨q0, q1, q2, q3⟩ := hsm
      have z1 := itoaS_small q0 q1
      have z2 : (itoaS (if x.n < 0 then 0 else x.n)).size ≤ 2 := by split <;> exact itoaS_small (by omega) (by omega)
      have z3 : (itoaS (x.data.length : Nat)).size ≤ 2 := itoaS_small (by omega) (by omega)
      refine AL.eff rfl rfl (by decide) (E_alloc 105 tz33 rfl rfl rfl) ?_
      refine AL.eff0 rfl rfl (E_store ty33 rfl rfl rfl rfl rfl (Nat.le_of_ble_eq_true rfl)) ?_
      refine AL.nil ?_
      refine Then.go ?_
      refine AW.seq ?_
      refine AD.start ?_
      refine AD.op 0 14 [] _ rfl rfl rfl (B_pure (P_fieldAddr ty33 rfl ty25 rfl)) ?_
      refine AD.op 1 15 [0] _ rfl rfl rfl (B_pure (P_load ty25 rfl rfl rfl rfl)) ?_
      refine AD.op 2 16 [0, 1] _ rfl rfl rfl (B_call0 (C_Itoa_small x.err (by omega) (by omega) ) _ rfl rfl (by rintro _ _ ⟨rfl, rfl⟩; exact ⟨rfl, rfl⟩)) ?_
      refine AD.op 3 17 [0, 1, 2] _ rfl rfl rfl (B_pure (P_sadd rfl rfl (by (simp only [ByteArray.size_append, sz1]; omega)))) ?_
      refine AD.op 4 18 [] _ rfl rfl rfl (B_pure (P_fieldAddr ty33 rfl ty3 rfl)) ?_
      refine AD.op 5 19 [4] _ rfl rfl rfl (B_pure (P_load ty3 rfl rfl rfl rfl)) ?_
      refine AD.op 6 20 [4, 5] _ rfl rfl rfl (B_pure (P_max rfl rfl)) ?_
      refine AD.op 7 21 [0, 1, 2, 4, 5, 6] _ rfl rfl rfl (B_call0 (C_Itoa_small (if x.n < 0 then 0 else x.n) (by omega) (by omega) ) _ rfl rfl (by rintro _ _ ⟨rfl, rfl⟩; exact ⟨rfl, rfl⟩)) ?_
      refine AD.op 8 22 [0, 1, 2, 3, 4, 5, 6, 7] _ rfl rfl rfl (B_pure (P_sadd rfl rfl (by (simp only [ByteArray.size_append, sz1]; omega)))) ?_
      refine AD.op 9 23 [0, 1, 2, 3, 4, 5, 6, 7, 8] _ rfl rfl rfl (B_pure (P_sadd rfl rfl (by (simp only [ByteArray.size_append, sz1]; omega)))) ?_
      refine AD.op 10 24 [] _ rfl rfl rfl (B_pure (P_fieldAddr ty33 rfl ty26 rfl)) ?_
      refine AD.op 11 25 [10] _ rfl rfl rfl (B_pure (P_load ty26 rfl rfl rfl rfl)) ?_
      refine AD.op 12 26 [10, 11] _ rfl rfl rfl (B_pure (P_lenM ty26 rfl)) ?_
      refine AD.op 13 27 [0, 1, 2, 4, 5, 6, 7, 10, 11, 12] _ rfl rfl rfl (B_call0 (C_Itoa_small (x.data.length : Nat) (by omega) (by omega) ) _ rfl rfl (by rintro _ _ ⟨rfl, rfl⟩; exact ⟨rfl, rfl⟩)) ?_
      refine AD.tail mixed rfl (by kernel_rfl) rfl ?_
      refine AL.pure rfl rfl (by decide) (P_sadd rfl rfl (by (simp only [ByteArray.size_append, sz1]; omega))) ?_
      refine AL.call (C_strings_Builder_WriteString (textT (l.take i)) _ (by rw [size_data, head_eq]; omega) ) _ [] [] _ rfl (by decide) rfl rfl rfl (SubG.cons rfl (SubG.cons rfl SubG.nil)) ?_
      rintro _ _ ⟨rfl, rfl⟩
      refine ⟨rfl, rfl, ?_⟩
      refine AL.nil ?_
      refine Then.go ?_
      refine AW.seq ?_
      refine AW.seq ?_
      refine AW.region ?_
      refine AL.pure rfl rfl (by decide) (P_fieldAddr ty33 rfl ty27 rfl) ?_
      refine AL.pure rfl rfl (by decide) (P_load ty27 rfl rfl rfl rfl) ?_
      refine AL_lenM rfl rfl (by decide) ty27 rfl fun h3 => ?_
      try simp only [bs_length, List.length_map, List.length_append, List.length_replicate, List.length_cons, List.length_nil, List.length_take, List.length_set] at h3
      refine AL.pure rfl rfl (by decide) (P_move rfl) ?_
      refine AL.nil ?_
      refine Then.go ?_
      refine AW.block ?_
      refine AW.loopK (σ := Nat) [2, 3, 5, 8, 9, 10, 11, 12, 13, 14, 15, 16, 17, 18, 19, 20, 21, 22, 23, 24, 25, 26, 27, 28, 30, 31, 32] [] (.cons rfl (.cons rfl (.cons rfl (.cons rfl (.cons rfl (.cons rfl (.cons rfl (.cons rfl (.cons rfl (.cons rfl (.cons rfl (.cons rfl (.cons rfl (.cons rfl (.cons rfl (.cons rfl (.cons rfl (.cons rfl (.cons rfl (.cons rfl (.cons rfl (.cons rfl (.cons rfl (.cons rfl (.cons rfl (.cons rfl (.cons rfl .nil))))))))))))))))))))))))))) .nil rfl (fun k => [(33, vI .i64 (k : Nat))]) (fun k => [(370, .row 105 [.ptrN 370 0, .own 1 371 0 (textT (l.take i) ++ headT x ++ nameT (x.names.take k)).length]), (371, .els 5 1 (bs (textT (l.take i) ++ headT x ++ nameT (x.names.take k))))]) (fun k => k ≤ x.names.length) (fun k => x.names.length - k) (0) ?_ ?_ ?_ ?_
      · skip
        exact Nat.zero_le _
      · skip
        refine SubT.cons' (by decide) rfl ?_ ?_
        · skip
          rfl
        exact SubT.nil
      · skip
        refine SubG.cons' rfl ?_ ?_
        · skip
          exact list_ptr (by rw [head_eq, List.take_zero]; exact (List.append_nil _).symm)
        refine SubG.cons' rfl ?_ ?_
        · skip
          exact bs_els (by rw [head_eq, List.take_zero]; exact (List.append_nil _).symm)
        exact SubG.nil
      · rintro k hs
        try dsimp only at hs
        dsimp only [List.cons_append, List.nil_append]
        refine AW.seq ?_
        refine AW.region ?_
        refine AL.pure rfl rfl (by decide) (P_lss rfl rfl) ?_
        refine AL.nil ?_
        refine Then.go ?_
        refine AW.seq ?_
        refine AW.condD _ rfl ?_ ?_
        · intro h4
          have hk : k < x.names.length := by omega
          have hle2 := nameT_le hk
          refine AW.skip ?_
          refine Then.go ?_
          refine AW.seq ?_
          refine AW.block ?_
          refine AW.seq ?_
          refine AW.region ?_
          refine AL.pure rfl rfl (by decide) (P_indexSl ty27 ty9 rfl rfl (by exact map_at emS (by omega)) (by rfl)) ?_
          refine AL.pure rfl rfl (by decide) (P_loadR ty9 rfl rfl rfl) ?_
          refine AL.pure rfl rfl (by decide) (P_assign rfl) ?_
          refine AL.nil ?_
          refine Then.go ?_
          refine AW.region ?_
          refine AL.pure rfl rfl (by decide) (P_move rfl) ?_
          refine AL.pure rfl rfl (by decide) (P_sadd rfl rfl (by (simp only [ByteArray.size_append, sz1]; omega))) ?_
          refine AL.call (C_strings_Builder_WriteString (textT (l.take i) ++ headT x ++ nameT (x.names.take k)) _ (by simp only [ByteArray.size_append, sz1, List.length_append]; omega) ) _ [] [] _ rfl (by decide) rfl rfl rfl (SubG.cons rfl (SubG.cons rfl SubG.nil)) ?_
          rintro _ _ ⟨rfl, rfl⟩
          refine ⟨rfl, rfl, ?_⟩
          refine AL.nil ?_
          refine InBlock.go ?_
          refine Then.go ?_
          refine AW.region ?_
          refine AL.pure rfl rfl (by decide) (P_addN rfl rfl (by omega) (by omega)) ?_
          refine AL.pure rfl rfl (by decide) (P_move rfl) ?_
          refine AL.nil ?_
          refine Round.go (k + 1) ?_ ?_ ?_ ?_
          · try dsimp only
            omega
          · try dsimp only
            omega
          · skip
            refine SubT.cons' (by decide) rfl ?_ ?_
            · skip
              rfl
            exact (SubT.cons (by decide) rfl (SubT.cons (by decide) rfl (SubT.cons (by decide) rfl (SubT.cons (by decide) rfl (SubT.cons (by decide) rfl (SubT.cons (by decide) rfl (SubT.cons (by decide) rfl (SubT.cons (by decide) rfl (SubT.cons (by decide) rfl (SubT.cons (by decide) rfl (SubT.cons (by decide) rfl (SubT.cons (by decide) rfl (SubT.cons (by decide) rfl (SubT.cons (by decide) rfl (SubT.cons (by decide) rfl (SubT.cons (by decide) rfl (SubT.cons (by decide) rfl (SubT.cons (by decide) rfl (SubT.cons (by decide) rfl (SubT.cons (by decide) rfl (SubT.cons (by decide) rfl (SubT.cons (by decide) rfl (SubT.cons (by decide) rfl (SubT.cons (by decide) rfl (SubT.cons (by decide) rfl (SubT.cons (by decide) rfl (SubT.cons (by decide) rfl SubT.nil)))))))))))))))))))))))))))
          · skip
            refine SubG.cons' rfl ?_ ?_
            · skip
              exact list_ptr (by rw [nameT_succ hk]; simp)
            refine SubG.cons' rfl ?_ ?_
            · skip
              exact bs_els (by rw [nameT_succ hk]; simp)
            exact SubG.nil
        · intro h4
          have hk : k = x.names.length := by omega
          subst hk
          rw [List.take_length]
          refine AW.exit ?_
          refine Then.e ?_
          refine Round.e ?_
          refine InBlock.e ?_
          refine Then.go ?_
          refine AW.region ?_
          refine AL.call (C_strings_Builder_WriteString (textT (l.take i) ++ headT x ++ nameT x.names) _ (by simp only [sz1, List.length_append]; omega) ) _ [] [] _ rfl (by decide) rfl rfl rfl (SubG.cons rfl (SubG.cons rfl SubG.nil)) ?_
          rintro _ _ ⟨rfl, rfl⟩
          refine ⟨rfl, rfl, ?_⟩
          refine AL.nil ?_
          refine InBlock.go ?_
          refine Then.go ?_
          refine AW.region ?_
          refine AL.pure rfl rfl (by decide) (P_addN rfl rfl (by omega) (by omega)) ?_
          refine AL.pure rfl rfl (by decide) (P_move rfl) ?_
          refine AL.nil ?_
          refine Round.go (i + 1) ?_ ?_ ?_ ?_
          · try dsimp only
            omega
          · try dsimp only
            omega
          · skip
            refine SubT.cons' (by decide) rfl ?_ ?_
            · skip
              rfl
            exact (SubT.cons (by decide) rfl (SubT.cons (by decide) rfl (SubT.cons (by decide) rfl (SubT.cons (by decide) rfl SubT.nil))))
          · skip
            refine SubG.cons' rfl ?_ ?_
            · skip
              exact list_ptr (by rw [textT_succ hi, hx, lineT]; simp)
            refine SubG.cons' rfl ?_ ?_
            · skip
              exact bs_els (by rw [textT_succ hi, hx, lineT]; simp)
            exact SubG.nil
    · intro h2
      refine AW.exit ?_
      refine Then.e ?_
      refine Round.e ?_
      refine InBlock.e ?_
      refine Then.go ?_
      refine AW.seq ?_
      have hi : i = l.length := by omega
      subst hi
      rw [List.take_length]
      have ht0 : 0 < (textT l).length := by
        have hl : 0 < l.length := List.length_pos_iff.2 h0
        have h1 := textT_le hl
        rw [lineT_length] at h1
        omega
      refine AW.region ?_
      refine AL.call (C_Builder_String (textT l) ht0 (by omega) ) _ [] [] _ rfl (by decide) rfl rfl rfl (SubG.cons rfl (SubG.cons rfl SubG.nil)) ?_
      rintro _ _ ⟨rfl, rfl⟩
      refine ⟨rfl, rfl, ?_⟩
      refine AL.pure rfl rfl (by decide) (P_assign rfl) ?_
      refine AL.nil ?_
      refine Then.go ?_
      refine AW.ret ?_
      refine ⟨(by exact .inr rfl), _, _, (.cons (.tmp rfl) .nil), SubG.nil, ?_, rfl, rfl⟩
      exact ⟨rfl, rfl⟩
end Go.Proofs.YtmakeajjgjnldaaGreatDoor
