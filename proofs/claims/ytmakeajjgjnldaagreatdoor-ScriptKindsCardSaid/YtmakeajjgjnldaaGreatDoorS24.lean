/- Walks, part 24: scripts read and run. -/
import Derived.Test.YtmakeajjgjnldaaGreatDoorS23
set_option linter.unusedVariables false
set_option linter.unusedSimpArgs false
set_option maxRecDepth 100000
namespace Go.Proofs.YtmakeajjgjnldaaGreatDoor
open Go Go.Ab

def ltrOf (b : List UInt8) : Ltr := ⟨b.getD 0 0, b.getD 1 0, b.getD 2 0, b.getD 3 0, b.getD 4 0, b.getD 5 0⟩
def decodeL : Nat → List UInt8 → List Call
  | 0, _ => []
  | k + 1, b => if b = [] then [] else callN (ltrOf b) :: decodeL k (b.drop 6)
def decodeN (b : List UInt8) : List Call := decodeL 200 b
theorem decodeL_nil : ∀ k, decodeL k [] = []
  | 0 => rfl
  | _ + 1 => rfl
def fR (b : List UInt8) (k : Nat) : List AV := (List.range 6).map fun j => vI .i64 ((if j < k then (b.getD j 0).toNat else 0 : Nat) : Int)
theorem fR_length (b : List UInt8) (k : Nat) : (fR b k).length = 6 := by simp [fR]
theorem setAll_one {α : Type} : ∀ {cs : List α} {j : Nat} {x : α}, j < cs.length → setAll cs j [x] = cs.set j x
  | [], j, x, h => by simp at h
  | c :: cs, 0, x, h => rfl
  | c :: cs, j + 1, x, h => by
    have := setAll_one (cs := cs) (j := j) (x := x) (by simpa using h)
    simp only [setAll] at this ⊢
    done
theorem fR_succ {b : List UInt8} {k : Nat} (hk : k < 6) : (fR b k).set k (vI .i64 ((b.getD k 0).toNat : Nat)) = fR b (k + 1) := by
  apply List.ext_getElem?
  intro j
  rw [List.getElem?_set]
  simp only [fR, List.getElem?_map, List.length_map, List.length_range]
  by_cases e : k = j
  · subst e
    rw [if_pos rfl, if_pos hk, List.getElem?_range hk]; simp
  · rw [if_neg e]
    by_cases h : j < 6
    · rw [List.getElem?_range h]
      simp only [Option.map_some, Option.some.injEq]
      refine vI_congr ?_
      by_cases h1 : j < k
      · rw [if_pos h1, if_pos (by omega)]
      · rw [if_neg h1, if_neg (by omega)]
    · rw [List.getElem?_eq_none (by simp; omega)]; rfl
theorem fR_end {b : List UInt8} : fR b (min b.length 6) = [vI .i64 ((b.getD 0 0).toNat : Nat), vI .i64 ((b.getD 1 0).toNat : Nat), vI .i64 ((b.getD 2 0).toNat : Nat), vI .i64 ((b.getD 3 0).toNat : Nat), vI .i64 ((b.getD 4 0).toNat : Nat), vI .i64 ((b.getD 5 0).toNat : Nat)] := by
  have key : ∀ j, j < 6 → (if j < min b.length 6 then (b.getD j 0).toNat else 0 : Nat) = (b.getD j 0).toNat := by
    intro j hj
    by_cases h : j < min b.length 6
    · rw [if_pos h]
    · rw [if_neg h]
      have : b.length ≤ j := by omega
      simp [List.getD, List.getElem?_eq_none this]
  have e : (List.range 6) = [0, 1, 2, 3, 4, 5] := rfl
  simp only [fR, e, List.map_cons, List.map_nil, key 0 (by decide), key 1 (by decide), key 2 (by decide), key 3 (by decide), key 4 (by decide), key 5 (by decide)]
theorem take_at {b : List UInt8} {n k : Nat} (hk : k < n) (hn : n ≤ b.length) : ((bs b).take n)[k]? = some (b8 (b.getD k 0)) := by
  rw [List.getElem?_take, if_pos hk]
  exact bs_at (by omega)

theorem tb42 : TyB Tryz.prog 42 112 := ⟨by kernel_rfl⟩
theorem ty59 : TyIs Tryz.prog 59 (.slice 42) 1 := ⟨Tryz.underlying59, by kernel_rfl⟩
theorem ty98 : TyIs Tryz.prog 98 (.array 6 3) 6 := ⟨Tryz.underlying98, by kernel_rfl⟩
theorem tz98 : TyZ Tryz.prog 98 (.agg #[.int .i64 0, .int .i64 0, .int .i64 0, .int .i64 0, .int .i64 0, .int .i64 0]) := ⟨by kernel_rfl⟩
theorem tf99 : FldIs Tryz.prog fs99 [(0, 1), (1, 1), (2, 1), (3, 1), (4, 1), (5, 1)] := ⟨by kernel_rfl⟩
theorem tz100 : TyZ Tryz.prog 100 (.agg #[.int .i64 0, .int .i64 0, .int .i64 0, .int .i64 0, .int .i64 0, .int .i64 0]) := ⟨by kernel_rfl⟩


theorem drop_min (z : List UInt8) : z.drop (min z.length 6) = z.drop 6 := by
  rcases Nat.le_total z.length 6 with h | h
  · rw [Nat.min_eq_left h, List.drop_length, List.drop_of_length_le h]
  · rw [Nat.min_eq_right h]
theorem decodeL_step {z : List UInt8} {acc : List Call} (hz : 0 < z.length) (ha : acc.length < 200) : decodeL (200 - acc.length) z = callN (ltrOf z) :: decodeL (200 - (acc ++ [callN (ltrOf z)]).length) (z.drop 6) := by
  obtain ⟨m, hm⟩ : ∃ m, 200 - acc.length = m + 1 := ⟨200 - acc.length - 1, by omega⟩
  rw [hm, decodeL, if_neg (by intro e; subst e; simp at hz)]
  congr 2
  simp; omega
theorem decodeL_end {z : List UInt8} {acc : List Call} (h : ¬ (0 < z.length ∧ acc.length < 200)) : decodeL (200 - acc.length) z = [] := by
  by_cases hz : z = []
  · subst hz; exact decodeL_nil _
  · have : 0 < z.length := List.length_pos_iff.2 hz
    rw [show 200 - acc.length = 0 by omega]; rfl

theorem C_script_Decode (b : List UInt8) (hb : b.length ≤ 1000000) : ACalls Tryz.prog 22 [sB b] ([]) ([]) (fun r G => r = .tr (.sl 10 ((decodeN b).map Call.t)) ∧ G = []) := by
  refine acalls_of_body 54 [] Tryz.func22 rfl (by kernel_rfl) Tryz.ntmps22 (Nat.le_of_ble_eq_true rfl) rfl ?_
  refine AW.seq ?_
  refine AW.region ?_
  refine AL.pure rfl rfl (by decide) (P_assign rfl) ?_
  refine AL.nil ?_
  refine Then.go ?_
  refine AW.seq ?_
  refine AW.region ?_
  refine AL.pure rfl rfl (by decide) (P_assign rfl) ?_
  refine AL.ghost 3 203 42 10 rfl rfl rfl rfl ?_
  refine AL.nil ?_
  refine Then.go ?_
  refine AW.seq ?_
  refine AW.block ?_
  refine AW.loopK (σ := List UInt8 × List Call) [2] [] (.cons rfl .nil) .nil rfl (fun (z, acc) => [(0, sB z), (3, .own 10 203 0 acc.length)]) (fun (z, acc) => [(203, .els 42 10 (acc.map Call.t))]) (fun (z, acc) => acc.length ≤ 200 ∧ z.length ≤ b.length ∧ decodeN b = acc ++ decodeL (200 - acc.length) z) (fun (z, acc) => z.length) ((b, [])) ?_ ?_ ?_ ?_
  · skip
    exact ⟨Nat.zero_le _, Nat.le_refl _, rfl⟩
  · skip
    refine SubT.cons' (by decide) rfl ?_ ?_
    · skip
      rfl
    refine SubT.cons' (by decide) rfl ?_ ?_
    · skip
      rfl
    exact SubT.nil
  · skip
    refine SubG.cons' rfl ?_ ?_
    · skip
      rfl
    exact SubG.nil
  · rintro ⟨z, acc⟩ hs
    try dsimp only at hs
    dsimp only [List.cons_append, List.nil_append]
    obtain ⟨i0, i1, i2⟩ := hs
    refine AW.seq ?_
    refine AW.seq ?_
    refine AW.region ?_
    refine AL.pure rfl rfl (by decide) (P_move rfl) ?_
    refine AL_lenM rfl rfl (by decide) ty26 rfl fun h1 => ?_
    try simp only [bs_length, List.length_map, List.length_append, List.length_replicate, List.length_cons, List.length_nil, List.length_take, List.length_set, List.length_drop] at h1
    refine AL.pure rfl rfl (by decide) (P_gtr rfl rfl) ?_
    refine AL.pure rfl rfl (by decide) (P_move rfl) ?_
    refine AL.caseD (t := 11) _ rfl (by decide) ?_ ?_
    · intro h2
      refine AL.pure rfl rfl (by decide) (P_move rfl) ?_
      refine AL_lenOwn rfl rfl (by decide) ty59 rfl fun h3 => ?_
      try simp only [bs_length, List.length_map, List.length_append, List.length_replicate, List.length_cons, List.length_nil, List.length_take, List.length_set, List.length_drop] at h3
      refine AL.pure rfl rfl (by decide) (P_lss rfl rfl) ?_
      refine AL.pure rfl rfl (by decide) (P_pickT rfl rfl) ?_
      refine AL.nil ?_
      refine Then.go ?_
      refine AW.condD _ rfl ?_ ?_
      · intro h4
        refine AW.skip ?_
        refine Then.go ?_
        refine AW.block ?_
        refine AW.seq ?_
        refine AW.region ?_
        refine AL.eff rfl rfl (by decide) (E_alloc 104 tz98 rfl rfl rfl) ?_
        refine AL.recastO 104 (.row 98 (fR z 0)) rfl rfl ?_
        refine AL.nil ?_
        refine Then.go ?_
        refine AW.seq ?_
        refine AW.region ?_
        refine AL.pure rfl rfl (by decide) (P_move rfl) ?_
        refine AL_lenM rfl rfl (by decide) ty26 rfl fun h5 => ?_
        try simp only [bs_length, List.length_map, List.length_append, List.length_replicate, List.length_cons, List.length_nil, List.length_take, List.length_set, List.length_drop] at h5
        refine AL.pure rfl rfl (by decide) (P_min rfl rfl) ?_
        refine AL.recast 18 (vI .i64 ((min z.length 6 : Nat) : Int)) rfl (vI_congr (by split <;> omega)) ?_
        refine AL.pure rfl rfl (by decide) (P_assign rfl) ?_
        refine AL.nil ?_
        refine Then.go ?_
        refine AW.seq ?_
        refine AW.seq ?_
        refine AW.region ?_
        refine AL.pure rfl rfl (by decide) (P_move rfl) ?_
        refine AL.pure rfl rfl (by decide) (P_move rfl) ?_
        refine AL.pure rfl rfl (by decide) (P_sliceH ty26 ty5 rfl rfl (by (simp only [bs_length, List.length_map, List.length_append, List.length_replicate, List.length_set, List.length_take, List.length_nil, List.length_cons, List.length_drop]; omega))) ?_
        refine AL.recast 21 (.tr (.sl 1 ((bs z).take (min z.length 6)))) rfl rfl ?_
        refine AL_lenSl rfl rfl (by decide) ty26 rfl fun h6 => ?_
        try simp only [bs_length, List.length_map, List.length_append, List.length_replicate, List.length_cons, List.length_nil, List.length_take, List.length_set, List.length_drop] at h6
        refine AL.recast 22 (vI .i64 ((min z.length 6 : Nat) : Int)) rfl (vI_congr (by rw [List.length_take, bs_length]; omega)) ?_
        refine AL.pure rfl rfl (by decide) (P_move rfl) ?_
        refine AL.nil ?_
        refine Then.go ?_
        refine AW.block ?_
        refine AW.loopK (σ := Nat) [0, 2, 3, 4, 5, 8, 9, 10, 11, 12, 13, 14, 15, 16, 17, 18, 19, 20, 21, 22] [203] (.cons rfl (.cons rfl (.cons rfl (.cons rfl (.cons rfl (.cons rfl (.cons rfl (.cons rfl (.cons rfl (.cons rfl (.cons rfl (.cons rfl (.cons rfl (.cons rfl (.cons rfl (.cons rfl (.cons rfl (.cons rfl (.cons rfl (.cons rfl .nil)))))))))))))))))))) (.cons rfl .nil) rfl (fun k => [(23, vI .i64 (k : Nat))]) (fun k => [(104, .row 98 (fR z k))]) (fun k => k ≤ min z.length 6) (fun k => min z.length 6 - k) (0) ?_ ?_ ?_ ?_
        · skip
          exact Nat.zero_le _
        · skip
          refine SubT.cons' (by decide) rfl ?_ ?_
          · skip
            rfl
          exact SubT.nil
        · skip
          refine SubG.cons' rfl ?_ ?_
          · skip
            rfl
          exact SubG.nil
        · rintro k hs
          try dsimp only at hs
          dsimp only [List.cons_append, List.nil_append]
          refine AW.seq ?_
          refine AW.region ?_
          refine AL.pure rfl rfl (by decide) (P_lss rfl rfl) ?_
          refine AL.nil ?_
          refine Then.go ?_
          refine AW.seq ?_
          refine AW.condD _ rfl ?_ ?_
          · intro h7
            have hk : k < min z.length 6 := by omega
            refine AW.skip ?_
            refine Then.go ?_
            refine AW.seq ?_
            refine AW.block ?_
            refine AW.seq ?_
            refine AW.region ?_
            refine AL.pure rfl rfl (by decide) (P_move rfl) ?_
            refine AL.pure rfl rfl (by decide) (P_indexSl ty26 ty5 rfl rfl (by exact take_at (by assumption) (by omega)) (by rfl)) ?_
            refine AL.pure rfl rfl (by decide) (P_loadR ty5 rfl rfl rfl) ?_
            refine AL.pure rfl rfl (by decide) (P_assign rfl) ?_
            refine AL.pure rfl rfl (by decide) (P_assign rfl) ?_
            refine AL.nil ?_
            refine Then.go ?_
            refine AW.region ?_
            refine AL.pure rfl rfl (by decide) (P_move rfl) ?_
            refine AL.pure rfl rfl (by decide) (P_move rfl) ?_
            have hb8 := (z.getD k 0).toNat_lt
            refine AL.pure rfl rfl (by decide) (P_conv_i64 ty5 ty3 rfl (by omega) (by omega)) ?_
            refine AL.pure rfl rfl (by decide) (P_indexArr (j := k) ty98 ty3 rfl rfl (by omega)) ?_
            refine AL.eff0 rfl rfl (E_store ty3 rfl rfl rfl rfl rfl (by rw [fR_length]; omega)) ?_
            refine AL.nil ?_
            refine InBlock.go ?_
            refine Then.go ?_
            refine AW.region ?_
            refine AL.pure rfl rfl (by decide) (P_addN rfl rfl (by omega) (by omega)) ?_
            refine AL.pure rfl rfl (by decide) (P_move rfl) ?_
            refine AL.nil ?_
            refine Round.go (k + 1) ?_ ?_ ?_ ?_
            · try dsimp only
              omega
            · try dsimp only
              omega
            · skip
              refine SubT.cons' (by decide) rfl ?_ ?_
              · skip
                rfl
              exact (SubT.cons (by decide) rfl (SubT.cons (by decide) rfl (SubT.cons (by decide) rfl (SubT.cons (by decide) rfl (SubT.cons (by decide) rfl (SubT.cons (by decide) rfl (SubT.cons (by decide) rfl (SubT.cons (by decide) rfl (SubT.cons (by decide) rfl (SubT.cons (by decide) rfl (SubT.cons (by decide) rfl (SubT.cons (by decide) rfl (SubT.cons (by decide) rfl (SubT.cons (by decide) rfl (SubT.cons (by decide) rfl (SubT.cons (by decide) rfl (SubT.cons (by decide) rfl (SubT.cons (by decide) rfl (SubT.cons (by decide) rfl (SubT.cons (by decide) rfl SubT.nil))))))))))))))))))))
            · skip
              refine SubG.cons' rfl ?_ ?_
              · skip
                rw [← fR_succ (by omega), ← setAll_one (by rw [fR_length]; omega), Nat.zero_add, Nat.mul_one]; rfl
              exact (SubG.cons rfl SubG.nil)
          · intro h7
            refine AW.exit ?_
            refine Then.e ?_
            refine Round.e ?_
            refine InBlock.e ?_
            refine Then.go ?_
            refine AW.seq ?_
            have hk6 : k = min z.length 6 := by omega
            subst hk6
            refine AW.recastO 104 (.row 98 [vI .i64 ((z.getD 0 0).toNat : Nat), vI .i64 ((z.getD 1 0).toNat : Nat), vI .i64 ((z.getD 2 0).toNat : Nat), vI .i64 ((z.getD 3 0).toNat : Nat), vI .i64 ((z.getD 4 0).toNat : Nat), vI .i64 ((z.getD 5 0).toNat : Nat)]) rfl (by rw [fR_end]) ?_
            refine AW.region ?_
            refine AL.pure rfl rfl (by decide) (P_move rfl) ?_
            refine AL.pure rfl rfl (by decide) (P_move rfl) ?_
            refine AL.pure rfl rfl (by decide) (P_sliceL ty26 ty5 rfl rfl (by (simp only [bs_length, List.length_map, List.length_append, List.length_replicate, List.length_set, List.length_take, List.length_nil, List.length_cons, List.length_drop]; omega))) ?_
            refine AL.recast 35 (sB (z.drop 6)) rfl (sl_congr (by rw [← List.map_drop]; congr 1; exact drop_min z)) ?_
            refine AL.pure rfl rfl (by decide) (P_assign rfl) ?_
            refine AL.nil ?_
            refine Then.go ?_
            refine AW.region ?_
            refine AL.pure rfl rfl (by decide) (P_move rfl) ?_
            refine AL.pure rfl rfl (by decide) (P_indexArr (j := 0) ty98 ty3 rfl rfl (by omega)) ?_
            refine AL.pure rfl rfl (by decide) (P_load ty3 rfl rfl rfl rfl) ?_
            refine AL.pure rfl rfl (by decide) (P_indexArr (j := 1) ty98 ty3 rfl rfl (by omega)) ?_
            refine AL.pure rfl rfl (by decide) (P_load ty3 rfl rfl rfl rfl) ?_
            refine AL.pure rfl rfl (by decide) (P_indexArr (j := 2) ty98 ty3 rfl rfl (by omega)) ?_
            refine AL.pure rfl rfl (by decide) (P_load ty3 rfl rfl rfl rfl) ?_
            refine AL.pure rfl rfl (by decide) (P_indexArr (j := 3) ty98 ty3 rfl rfl (by omega)) ?_
            refine AL.pure rfl rfl (by decide) (P_load ty3 rfl rfl rfl rfl) ?_
            refine AL.pure rfl rfl (by decide) (P_indexArr (j := 4) ty98 ty3 rfl rfl (by omega)) ?_
            refine AL.pure rfl rfl (by decide) (P_load ty3 rfl rfl rfl rfl) ?_
            refine AL.pure rfl rfl (by decide) (P_indexArr (j := 5) ty98 ty3 rfl rfl (by omega)) ?_
            refine AL.pure rfl rfl (by decide) (P_load ty3 rfl rfl rfl rfl) ?_
            refine AL.pure rfl rfl (by decide) (P_build ty100 tz100 tf99 rfl) ?_
            refine AL.call (C_script_letters_call (ltrOf z) ) _ [] [] _ rfl (by decide) rfl rfl rfl SubG.nil ?_
            rintro _ _ ⟨rfl, rfl⟩
            refine ⟨rfl, rfl, ?_⟩
            refine AL.mk rfl rfl (by decide) (E_lit ty59 ty42 tz42 rfl rfl) ?_
            refine AL.eff rfl rfl (by decide) (E_append ty59 ty42 tz42 tb42 rfl rfl rfl rfl rfl (by (simp only [bs_length, List.length_map, List.length_append, List.length_replicate, List.length_set, List.length_take, List.length_nil, List.length_cons, List.length_drop]; omega)) (by (simp only [bs_length, List.length_map, List.length_append, List.length_replicate, List.length_set, List.length_take, List.length_nil, List.length_cons, List.length_drop]; omega))) ?_
            refine AL.pure rfl rfl (by decide) (P_assign rfl) ?_
            refine AL.nil ?_
            refine InBlock.go ?_
            refine Round.go ((z.drop 6, acc ++ [callN (ltrOf z)])) ?_ ?_ ?_ ?_
            · try dsimp only
              exact ⟨by simp; omega, by simp; omega, by rw [i2, decodeL_step (by omega) (by omega)]; simp⟩
            · try dsimp only
              simp only [List.length_drop]; omega
            · skip
              refine SubT.cons' (by decide) rfl ?_ ?_
              · skip
                rfl
              refine SubT.cons' (by decide) rfl ?_ ?_
              · skip
                exact own_congr (by simp)
              exact (SubT.cons (by decide) rfl SubT.nil)
            · skip
              refine SubG.cons' rfl ?_ ?_
              · skip
                refine els_congr ?_
                rw [List.take_of_length_le (by simp), List.map_append]; rfl
              exact SubG.nil
      · intro h4
        refine AW.exit ?_
        refine Then.e ?_
        refine Round.e ?_
        refine InBlock.e ?_
        refine Then.go ?_
        refine AW.seq ?_
        refine AW.region ?_
        refine AL.pure rfl rfl (by decide) (P_move rfl) ?_
        refine AL.pure rfl rfl (by decide) (P_assign rfl) ?_
        refine AL.letGo 2 203 0 rfl rfl rfl (by decide) rfl (by (simp only [bs_length, List.length_map, List.length_append, List.length_replicate, List.length_set, List.length_take, List.length_nil, List.length_cons, List.length_drop]; omega)) ?_
        refine AL.nil ?_
        refine Then.go ?_
        refine AW.ret ?_
        refine ⟨(by exact .inr rfl), _, _, (.cons (.tmp rfl) .nil), SubG.nil, ?_, rfl, rfl⟩
        refine ⟨sl_congr ?_, rfl⟩
        rw [List.drop_zero, List.take_of_length_le (by simp), i2, decodeL_end (by omega), List.append_nil]
    · intro h2
      refine AL.not rfl rfl (by decide) ?_
      refine AL.not rfl rfl (by decide) ?_
      refine AL.not rfl rfl (by decide) ?_
      refine AL.pure rfl rfl (by decide) (P_pickF rfl rfl) ?_
      refine AL.nil ?_
      refine Then.go ?_
      refine AW.condF rfl ?_
      refine AW.exit ?_
      refine Then.e ?_
      refine Round.e ?_
      refine InBlock.e ?_
      refine Then.go ?_
      refine AW.seq ?_
      refine AW.region ?_
      refine AL.pure rfl rfl (by decide) (P_move rfl) ?_
      refine AL.pure rfl rfl (by decide) (P_assign rfl) ?_
      refine AL.letGo 2 203 0 rfl rfl rfl (by decide) rfl (by (simp only [bs_length, List.length_map, List.length_append, List.length_replicate, List.length_set, List.length_take, List.length_nil, List.length_cons, List.length_drop]; omega)) ?_
      refine AL.nil ?_
      refine Then.go ?_
      refine AW.ret ?_
      refine ⟨(by exact .inr rfl), _, _, (.cons (.tmp rfl) .nil), SubG.nil, ?_, rfl, rfl⟩
      refine ⟨sl_congr ?_, rfl⟩
      rw [List.drop_zero, List.take_of_length_le (by simp), i2, decodeL_end (by omega), List.append_nil]
end Go.Proofs.YtmakeajjgjnldaaGreatDoor
