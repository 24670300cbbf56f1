/- Walks, part 23: calls read from bytes. -/
import Derived.Test.YtmakeajjgjnldaaGreatDoorS22
import Derived.Test.YtmakeajjgjnldaaGreatDoorM4
set_option linter.unusedVariables false
set_option linter.unusedSimpArgs false
set_option maxRecDepth 100000
namespace Go.Proofs.YtmakeajjgjnldaaGreatDoor
open Go Go.Ab

def waysL : List ByteArray := [⟨#[47, 97]⟩, ⟨#[47, 98]⟩, ⟨#[47, 100]⟩, ⟨#[47, 100, 47, 97]⟩, ⟨#[47, 100, 47, 98]⟩, ⟨#[47, 100, 47, 101]⟩, ⟨#[47, 108]⟩, ⟨#[47]⟩]
def targL : List ByteArray := [⟨#[97]⟩, ⟨#[47, 100]⟩, ⟨#[46, 46]⟩, ⟨#[108]⟩]
theorem str_at {l : List ByteArray} {j : Nat} (h : j < l.length) : ((l.map vS : List AV))[0 + j * 1]? = some (vS (l.getD j emS)) := by
  rw [Nat.zero_add, Nat.mul_one]; simp [List.getElem?_eq_getElem h, List.getD, h]
/-- Six letters of a script. -/
structure Ltr where
  p : UInt8
  q : UInt8
  r : UInt8
  s : UInt8
  t : UInt8
  u : UInt8
abbrev u8N (x : UInt8) : Tr := iN x.toNat
def Ltr.t' (x : Ltr) : Tr := .agg [u8N x.p, u8N x.q, u8N x.r, u8N x.s, u8N x.t, u8N x.u]
def callN (x : Ltr) : Call := ⟨(x.p.toNat % 18 : Nat), waysL.getD (x.q.toNat % 8) emS, if ((x.p.toNat % 18 : Nat) : Int) = 10 then targL.getD (x.r.toNat % 4) emS else waysL.getD (x.r.toNat % 8) emS, (x.s.toNat % 4 : Nat), (8 * x.t.toNat : Nat), (4 * x.t.toNat : Nat),
  if ((x.p.toNat % 18 : Nat) : Int) = 13 then (x.s.toNat % 2 : Nat) else (x.s.toNat % 64 : Nat), List.replicate (x.u.toNat % 40) x.t, if 200 ≤ (x.p.toNat : Int) then (x.u.toNat : Nat) else -1, x.t⟩

theorem tf41 : FldIs Tryz.prog fs41 [(0, 1), (1, 1), (2, 1), (3, 1), (4, 1), (5, 1), (6, 1), (7, 1), (8, 1), (9, 1)] := ⟨by kernel_rfl⟩
theorem tz42 : TyZ Tryz.prog 42 (.agg #[.int .i64 0, .string ⟨#[]⟩, .string ⟨#[]⟩, .int .i64 0, .int .i64 0, .int .i64 0, .int .i64 0, .slice none 0 0, .int .i64 0, .int .u8 0]) := ⟨by kernel_rfl⟩
abbrev fs99 : Array Field := #[⟨ "p", 3, 0, false, "", "garret/script", 0⟩, ⟨ "q", 3, 1, false, "", "garret/script", 8⟩, ⟨ "r", 3, 2, false, "", "garret/script", 16⟩, ⟨ "s", 3, 3, false, "", "garret/script", 24⟩, ⟨ "t", 3, 4, false, "", "garret/script", 32⟩, ⟨ "u", 3, 5, false, "", "garret/script", 40⟩]
theorem ty100 : TyIs Tryz.prog 100 (.struct fs99) 6 := ⟨Tryz.underlying100, by kernel_rfl⟩
theorem ty156 : TyIs Tryz.prog 156 (.array 8 9) 8 := ⟨Tryz.underlying156, by kernel_rfl⟩
theorem tz156 : TyZ Tryz.prog 156 (.agg #[.string ⟨#[]⟩, .string ⟨#[]⟩, .string ⟨#[]⟩, .string ⟨#[]⟩, .string ⟨#[]⟩, .string ⟨#[]⟩, .string ⟨#[]⟩, .string ⟨#[]⟩]) := ⟨by kernel_rfl⟩
theorem ty158 : TyIs Tryz.prog 158 (.array 4 9) 4 := ⟨Tryz.underlying158, by kernel_rfl⟩
theorem tz158 : TyZ Tryz.prog 158 (.agg #[.string ⟨#[]⟩, .string ⟨#[]⟩, .string ⟨#[]⟩, .string ⟨#[]⟩]) := ⟨by kernel_rfl⟩

theorem C_Repeat_zero (x : UInt8) : ACalls Tryz.prog 70 [sB [x], vI .i64 0] ([]) ([]) (fun r G => r = .tr (.sl 1 []) ∧ G = []) := by
  refine acalls_of_body 77 [] Tryz.func70 rfl (by kernel_rfl) Tryz.ntmps70 (Nat.le_of_ble_eq_true rfl) rfl ?_
  refine AW.seq ?_
  refine AW.region ?_
  refine AL.pure rfl rfl (by decide) (P_assign rfl) ?_
  refine AL.nil ?_
  refine Then.go ?_
  refine AW.seq ?_
  refine AW.seq ?_
  refine AW.region ?_
  refine AL.pure rfl rfl (by decide) (P_move rfl) ?_
  refine AL.pure rfl rfl (by decide) (P_eql rfl rfl) ?_
  refine AL.nil ?_
  refine Then.go ?_
  refine AW.condT rfl ?_
  refine AW.seq ?_
  refine AW.region ?_
  refine AL.mk rfl rfl (by decide) (E_lit ty26 ty5 tz5 rfl rfl) ?_
  refine AL.pure rfl rfl (by decide) (P_assign rfl) ?_
  refine AL.nil ?_
  refine Then.go ?_
  refine AW.ret ?_
  refine Then.r ?_
  refine ⟨(by exact .inr rfl), _, _, (.cons (.tmp rfl) .nil), SubG.nil, ?_, rfl, rfl⟩
  exact ⟨rfl, rfl⟩

theorem C_Repeat_any (x : UInt8) (k : Nat) (hk : k ≤ 1000) : ACalls Tryz.prog 70 [sB [x], vI .i64 (k : Nat)] [] [] (fun r G => r = .tr (.sl 1 (bs (List.replicate k x))) ∧ G = []) := by
  rcases Nat.eq_zero_or_pos k with rfl | h
  · exact C_Repeat_zero x
  · refine (ACalls.data1 (C_bytes_Repeat x k h (by omega)) (by simp)).mono fun r G h => ?_
    rw [List.take_of_length_le (by simp)] at h
    simpa [bs] using h

theorem C_script_ways  : ACalls Tryz.prog 75 [] ([]) ([]) (fun r G => r = .tr (.agg (waysL.map sT)) ∧ G = []) := by
  refine acalls_of_body 2 [] Tryz.func75 rfl (by kernel_rfl) Tryz.ntmps75 (Nat.le_of_ble_eq_true rfl) rfl ?_
  refine AW.seq ?_
  refine AW.region ?_
  refine AL.eff rfl rfl (by decide) (E_alloc 100 tz156 rfl rfl rfl) ?_
  refine AL.nil ?_
  refine Then.go ?_
  refine AW.seq ?_
  refine AW.region ?_
  refine AL.pure rfl rfl (by decide) (P_buildArr ty156 ty9 tz156 rfl) ?_
  refine AL.eff0 rfl rfl (E_store ty156 rfl rfl rfl rfl rfl (Nat.le_of_ble_eq_true rfl)) ?_
  refine AL.nil ?_
  refine Then.go ?_
  refine AW.ret ?_
  refine ⟨(by exact .inr rfl), _, _, (.cons (.cellA rfl rfl ty156 rfl (Nat.le_of_ble_eq_true rfl)) .nil), SubG.nil, ?_, rfl, rfl⟩
  exact ⟨rfl, rfl⟩
theorem C_script_targets  : ACalls Tryz.prog 76 [] ([]) ([]) (fun r G => r = .tr (.agg (targL.map sT)) ∧ G = []) := by
  refine acalls_of_body 2 [] Tryz.func76 rfl (by kernel_rfl) Tryz.ntmps76 (Nat.le_of_ble_eq_true rfl) rfl ?_
  refine AW.seq ?_
  refine AW.region ?_
  refine AL.eff rfl rfl (by decide) (E_alloc 100 tz158 rfl rfl rfl) ?_
  refine AL.nil ?_
  refine Then.go ?_
  refine AW.seq ?_
  refine AW.region ?_
  refine AL.pure rfl rfl (by decide) (P_buildArr ty158 ty9 tz158 rfl) ?_
  refine AL.eff0 rfl rfl (E_store ty158 rfl rfl rfl rfl rfl (Nat.le_of_ble_eq_true rfl)) ?_
  refine AL.nil ?_
  refine Then.go ?_
  refine AW.ret ?_
  refine ⟨(by exact .inr rfl), _, _, (.cons (.cellA rfl rfl ty158 rfl (Nat.le_of_ble_eq_true rfl)) .nil), SubG.nil, ?_, rfl, rfl⟩
  exact ⟨rfl, rfl⟩
set_option maxHeartbeats 4000000 in
theorem C_script_letters_call (x : Ltr) : ACalls Tryz.prog 49 [.tr x.t'] ([]) ([]) (fun r G => r = .tr (callN x).t ∧ G = []) := by
  have bp := x.p.toNat_lt
  have bq := x.q.toNat_lt
  have br := x.r.toNat_lt
  have bs_ := x.s.toNat_lt
  have bt := x.t.toNat_lt
  have bu := x.u.toNat_lt
  refine acalls_of_body 69 [] Tryz.func49 rfl (by kernel_rfl) Tryz.ntmps49 (Nat.le_of_ble_eq_true rfl) rfl ?_
  refine AW.seq ?_
  refine AW.region ?_
  refine AL.eff rfl rfl (by decide) (E_box 101 rfl rfl rfl rfl rfl rfl) ?_
  refine AL.eff rfl rfl (by decide) (E_alloc 102 tz42 rfl rfl rfl) ?_
  refine AL.nil ?_
  refine Then.go ?_
  refine AW.seq ?_
  refine AW.region ?_
  refine AL.call (C_script_ways ) _ [] [] _ rfl (by decide) rfl rfl rfl SubG.nil ?_
  rintro _ _ ⟨rfl, rfl⟩
  refine ⟨rfl, rfl, ?_⟩
  refine AL.call (C_script_targets ) _ [] [] _ rfl (by decide) rfl rfl rfl SubG.nil ?_
  rintro _ _ ⟨rfl, rfl⟩
  refine ⟨rfl, rfl, ?_⟩
  refine AL.eff rfl rfl (by decide) (E_alloc 103 tz156 rfl rfl rfl) ?_
  refine AL.eff rfl rfl (by decide) (E_alloc 104 tz158 rfl rfl rfl) ?_
  refine AL.eff0 rfl rfl (E_store ty156 rfl rfl rfl rfl rfl (Nat.le_of_ble_eq_true rfl)) ?_
  refine AL.recastO 103 (.row 156 (waysL.map vS)) rfl rfl ?_
  refine AL.eff0 rfl rfl (E_store ty158 rfl rfl rfl rfl rfl (Nat.le_of_ble_eq_true rfl)) ?_
  refine AL.recastO 104 (.row 158 (targL.map vS)) rfl rfl ?_
  refine AL.nil ?_
  refine Then.go ?_
  refine AW.seq ?_
  refine AD.start ?_
  refine AD.op 0 8 [] _ rfl rfl rfl (B_pure (P_fieldAddr ty100 rfl ty3 rfl)) ?_
  refine AD.op 1 9 [0] _ rfl rfl rfl (B_pure (P_load ty3 rfl rfl rfl rfl)) ?_
  refine AD.op 2 10 [0, 1] _ rfl rfl rfl (B_pure (P_remNN 18 rfl rfl rfl (by decide))) ?_
  refine AD.op 3 11 [] _ rfl rfl rfl (B_pure (P_fieldAddr ty100 rfl ty3 rfl)) ?_
  refine AD.op 4 12 [3] _ rfl rfl rfl (B_pure (P_load ty3 rfl rfl rfl rfl)) ?_
  refine AD.op 5 13 [3, 4] _ rfl rfl rfl (B_pure (P_remNN 8 rfl rfl rfl (by decide))) ?_
  refine AD.op 6 14 [3, 4, 5] _ rfl rfl rfl (B_pure (P_indexArr (j := x.q.toNat % 8) ty156 ty9 rfl rfl (by omega))) ?_
  refine AD.op 7 15 [3, 4, 5, 6] _ rfl rfl rfl (B_pure (P_load ty9 rfl rfl rfl (str_at (l := waysL) (Nat.mod_lt _ (by decide))))) ?_
  refine AD.op 8 16 [] _ rfl rfl rfl (B_pure (P_fieldAddr ty100 rfl ty3 rfl)) ?_
  refine AD.op 9 17 [8] _ rfl rfl rfl (B_pure (P_load ty3 rfl rfl rfl rfl)) ?_
  refine AD.op 10 18 [8, 9] _ rfl rfl rfl (B_pure (P_remNN 8 rfl rfl rfl (by decide))) ?_
  refine AD.op 11 19 [8, 9, 10] _ rfl rfl rfl (B_pure (P_indexArr (j := x.r.toNat % 8) ty156 ty9 rfl rfl (by omega))) ?_
  refine AD.op 12 20 [8, 9, 10, 11] _ rfl rfl rfl (B_pure (P_load ty9 rfl rfl rfl (str_at (l := waysL) (Nat.mod_lt _ (by decide))))) ?_
  refine AD.op 13 21 [] _ rfl rfl rfl (B_pure (P_fieldAddr ty100 rfl ty3 rfl)) ?_
  refine AD.op 14 22 [13] _ rfl rfl rfl (B_pure (P_load ty3 rfl rfl rfl rfl)) ?_
  refine AD.op 15 23 [13, 14] _ rfl rfl rfl (B_pure (P_remNN 4 rfl rfl rfl (by decide))) ?_
  refine AD.op 16 24 [] _ rfl rfl rfl (B_pure (P_fieldAddr ty100 rfl ty3 rfl)) ?_
  refine AD.op 17 25 [16] _ rfl rfl rfl (B_pure (P_load ty3 rfl rfl rfl rfl)) ?_
  refine AD.op 18 26 [16, 17] _ rfl rfl rfl (B_pure (P_mulNN 8 rfl rfl rfl (by omega))) ?_
  refine AD.op 19 27 [] _ rfl rfl rfl (B_pure (P_fieldAddr ty100 rfl ty3 rfl)) ?_
  refine AD.op 20 28 [19] _ rfl rfl rfl (B_pure (P_load ty3 rfl rfl rfl rfl)) ?_
  refine AD.op 21 29 [19, 20] _ rfl rfl rfl (B_pure (P_mulNN 4 rfl rfl rfl (by omega))) ?_
  refine AD.op 22 30 [] _ rfl rfl rfl (B_pure (P_fieldAddr ty100 rfl ty3 rfl)) ?_
  refine AD.op 23 31 [22] _ rfl rfl rfl (B_pure (P_load ty3 rfl rfl rfl rfl)) ?_
  refine AD.op 24 32 [22, 23] _ rfl rfl rfl (B_pure (P_remNN 64 rfl rfl rfl (by decide))) ?_
  refine AD.op 25 33 [] _ rfl rfl rfl (B_pure (P_fieldAddr ty100 rfl ty3 rfl)) ?_
  refine AD.op 26 34 [25] _ rfl rfl rfl (B_pure (P_load ty3 rfl rfl rfl rfl)) ?_
  refine AD.op 27 35 [25, 26] _ rfl rfl rfl (B_pure (P_conv_u8 ty3 ty5 rfl (by omega) (by omega))) ?_
  refine AD.op 28 36 [0, 1, 2, 3, 4, 5, 6, 7, 8, 9, 10, 11, 12, 13, 14, 15, 16, 17, 18, 19, 20, 21, 22, 23, 24, 25, 26, 27] _ rfl rfl rfl (B_pure (P_build ty42 tz42 tf41 rfl)) ?_
  refine AD.op 29 5 [] _ rfl rfl rfl (B_alloc 105 tz42) ?_
  refine AD.tail mixed rfl (by kernel_rfl) rfl ?_
  refine AL.eff0 rfl rfl (E_store ty42 rfl rfl rfl rfl rfl (Nat.le_of_ble_eq_true rfl)) ?_
  refine AL.recastO 105 (.row 42 [vI .i64 (x.p.toNat % 18 : Nat), vS (waysL.getD (x.q.toNat % 8) emS), vS (waysL.getD (x.r.toNat % 8) emS), vI .i64 (x.s.toNat % 4 : Nat), vI .i64 (8 * x.t.toNat : Nat), vI .i64 (4 * x.t.toNat : Nat), vI .i64 ((x.s.toNat % 64 : Nat)), .tr (.val (.slice none 0 0)), vI .i64 (-1), .tr (b8 x.t)]) rfl rfl ?_
  refine AL.nil ?_
  refine Then.go ?_
  refine AW.seq ?_
  refine AW.region ?_
  refine AL.pure rfl rfl (by decide) (P_fieldAddr ty100 rfl ty3 rfl) ?_
  refine AL.pure rfl rfl (by decide) (P_load ty3 rfl rfl rfl rfl) ?_
  refine AL.pure rfl rfl (by decide) (P_conv_u8 ty3 ty5 rfl (by omega) (by omega)) ?_
  refine AL.mk rfl rfl (by decide) (E_lit ty26 ty5 tz5 rfl rfl) ?_
  refine AL.pure rfl rfl (by decide) (P_fieldAddr ty100 rfl ty3 rfl) ?_
  refine AL.pure rfl rfl (by decide) (P_load ty3 rfl rfl rfl rfl) ?_
  refine AL.pure rfl rfl (by decide) (P_remNN 40 rfl rfl rfl (by decide)) ?_
  refine AL.call (C_Repeat_any x.t (x.u.toNat % 40) (by omega) ) _ [] [] _ rfl (by decide) rfl rfl rfl SubG.nil ?_
  rintro _ _ ⟨rfl, rfl⟩
  refine ⟨rfl, rfl, ?_⟩
  refine AL.pure rfl rfl (by decide) (P_fieldAddr ty42 rfl ty26 rfl) ?_
  refine AL.eff0 rfl rfl (E_store ty26 rfl rfl rfl rfl rfl (Nat.le_of_ble_eq_true rfl)) ?_
  refine AL.recastO 105 (.row 42 [vI .i64 (x.p.toNat % 18 : Nat), vS (waysL.getD (x.q.toNat % 8) emS), vS (waysL.getD (x.r.toNat % 8) emS), vI .i64 (x.s.toNat % 4 : Nat), vI .i64 (8 * x.t.toNat : Nat), vI .i64 (4 * x.t.toNat : Nat), vI .i64 ((x.s.toNat % 64 : Nat)), .tr (.sl 1 (bs (List.replicate (x.u.toNat % 40) x.t))), vI .i64 (-1), .tr (b8 x.t)]) rfl rfl ?_
  refine AL.nil ?_
  refine Then.go ?_
  refine AW.seq ?_
  refine AW.seq ?_
  refine AW.region ?_
  refine AL.pure rfl rfl (by decide) (P_fieldAddr ty42 rfl ty3 rfl) ?_
  refine AL.pure rfl rfl (by decide) (P_load ty3 rfl rfl rfl rfl) ?_
  refine AL.nil ?_
  refine Then.go ?_
  refine AW.block ?_
  refine AW.seq ?_
  refine AW.region ?_
  refine AL.pure rfl rfl (by decide) (P_eql rfl rfl) ?_
  refine AL.pure rfl rfl (by decide) (P_assign rfl) ?_
  refine AL.nil ?_
  refine Then.go ?_
  refine AW.condD _ rfl ?_ ?_
  · intro h1
    refine AW.region ?_
    refine AL.pure rfl rfl (by decide) (P_fieldAddr ty100 rfl ty3 rfl) ?_
    refine AL.pure rfl rfl (by decide) (P_load ty3 rfl rfl rfl rfl) ?_
    refine AL.pure rfl rfl (by decide) (P_remNN 4 rfl rfl rfl (by decide)) ?_
    refine AL.pure rfl rfl (by decide) (P_indexArr (j := x.r.toNat % 4) ty158 ty9 rfl rfl (by omega)) ?_
    refine AL.pure rfl rfl (by decide) (P_load ty9 rfl rfl rfl (str_at (l := targL) (Nat.mod_lt _ (by decide)))) ?_
    refine AL.pure rfl rfl (by decide) (P_fieldAddr ty42 rfl ty9 rfl) ?_
    refine AL.eff0 rfl rfl (E_store ty9 rfl rfl rfl rfl rfl (Nat.le_of_ble_eq_true rfl)) ?_
    refine AL.recastO 105 (.row 42 [vI .i64 (x.p.toNat % 18 : Nat), vS (waysL.getD (x.q.toNat % 8) emS), vS (targL.getD (x.r.toNat % 4) emS), vI .i64 (x.s.toNat % 4 : Nat), vI .i64 (8 * x.t.toNat : Nat), vI .i64 (4 * x.t.toNat : Nat), vI .i64 ((x.s.toNat % 64 : Nat)), .tr (.sl 1 (bs (List.replicate (x.u.toNat % 40) x.t))), vI .i64 (-1), .tr (b8 x.t)]) rfl rfl ?_
    refine AL.nil ?_
    refine InBlock.go ?_
    refine Then.go ?_
    refine AW.seq ?_
    refine AW.seq ?_
    refine AW.region ?_
    refine AL.pure rfl rfl (by decide) (P_fieldAddr ty100 rfl ty3 rfl) ?_
    refine AL.pure rfl rfl (by decide) (P_load ty3 rfl rfl rfl rfl) ?_
    refine AL.pure rfl rfl (by decide) (P_geq rfl rfl) ?_
    refine AL.nil ?_
    refine Then.go ?_
    refine AW.condD _ rfl ?_ ?_
    · intro h2
      refine AW.region ?_
      refine AL.pure rfl rfl (by decide) (P_fieldAddr ty100 rfl ty3 rfl) ?_
      refine AL.pure rfl rfl (by decide) (P_load ty3 rfl rfl rfl rfl) ?_
      refine AL.pure rfl rfl (by decide) (P_fieldAddr ty42 rfl ty3 rfl) ?_
      refine AL.eff0 rfl rfl (E_store ty3 rfl rfl rfl rfl rfl (Nat.le_of_ble_eq_true rfl)) ?_
      refine AL.nil ?_
      refine Then.go ?_
      refine AW.seq ?_
      refine AW.region ?_
      refine AL.pure rfl rfl (by decide) (P_loadA ty42 rfl rfl rfl (Nat.le_of_ble_eq_true rfl)) ?_
      refine AL.eff0 rfl rfl (E_store ty42 rfl rfl rfl rfl rfl (Nat.le_of_ble_eq_true rfl)) ?_
      refine AL.recastO 102 (.row 42 ((callN x).c.map AV.tr)) rfl (by simp only [callN, Call.c, *, if_true, if_false]; rfl) ?_
      refine AL.nil ?_
      refine Then.go ?_
      refine AW.ret ?_
      refine ⟨(by exact .inr rfl), _, _, (.cons (.cellA rfl rfl ty42 rfl (Nat.le_of_ble_eq_true rfl)) .nil), SubG.nil, ?_, rfl, rfl⟩
      exact ⟨rfl, rfl⟩
    · intro h2
      refine AW.skip ?_
      refine Then.go ?_
      refine AW.seq ?_
      refine AW.region ?_
      refine AL.pure rfl rfl (by decide) (P_loadA ty42 rfl rfl rfl (Nat.le_of_ble_eq_true rfl)) ?_
      refine AL.eff0 rfl rfl (E_store ty42 rfl rfl rfl rfl rfl (Nat.le_of_ble_eq_true rfl)) ?_
      refine AL.recastO 102 (.row 42 ((callN x).c.map AV.tr)) rfl (by simp only [callN, Call.c, *, if_true, if_false]; rfl) ?_
      refine AL.nil ?_
      refine Then.go ?_
      refine AW.ret ?_
      refine ⟨(by exact .inr rfl), _, _, (.cons (.cellA rfl rfl ty42 rfl (Nat.le_of_ble_eq_true rfl)) .nil), SubG.nil, ?_, rfl, rfl⟩
      exact ⟨rfl, rfl⟩
  · intro h1
    refine AW.seq ?_
    refine AW.region ?_
    refine AL.pure rfl rfl (by decide) (P_eql rfl rfl) ?_
    refine AL.pure rfl rfl (by decide) (P_assign rfl) ?_
    refine AL.nil ?_
    refine Then.go ?_
    refine AW.condD _ rfl ?_ ?_
    · intro h3
      refine AW.region ?_
      refine AL.pure rfl rfl (by decide) (P_fieldAddr ty100 rfl ty3 rfl) ?_
      refine AL.pure rfl rfl (by decide) (P_load ty3 rfl rfl rfl rfl) ?_
      refine AL.pure rfl rfl (by decide) (P_remNN 2 rfl rfl rfl (by decide)) ?_
      refine AL.pure rfl rfl (by decide) (P_fieldAddr ty42 rfl ty3 rfl) ?_
      refine AL.eff0 rfl rfl (E_store ty3 rfl rfl rfl rfl rfl (Nat.le_of_ble_eq_true rfl)) ?_
      refine AL.recastO 105 (.row 42 [vI .i64 (x.p.toNat % 18 : Nat), vS (waysL.getD (x.q.toNat % 8) emS), vS (waysL.getD (x.r.toNat % 8) emS), vI .i64 (x.s.toNat % 4 : Nat), vI .i64 (8 * x.t.toNat : Nat), vI .i64 (4 * x.t.toNat : Nat), vI .i64 ((x.s.toNat % 2 : Nat)), .tr (.sl 1 (bs (List.replicate (x.u.toNat % 40) x.t))), vI .i64 (-1), .tr (b8 x.t)]) rfl rfl ?_
      refine AL.nil ?_
      refine InBlock.go ?_
      refine Then.go ?_
      refine AW.seq ?_
      refine AW.seq ?_
      refine AW.region ?_
      refine AL.pure rfl rfl (by decide) (P_fieldAddr ty100 rfl ty3 rfl) ?_
      refine AL.pure rfl rfl (by decide) (P_load ty3 rfl rfl rfl rfl) ?_
      refine AL.pure rfl rfl (by decide) (P_geq rfl rfl) ?_
      refine AL.nil ?_
      refine Then.go ?_
      refine AW.condD _ rfl ?_ ?_
      · intro h4
        refine AW.region ?_
        refine AL.pure rfl rfl (by decide) (P_fieldAddr ty100 rfl ty3 rfl) ?_
        refine AL.pure rfl rfl (by decide) (P_load ty3 rfl rfl rfl rfl) ?_
        refine AL.pure rfl rfl (by decide) (P_fieldAddr ty42 rfl ty3 rfl) ?_
        refine AL.eff0 rfl rfl (E_store ty3 rfl rfl rfl rfl rfl (Nat.le_of_ble_eq_true rfl)) ?_
        refine AL.nil ?_
        refine Then.go ?_
        refine AW.seq ?_
        refine AW.region ?_
        refine AL.pure rfl rfl (by decide) (P_loadA ty42 rfl rfl rfl (Nat.le_of_ble_eq_true rfl)) ?_
        refine AL.eff0 rfl rfl (E_store ty42 rfl rfl rfl rfl rfl (Nat.le_of_ble_eq_true rfl)) ?_
        refine AL.recastO 102 (.row 42 ((callN x).c.map AV.tr)) rfl (by simp only [callN, Call.c, *, if_true, if_false]; rfl) ?_
        refine AL.nil ?_
        refine Then.go ?_
        refine AW.ret ?_
        refine ⟨(by exact .inr rfl), _, _, (.cons (.cellA rfl rfl ty42 rfl (Nat.le_of_ble_eq_true rfl)) .nil), SubG.nil, ?_, rfl, rfl⟩
        exact ⟨rfl, rfl⟩
      · intro h4
        refine AW.skip ?_
        refine Then.go ?_
        refine AW.seq ?_
        refine AW.region ?_
        refine AL.pure rfl rfl (by decide) (P_loadA ty42 rfl rfl rfl (Nat.le_of_ble_eq_true rfl)) ?_
        refine AL.eff0 rfl rfl (E_store ty42 rfl rfl rfl rfl rfl (Nat.le_of_ble_eq_true rfl)) ?_
        refine AL.recastO 102 (.row 42 ((callN x).c.map AV.tr)) rfl (by simp only [callN, Call.c, *, if_true, if_false]; rfl) ?_
        refine AL.nil ?_
        refine Then.go ?_
        refine AW.ret ?_
        refine ⟨(by exact .inr rfl), _, _, (.cons (.cellA rfl rfl ty42 rfl (Nat.le_of_ble_eq_true rfl)) .nil), SubG.nil, ?_, rfl, rfl⟩
        exact ⟨rfl, rfl⟩
    · intro h3
      refine AW.skip ?_
      refine InBlock.go ?_
      refine Then.go ?_
      refine AW.seq ?_
      refine AW.seq ?_
      refine AW.region ?_
      refine AL.pure rfl rfl (by decide) (P_fieldAddr ty100 rfl ty3 rfl) ?_
      refine AL.pure rfl rfl (by decide) (P_load ty3 rfl rfl rfl rfl) ?_
      refine AL.pure rfl rfl (by decide) (P_geq rfl rfl) ?_
      refine AL.nil ?_
      refine Then.go ?_
      refine AW.condD _ rfl ?_ ?_
      · intro h5
        refine AW.region ?_
        refine AL.pure rfl rfl (by decide) (P_fieldAddr ty100 rfl ty3 rfl) ?_
        refine AL.pure rfl rfl (by decide) (P_load ty3 rfl rfl rfl rfl) ?_
        refine AL.pure rfl rfl (by decide) (P_fieldAddr ty42 rfl ty3 rfl) ?_
        refine AL.eff0 rfl rfl (E_store ty3 rfl rfl rfl rfl rfl (Nat.le_of_ble_eq_true rfl)) ?_
        refine AL.nil ?_
        refine Then.go ?_
        refine AW.seq ?_
        refine AW.region ?_
        refine AL.pure rfl rfl (by decide) (P_loadA ty42 rfl rfl rfl (Nat.le_of_ble_eq_true rfl)) ?_
        refine AL.eff0 rfl rfl (E_store ty42 rfl rfl rfl rfl rfl (Nat.le_of_ble_eq_true rfl)) ?_
        refine AL.recastO 102 (.row 42 ((callN x).c.map AV.tr)) rfl (by simp only [callN, Call.c, *, if_true, if_false]; rfl) ?_
        refine AL.nil ?_
        refine Then.go ?_
        refine AW.ret ?_
        refine ⟨(by exact .inr rfl), _, _, (.cons (.cellA rfl rfl ty42 rfl (Nat.le_of_ble_eq_true rfl)) .nil), SubG.nil, ?_, rfl, rfl⟩
        exact ⟨rfl, rfl⟩
      · intro h5
        refine AW.skip ?_
        refine Then.go ?_
        refine AW.seq ?_
        refine AW.region ?_
        refine AL.pure rfl rfl (by decide) (P_loadA ty42 rfl rfl rfl (Nat.le_of_ble_eq_true rfl)) ?_
        refine AL.eff0 rfl rfl (E_store ty42 rfl rfl rfl rfl rfl (Nat.le_of_ble_eq_true rfl)) ?_
        refine AL.recastO 102 (.row 42 ((callN x).c.map AV.tr)) rfl (by simp only [callN, Call.c, *, if_true, if_false]; rfl) ?_
        refine AL.nil ?_
        refine Then.go ?_
        refine AW.ret ?_
        refine ⟨(by exact .inr rfl), _, _, (.cons (.cellA rfl rfl ty42 rfl (Nat.le_of_ble_eq_true rfl)) .nil), SubG.nil, ?_, rfl, rfl⟩
        exact ⟨rfl, rfl⟩
end Go.Proofs.YtmakeajjgjnldaaGreatDoor
