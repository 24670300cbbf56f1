/- Walks, part 8: the chip that journals lie on. -/
import Derived.Test.YtmakeajjgjnldaaGreatDoorS7
set_option linter.unusedVariables false
set_option linter.unusedSimpArgs false
set_option maxRecDepth 100000
namespace Go.Proofs.YtmakeajjgjnldaaGreatDoor
open Go Go.Ab

structure Geo where
  s : Int
  z : Int
  b : Int
  p : Int
  q : Int
abbrev Geo.c (g : Geo) : List Tr := [i8 g.s, i8 g.z, i8 g.b, i8 g.p, i8 g.q]
def Geo.t (g : Geo) : Tr := .agg g.c
def withinB (v l t : Int) : Bool := decide (l ≤ v) && decide (v ≤ t)
def rightG (g : Geo) : Bool := decide (g.s.tmod 2 = 0) && withinB g.s 2 16 && withinB g.z 256 4096 && withinB g.b 4 64 && withinB g.p 2 32 && withinB g.q 16 256
def norO (g : Geo) (N : Nat) : AObj := .row 147 [.tr (i8 g.s), .tr (i8 g.z), .tr (i8 g.b), .tr (i8 g.p), .tr (i8 g.q), .ptr 1 0, .own 1 11 0 N, .map 12]
def orAt (m : List UInt8) (off i : Nat) (x : UInt8) : List UInt8 := m.mapIdx fun j v => if off ≤ j ∧ j < off + i then v ||| x else v
theorem orAt_length (m : List UInt8) (off i : Nat) (x : UInt8) : (orAt m off i x).length = m.length := by simp [orAt]
theorem orAt_zero (m : List UInt8) (off : Nat) (x : UInt8) : orAt m off 0 x = m := by
  apply List.ext_getElem (by simp [orAt])
  intro j h1 h2
  simp only [orAt, List.getElem_mapIdx]
  rw [if_neg (by omega)]
theorem orAt_at {m : List UInt8} {off i : Nat} {x : UInt8} (h : off + i < m.length) : (bs (orAt m off i x))[off + i]? = some (b8 (m.getD (off + i) 0)) := by
  have hl := orAt_length m off i x
  rw [bs, List.getElem?_map, List.getElem?_eq_getElem (by omega)]
  simp only [orAt, List.getElem_mapIdx, Option.map_some]
  rw [if_neg (by omega)]
  simp [List.getD, h]
theorem orAt_get {m : List UInt8} {off i : Nat} {x : UInt8} (h : off + i < m.length) : (orAt m off i x).getD (off + i) 0 = m.getD (off + i) 0 := by
  have hl := orAt_length m off i x
  simp only [List.getD, List.getElem?_eq_getElem (show off + i < (orAt m off i x).length by omega), List.getElem?_eq_getElem h, Option.getD_some]
  simp only [orAt, List.getElem_mapIdx]
  rw [if_neg (by omega)]
theorem orAt_step {m : List UInt8} {off i : Nat} {x : UInt8} (h : off + i < m.length) : (bs (orAt m off i x)).set (off + i) (b8 (m.getD (off + i) 0 ||| x)) = bs (orAt m off (i + 1) x) := by
  rw [bs, ← List.map_set]
  congr 1
  apply List.ext_getElem (by simp [orAt])
  intro j h1 h2
  simp only [orAt, List.getElem_set, List.getElem_mapIdx]
  by_cases e : off + i = j
  · subst e
    rw [if_pos rfl, if_pos (by omega)]
    simp [List.getD, h]
  · rw [if_neg e]
    by_cases e2 : off ≤ j ∧ j < off + i
    · rw [if_pos e2, if_pos (by omega)]
    · rw [if_neg e2, if_neg (by omega)]

abbrev fs47 : Array Field := #[⟨ "Sectors", 3, 0, false, "", "", 0⟩, ⟨ "Sector", 3, 1, false, "", "", 8⟩, ⟨ "Blocks", 3, 2, false, "", "", 16⟩, ⟨ "Pages", 3, 3, false, "", "", 24⟩, ⟨ "Page", 3, 4, false, "", "", 32⟩]
theorem ty48 : TyIs Tryz.prog 48 (.struct fs47) 5 := ⟨Tryz.underlying48, by kernel_rfl⟩
theorem tz48 : TyZ Tryz.prog 48 (.agg #[.int .i64 0, .int .i64 0, .int .i64 0, .int .i64 0, .int .i64 0]) := ⟨by kernel_rfl⟩
theorem ty49 : TyIs Tryz.prog 49 (.pointer 147) 1 := ⟨Tryz.underlying49, by kernel_rfl⟩
theorem ty145 : TyIs Tryz.prog 145 (.map 322 3) 1 := ⟨Tryz.underlying145, by kernel_rfl⟩
abbrev fs146 : Array Field := #[⟨ "g", 48, 0, false, "", "garret/nor", 0⟩, ⟨ "p", 70, 5, false, "", "garret/nor", 40⟩, ⟨ "b", 26, 6, false, "", "garret/nor", 48⟩, ⟨ "erases", 145, 7, false, "", "garret/nor", 72⟩]
theorem ty147 : TyIs Tryz.prog 147 (.struct fs146) 8 := ⟨Tryz.underlying147, by kernel_rfl⟩
theorem ty322 : TyIs Tryz.prog 322 (.array 1 3) 1 := ⟨Tryz.underlying322, by kernel_rfl⟩
theorem tz322 : TyZ Tryz.prog 322 (.agg #[.int .i64 0]) := ⟨by kernel_rfl⟩
theorem mi145 : MapIs Tryz.prog 145 322 3 := ⟨Tryz.underlying145, deep_law (m := 5) (by decide) (by kernel_rfl) (by kernel_rfl) (by kernel_rfl)⟩
theorem kf322 : KeyF Tryz.prog 322 k1 in64 := keyA1 Tryz.underlying322 (by kernel_rfl) (by kernel_rfl) Tryz.underlying3 (by kernel_rfl) (Nat.le_of_ble_eq_true (by kernel_rfl))
theorem C_nor_Right (g : Geo) : ACalls Tryz.prog 69 [.tr g.t] ([]) ([]) (fun r G => r = vB (rightG g) ∧ G = []) := by
  refine acalls_of_body 32 [] Tryz.func69 rfl (by kernel_rfl) Tryz.ntmps69 (Nat.le_of_ble_eq_true rfl) rfl ?_
  refine AW.seq ?_
  refine AW.region ?_
  refine AL.eff rfl rfl (by decide) (E_box 101 rfl rfl rfl rfl rfl rfl) ?_
  refine AL.pure rfl rfl (by decide) (P_assign rfl) ?_
  refine AL.nil ?_
  refine Then.go ?_
  refine AW.seq ?_
  refine AW.region ?_
  refine AL.pure rfl rfl (by decide) (P_fieldAddr ty48 rfl ty3 rfl) ?_
  refine AL.pure rfl rfl (by decide) (P_load ty3 rfl rfl rfl rfl) ?_
  refine AL.pure rfl rfl (by decide) (P_rem rfl rfl (by omega)) ?_
  refine AL.pure rfl rfl (by decide) (P_eql rfl rfl) ?_
  refine AL.pure rfl rfl (by decide) (P_move rfl) ?_
  refine AL.caseD (t := 7) _ rfl (by decide) ?_ ?_
  · intro h1
    refine AL.pure rfl rfl (by decide) (P_fieldAddr ty48 rfl ty3 rfl) ?_
    refine AL.pure rfl rfl (by decide) (P_load ty3 rfl rfl rfl rfl) ?_
    refine AL.call (C_nor_within _ _ _) _ [] [] _ rfl (by decide) rfl rfl rfl SubG.nil ?_
    rintro _ _ ⟨rfl, rfl⟩
    refine ⟨rfl, rfl, ?_⟩
    refine AL.pure rfl rfl (by decide) (P_pickT rfl rfl) ?_
    refine AL.pure rfl rfl (by decide) (P_move rfl) ?_
    refine AL_case (t := 12) _ rfl (by decide) ?_ ?_
    · intro h2
      refine AL.pure rfl rfl (by decide) (P_fieldAddr ty48 rfl ty3 rfl) ?_
      refine AL.pure rfl rfl (by decide) (P_load ty3 rfl rfl rfl rfl) ?_
      refine AL.call (C_nor_within _ _ _) _ [] [] _ rfl (by decide) rfl rfl rfl SubG.nil ?_
      rintro _ _ ⟨rfl, rfl⟩
      refine ⟨rfl, rfl, ?_⟩
      refine AL.pure rfl rfl (by decide) (P_pickT rfl rfl) ?_
      refine AL.pure rfl rfl (by decide) (P_move rfl) ?_
      refine AL_case (t := 17) _ rfl (by decide) ?_ ?_
      · intro h3
        refine AL.pure rfl rfl (by decide) (P_fieldAddr ty48 rfl ty3 rfl) ?_
        refine AL.pure rfl rfl (by decide) (P_load ty3 rfl rfl rfl rfl) ?_
        refine AL.call (C_nor_within _ _ _) _ [] [] _ rfl (by decide) rfl rfl rfl SubG.nil ?_
        rintro _ _ ⟨rfl, rfl⟩
        refine ⟨rfl, rfl, ?_⟩
        refine AL.pure rfl rfl (by decide) (P_pickT rfl rfl) ?_
        refine AL.pure rfl rfl (by decide) (P_move rfl) ?_
        refine AL_case (t := 22) _ rfl (by decide) ?_ ?_
        · intro h4
          refine AL.pure rfl rfl (by decide) (P_fieldAddr ty48 rfl ty3 rfl) ?_
          refine AL.pure rfl rfl (by decide) (P_load ty3 rfl rfl rfl rfl) ?_
          refine AL.call (C_nor_within _ _ _) _ [] [] _ rfl (by decide) rfl rfl rfl SubG.nil ?_
          rintro _ _ ⟨rfl, rfl⟩
          refine ⟨rfl, rfl, ?_⟩
          refine AL.pure rfl rfl (by decide) (P_pickT rfl rfl) ?_
          refine AL.pure rfl rfl (by decide) (P_move rfl) ?_
          refine AL_case (t := 27) _ rfl (by decide) ?_ ?_
          · intro h5
            refine AL.pure rfl rfl (by decide) (P_fieldAddr ty48 rfl ty3 rfl) ?_
            refine AL.pure rfl rfl (by decide) (P_load ty3 rfl rfl rfl rfl) ?_
            refine AL.call (C_nor_within _ _ _) _ [] [] _ rfl (by decide) rfl rfl rfl SubG.nil ?_
            rintro _ _ ⟨rfl, rfl⟩
            refine ⟨rfl, rfl, ?_⟩
            refine AL.pure rfl rfl (by decide) (P_pickT rfl rfl) ?_
            refine AL.pure rfl rfl (by decide) (P_assign rfl) ?_
            refine AL.nil ?_
            refine Then.go ?_
            refine AW.ret ?_
            refine ⟨(by exact .inr rfl), _, _, (.cons (.tmp rfl) .nil), SubG.nil, ?_, rfl, rfl⟩
            (refine ⟨?_, rfl⟩; simp [oneOr, rightG, withinB, *]; done)
          · intro h5
            refine AL.not rfl rfl (by decide) ?_
            refine AL.not rfl rfl (by decide) ?_
            refine AL.not rfl rfl (by decide) ?_
            refine AL.pure rfl rfl (by decide) (P_pickF rfl rfl) ?_
            refine AL.pure rfl rfl (by decide) (P_assign rfl) ?_
            refine AL.nil ?_
            refine Then.go ?_
            refine AW.ret ?_
            refine ⟨(by exact .inr rfl), _, _, (.cons (.tmp rfl) .nil), SubG.nil, ?_, rfl, rfl⟩
            (refine ⟨?_, rfl⟩; simp [oneOr, rightG, withinB, *]; done)
        · intro h4
          refine AL.not rfl rfl (by decide) ?_
          refine AL.not rfl rfl (by decide) ?_
          refine AL.not rfl rfl (by decide) ?_
          refine AL.pure rfl rfl (by decide) (P_pickF rfl rfl) ?_
          refine AL.pure rfl rfl (by decide) (P_move rfl) ?_
          refine AL_case (t := 27) _ rfl (by decide) ?_ ?_
          · intro h6
            refine AL.pure rfl rfl (by decide) (P_fieldAddr ty48 rfl ty3 rfl) ?_
            refine AL.pure rfl rfl (by decide) (P_load ty3 rfl rfl rfl rfl) ?_
            refine AL.call (C_nor_within _ _ _) _ [] [] _ rfl (by decide) rfl rfl rfl SubG.nil ?_
            rintro _ _ ⟨rfl, rfl⟩
            refine ⟨rfl, rfl, ?_⟩
            refine AL.pure rfl rfl (by decide) (P_pickT rfl rfl) ?_
            refine AL.pure rfl rfl (by decide) (P_assign rfl) ?_
            refine AL.nil ?_
            refine Then.go ?_
            refine AW.ret ?_
            refine ⟨(by exact .inr rfl), _, _, (.cons (.tmp rfl) .nil), SubG.nil, ?_, rfl, rfl⟩
            contradiction
          · intro h6
            refine AL.not rfl rfl (by decide) ?_
            refine AL.not rfl rfl (by decide) ?_
            refine AL.not rfl rfl (by decide) ?_
            refine AL.pure rfl rfl (by decide) (P_pickF rfl rfl) ?_
            refine AL.pure rfl rfl (by decide) (P_assign rfl) ?_
            refine AL.nil ?_
            refine Then.go ?_
            refine AW.ret ?_
            refine ⟨(by exact .inr rfl), _, _, (.cons (.tmp rfl) .nil), SubG.nil, ?_, rfl, rfl⟩
            (refine ⟨?_, rfl⟩; simp [oneOr, rightG, withinB, *]; done)
      · intro h3
        refine AL.not rfl rfl (by decide) ?_
        refine AL.not rfl rfl (by decide) ?_
        refine AL.not rfl rfl (by decide) ?_
        refine AL.pure rfl rfl (by decide) (P_pickF rfl rfl) ?_
        refine AL.pure rfl rfl (by decide) (P_move rfl) ?_
        refine AL_case (t := 22) _ rfl (by decide) ?_ ?_
        · intro h7
          refine AL.pure rfl rfl (by decide) (P_fieldAddr ty48 rfl ty3 rfl) ?_
          refine AL.pure rfl rfl (by decide) (P_load ty3 rfl rfl rfl rfl) ?_
          refine AL.call (C_nor_within _ _ _) _ [] [] _ rfl (by decide) rfl rfl rfl SubG.nil ?_
          rintro _ _ ⟨rfl, rfl⟩
          refine ⟨rfl, rfl, ?_⟩
          refine AL.pure rfl rfl (by decide) (P_pickT rfl rfl) ?_
          refine AL.pure rfl rfl (by decide) (P_move rfl) ?_
          refine AL_case (t := 27) _ rfl (by decide) ?_ ?_
          · intro h8
            refine AL.pure rfl rfl (by decide) (P_fieldAddr ty48 rfl ty3 rfl) ?_
            refine AL.pure rfl rfl (by decide) (P_load ty3 rfl rfl rfl rfl) ?_
            refine AL.call (C_nor_within _ _ _) _ [] [] _ rfl (by decide) rfl rfl rfl SubG.nil ?_
            rintro _ _ ⟨rfl, rfl⟩
            refine ⟨rfl, rfl, ?_⟩
            refine AL.pure rfl rfl (by decide) (P_pickT rfl rfl) ?_
            refine AL.pure rfl rfl (by decide) (P_assign rfl) ?_
            refine AL.nil ?_
            refine Then.go ?_
            refine AW.ret ?_
            refine ⟨(by exact .inr rfl), _, _, (.cons (.tmp rfl) .nil), SubG.nil, ?_, rfl, rfl⟩
            contradiction
          · intro h8
            refine AL.not rfl rfl (by decide) ?_
            refine AL.not rfl rfl (by decide) ?_
            refine AL.not rfl rfl (by decide) ?_
            refine AL.pure rfl rfl (by decide) (P_pickF rfl rfl) ?_
            refine AL.pure rfl rfl (by decide) (P_assign rfl) ?_
            refine AL.nil ?_
            refine Then.go ?_
            refine AW.ret ?_
            refine ⟨(by exact .inr rfl), _, _, (.cons (.tmp rfl) .nil), SubG.nil, ?_, rfl, rfl⟩
            contradiction
        · intro h7
          refine AL.not rfl rfl (by decide) ?_
          refine AL.not rfl rfl (by decide) ?_
          refine AL.not rfl rfl (by decide) ?_
          refine AL.pure rfl rfl (by decide) (P_pickF rfl rfl) ?_
          refine AL.pure rfl rfl (by decide) (P_move rfl) ?_
          refine AL_case (t := 27) _ rfl (by decide) ?_ ?_
          · intro h9
            refine AL.pure rfl rfl (by decide) (P_fieldAddr ty48 rfl ty3 rfl) ?_
            refine AL.pure rfl rfl (by decide) (P_load ty3 rfl rfl rfl rfl) ?_
            refine AL.call (C_nor_within _ _ _) _ [] [] _ rfl (by decide) rfl rfl rfl SubG.nil ?_
            rintro _ _ ⟨rfl, rfl⟩
            refine ⟨rfl, rfl, ?_⟩
            refine AL.pure rfl rfl (by decide) (P_pickT rfl rfl) ?_
            refine AL.pure rfl rfl (by decide) (P_assign rfl) ?_
            refine AL.nil ?_
            refine Then.go ?_
            refine AW.ret ?_
            refine ⟨(by exact .inr rfl), _, _, (.cons (.tmp rfl) .nil), SubG.nil, ?_, rfl, rfl⟩
            contradiction
          · intro h9
            refine AL.not rfl rfl (by decide) ?_
            refine AL.not rfl rfl (by decide) ?_
            refine AL.not rfl rfl (by decide) ?_
            refine AL.pure rfl rfl (by decide) (P_pickF rfl rfl) ?_
            refine AL.pure rfl rfl (by decide) (P_assign rfl) ?_
            refine AL.nil ?_
            refine Then.go ?_
            refine AW.ret ?_
            refine ⟨(by exact .inr rfl), _, _, (.cons (.tmp rfl) .nil), SubG.nil, ?_, rfl, rfl⟩
            (refine ⟨?_, rfl⟩; simp [oneOr, rightG, withinB, *]; done)
    · intro h2
      refine AL.not rfl rfl (by decide) ?_
      refine AL.not rfl rfl (by decide) ?_
      refine AL.not rfl rfl (by decide) ?_
      refine AL.pure rfl rfl (by decide) (P_pickF rfl rfl) ?_
      refine AL.pure rfl rfl (by decide) (P_move rfl) ?_
      refine AL_case (t := 17) _ rfl (by decide) ?_ ?_
      · intro h10
        refine AL.pure rfl rfl (by decide) (P_fieldAddr ty48 rfl ty3 rfl) ?_
        refine AL.pure rfl rfl (by decide) (P_load ty3 rfl rfl rfl rfl) ?_
        refine AL.call (C_nor_within _ _ _) _ [] [] _ rfl (by decide) rfl rfl rfl SubG.nil ?_
        rintro _ _ ⟨rfl, rfl⟩
        refine ⟨rfl, rfl, ?_⟩
        refine AL.pure rfl rfl (by decide) (P_pickT rfl rfl) ?_
        refine AL.pure rfl rfl (by decide) (P_move rfl) ?_
        refine AL_case (t := 22) _ rfl (by decide) ?_ ?_
        · intro h11
          refine AL.pure rfl rfl (by decide) (P_fieldAddr ty48 rfl ty3 rfl) ?_
          refine AL.pure rfl rfl (by decide) (P_load ty3 rfl rfl rfl rfl) ?_
          refine AL.call (C_nor_within _ _ _) _ [] [] _ rfl (by decide) rfl rfl rfl SubG.nil ?_
          rintro _ _ ⟨rfl, rfl⟩
          refine ⟨rfl, rfl, ?_⟩
          refine AL.pure rfl rfl (by decide) (P_pickT rfl rfl) ?_
          refine AL.pure rfl rfl (by decide) (P_move rfl) ?_
          refine AL_case (t := 27) _ rfl (by decide) ?_ ?_
          · intro h12
            refine AL.pure rfl rfl (by decide) (P_fieldAddr ty48 rfl ty3 rfl) ?_
            refine AL.pure rfl rfl (by decide) (P_load ty3 rfl rfl rfl rfl) ?_
            refine AL.call (C_nor_within _ _ _) _ [] [] _ rfl (by decide) rfl rfl rfl SubG.nil ?_
            rintro _ _ ⟨rfl, rfl⟩
            refine ⟨rfl, rfl, ?_⟩
            refine AL.pure rfl rfl (by decide) (P_pickT rfl rfl) ?_
            refine AL.pure rfl rfl (by decide) (P_assign rfl) ?_
            refine AL.nil ?_
            refine Then.go ?_
            refine AW.ret ?_
            refine ⟨(by exact .inr rfl), _, _, (.cons (.tmp rfl) .nil), SubG.nil, ?_, rfl, rfl⟩
            contradiction
          · intro h12
            refine AL.not rfl rfl (by decide) ?_
            refine AL.not rfl rfl (by decide) ?_
            refine AL.not rfl rfl (by decide) ?_
            refine AL.pure rfl rfl (by decide) (P_pickF rfl rfl) ?_
            refine AL.pure rfl rfl (by decide) (P_assign rfl) ?_
            refine AL.nil ?_
            refine Then.go ?_
            refine AW.ret ?_
            refine ⟨(by exact .inr rfl), _, _, (.cons (.tmp rfl) .nil), SubG.nil, ?_, rfl, rfl⟩
            contradiction
        · intro h11
          refine AL.not rfl rfl (by decide) ?_
          refine AL.not rfl rfl (by decide) ?_
          refine AL.not rfl rfl (by decide) ?_
          refine AL.pure rfl rfl (by decide) (P_pickF rfl rfl) ?_
          refine AL.pure rfl rfl (by decide) (P_move rfl) ?_
          refine AL_case (t := 27) _ rfl (by decide) ?_ ?_
          · intro h13
            refine AL.pure rfl rfl (by decide) (P_fieldAddr ty48 rfl ty3 rfl) ?_
            refine AL.pure rfl rfl (by decide) (P_load ty3 rfl rfl rfl rfl) ?_
            refine AL.call (C_nor_within _ _ _) _ [] [] _ rfl (by decide) rfl rfl rfl SubG.nil ?_
            rintro _ _ ⟨rfl, rfl⟩
            refine ⟨rfl, rfl, ?_⟩
            refine AL.pure rfl rfl (by decide) (P_pickT rfl rfl) ?_
            refine AL.pure rfl rfl (by decide) (P_assign rfl) ?_
            refine AL.nil ?_
            refine Then.go ?_
            refine AW.ret ?_
            refine ⟨(by exact .inr rfl), _, _, (.cons (.tmp rfl) .nil), SubG.nil, ?_, rfl, rfl⟩
            contradiction
          · intro h13
            refine AL.not rfl rfl (by decide) ?_
            refine AL.not rfl rfl (by decide) ?_
            refine AL.not rfl rfl (by decide) ?_
            refine AL.pure rfl rfl (by decide) (P_pickF rfl rfl) ?_
            refine AL.pure rfl rfl (by decide) (P_assign rfl) ?_
            refine AL.nil ?_
            refine Then.go ?_
            refine AW.ret ?_
            refine ⟨(by exact .inr rfl), _, _, (.cons (.tmp rfl) .nil), SubG.nil, ?_, rfl, rfl⟩
            contradiction
      · intro h10
        refine AL.not rfl rfl (by decide) ?_
        refine AL.not rfl rfl (by decide) ?_
        refine AL.not rfl rfl (by decide) ?_
        refine AL.pure rfl rfl (by decide) (P_pickF rfl rfl) ?_
        refine AL.pure rfl rfl (by decide) (P_move rfl) ?_
        refine AL_case (t := 22) _ rfl (by decide) ?_ ?_
        · intro h14
          refine AL.pure rfl rfl (by decide) (P_fieldAddr ty48 rfl ty3 rfl) ?_
          refine AL.pure rfl rfl (by decide) (P_load ty3 rfl rfl rfl rfl) ?_
          refine AL.call (C_nor_within _ _ _) _ [] [] _ rfl (by decide) rfl rfl rfl SubG.nil ?_
          rintro _ _ ⟨rfl, rfl⟩
          refine ⟨rfl, rfl, ?_⟩
          refine AL.pure rfl rfl (by decide) (P_pickT rfl rfl) ?_
          refine AL.pure rfl rfl (by decide) (P_move rfl) ?_
          refine AL_case (t := 27) _ rfl (by decide) ?_ ?_
          · intro h15
            refine AL.pure rfl rfl (by decide) (P_fieldAddr ty48 rfl ty3 rfl) ?_
            refine AL.pure rfl rfl (by decide) (P_load ty3 rfl rfl rfl rfl) ?_
            refine AL.call (C_nor_within _ _ _) _ [] [] _ rfl (by decide) rfl rfl rfl SubG.nil ?_
            rintro _ _ ⟨rfl, rfl⟩
            refine ⟨rfl, rfl, ?_⟩
            refine AL.pure rfl rfl (by decide) (P_pickT rfl rfl) ?_
            refine AL.pure rfl rfl (by decide) (P_assign rfl) ?_
            refine AL.nil ?_
            refine Then.go ?_
            refine AW.ret ?_
            refine ⟨(by exact .inr rfl), _, _, (.cons (.tmp rfl) .nil), SubG.nil, ?_, rfl, rfl⟩
            contradiction
          · intro h15
            refine AL.not rfl rfl (by decide) ?_
            refine AL.not rfl rfl (by decide) ?_
            refine AL.not rfl rfl (by decide) ?_
            refine AL.pure rfl rfl (by decide) (P_pickF rfl rfl) ?_
            refine AL.pure rfl rfl (by decide) (P_assign rfl) ?_
            refine AL.nil ?_
            refine Then.go ?_
            refine AW.ret ?_
            refine ⟨(by exact .inr rfl), _, _, (.cons (.tmp rfl) .nil), SubG.nil, ?_, rfl, rfl⟩
            contradiction
        · intro h14
          refine AL.not rfl rfl (by decide) ?_
          refine AL.not rfl rfl (by decide) ?_
          refine AL.not rfl rfl (by decide) ?_
          refine AL.pure rfl rfl (by decide) (P_pickF rfl rfl) ?_
          refine AL.pure rfl rfl (by decide) (P_move rfl) ?_
          refine AL_case (t := 27) _ rfl (by decide) ?_ ?_
          · intro h16
            refine AL.pure rfl rfl (by decide) (P_fieldAddr ty48 rfl ty3 rfl) ?_
            refine AL.pure rfl rfl (by decide) (P_load ty3 rfl rfl rfl rfl) ?_
            refine AL.call (C_nor_within _ _ _) _ [] [] _ rfl (by decide) rfl rfl rfl SubG.nil ?_
            rintro _ _ ⟨rfl, rfl⟩
            refine ⟨rfl, rfl, ?_⟩
            refine AL.pure rfl rfl (by decide) (P_pickT rfl rfl) ?_
            refine AL.pure rfl rfl (by decide) (P_assign rfl) ?_
            refine AL.nil ?_
            refine Then.go ?_
            refine AW.ret ?_
            refine ⟨(by exact .inr rfl), _, _, (.cons (.tmp rfl) .nil), SubG.nil, ?_, rfl, rfl⟩
            contradiction
          · intro h16
            refine AL.not rfl rfl (by decide) ?_
            refine AL.not rfl rfl (by decide) ?_
            refine AL.not rfl rfl (by decide) ?_
            refine AL.pure rfl rfl (by decide) (P_pickF rfl rfl) ?_
            refine AL.pure rfl rfl (by decide) (P_assign rfl) ?_
            refine AL.nil ?_
            refine Then.go ?_
            refine AW.ret ?_
            refine ⟨(by exact .inr rfl), _, _, (.cons (.tmp rfl) .nil), SubG.nil, ?_, rfl, rfl⟩
            (refine ⟨?_, rfl⟩; simp [oneOr, rightG, withinB, *]; done)
  · intro h1
    refine AL.not rfl rfl (by decide) ?_
    refine AL.not rfl rfl (by decide) ?_
    refine AL.not rfl rfl (by decide) ?_
    refine AL.pure rfl rfl (by decide) (P_pickF rfl rfl) ?_
    refine AL.pure rfl rfl (by decide) (P_move rfl) ?_
    refine AL_case (t := 12) _ rfl (by decide) ?_ ?_
    · intro h17
      refine AL.pure rfl rfl (by decide) (P_fieldAddr ty48 rfl ty3 rfl) ?_
      refine AL.pure rfl rfl (by decide) (P_load ty3 rfl rfl rfl rfl) ?_
      refine AL.call (C_nor_within _ _ _) _ [] [] _ rfl (by decide) rfl rfl rfl SubG.nil ?_
      rintro _ _ ⟨rfl, rfl⟩
      refine ⟨rfl, rfl, ?_⟩
      refine AL.pure rfl rfl (by decide) (P_pickT rfl rfl) ?_
      refine AL.pure rfl rfl (by decide) (P_move rfl) ?_
      refine AL_case (t := 17) _ rfl (by decide) ?_ ?_
      · intro h18
        refine AL.pure rfl rfl (by decide) (P_fieldAddr ty48 rfl ty3 rfl) ?_
        refine AL.pure rfl rfl (by decide) (P_load ty3 rfl rfl rfl rfl) ?_
        refine AL.call (C_nor_within _ _ _) _ [] [] _ rfl (by decide) rfl rfl rfl SubG.nil ?_
        rintro _ _ ⟨rfl, rfl⟩
        refine ⟨rfl, rfl, ?_⟩
        refine AL.pure rfl rfl (by decide) (P_pickT rfl rfl) ?_
        refine AL.pure rfl rfl (by decide) (P_move rfl) ?_
        refine AL_case (t := 22) _ rfl (by decide) ?_ ?_
        · intro h19
          refine AL.pure rfl rfl (by decide) (P_fieldAddr ty48 rfl ty3 rfl) ?_
          refine AL.pure rfl rfl (by decide) (P_load ty3 rfl rfl rfl rfl) ?_
          refine AL.call (C_nor_within _ _ _) _ [] [] _ rfl (by decide) rfl rfl rfl SubG.nil ?_
          rintro _ _ ⟨rfl, rfl⟩
          refine ⟨rfl, rfl, ?_⟩
          refine AL.pure rfl rfl (by decide) (P_pickT rfl rfl) ?_
          refine AL.pure rfl rfl (by decide) (P_move rfl) ?_
          refine AL_case (t := 27) _ rfl (by decide) ?_ ?_
          · intro h20
            refine AL.pure rfl rfl (by decide) (P_fieldAddr ty48 rfl ty3 rfl) ?_
            refine AL.pure rfl rfl (by decide) (P_load ty3 rfl rfl rfl rfl) ?_
            refine AL.call (C_nor_within _ _ _) _ [] [] _ rfl (by decide) rfl rfl rfl SubG.nil ?_
            rintro _ _ ⟨rfl, rfl⟩
            refine ⟨rfl, rfl, ?_⟩
            refine AL.pure rfl rfl (by decide) (P_pickT rfl rfl) ?_
            refine AL.pure rfl rfl (by decide) (P_assign rfl) ?_
            refine AL.nil ?_
            refine Then.go ?_
            refine AW.ret ?_
            refine ⟨(by exact .inr rfl), _, _, (.cons (.tmp rfl) .nil), SubG.nil, ?_, rfl, rfl⟩
            contradiction
          · intro h20
            refine AL.not rfl rfl (by decide) ?_
            refine AL.not rfl rfl (by decide) ?_
            refine AL.not rfl rfl (by decide) ?_
            refine AL.pure rfl rfl (by decide) (P_pickF rfl rfl) ?_
            refine AL.pure rfl rfl (by decide) (P_assign rfl) ?_
            refine AL.nil ?_
            refine Then.go ?_
            refine AW.ret ?_
            refine ⟨(by exact .inr rfl), _, _, (.cons (.tmp rfl) .nil), SubG.nil, ?_, rfl, rfl⟩
            contradiction
        · intro h19
          refine AL.not rfl rfl (by decide) ?_
          refine AL.not rfl rfl (by decide) ?_
          refine AL.not rfl rfl (by decide) ?_
          refine AL.pure rfl rfl (by decide) (P_pickF rfl rfl) ?_
          refine AL.pure rfl rfl (by decide) (P_move rfl) ?_
          refine AL_case (t := 27) _ rfl (by decide) ?_ ?_
          · intro h21
            refine AL.pure rfl rfl (by decide) (P_fieldAddr ty48 rfl ty3 rfl) ?_
            refine AL.pure rfl rfl (by decide) (P_load ty3 rfl rfl rfl rfl) ?_
            refine AL.call (C_nor_within _ _ _) _ [] [] _ rfl (by decide) rfl rfl rfl SubG.nil ?_
            rintro _ _ ⟨rfl, rfl⟩
            refine ⟨rfl, rfl, ?_⟩
            refine AL.pure rfl rfl (by decide) (P_pickT rfl rfl) ?_
            refine AL.pure rfl rfl (by decide) (P_assign rfl) ?_
            refine AL.nil ?_
            refine Then.go ?_
            refine AW.ret ?_
            refine ⟨(by exact .inr rfl), _, _, (.cons (.tmp rfl) .nil), SubG.nil, ?_, rfl, rfl⟩
            contradiction
          · intro h21
            refine AL.not rfl rfl (by decide) ?_
            refine AL.not rfl rfl (by decide) ?_
            refine AL.not rfl rfl (by decide) ?_
            refine AL.pure rfl rfl (by decide) (P_pickF rfl rfl) ?_
            refine AL.pure rfl rfl (by decide) (P_assign rfl) ?_
            refine AL.nil ?_
            refine Then.go ?_
            refine AW.ret ?_
            refine ⟨(by exact .inr rfl), _, _, (.cons (.tmp rfl) .nil), SubG.nil, ?_, rfl, rfl⟩
            contradiction
      · intro h18
        refine AL.not rfl rfl (by decide) ?_
        refine AL.not rfl rfl (by decide) ?_
        refine AL.not rfl rfl (by decide) ?_
        refine AL.pure rfl rfl (by decide) (P_pickF rfl rfl) ?_
        refine AL.pure rfl rfl (by decide) (P_move rfl) ?_
        refine AL_case (t := 22) _ rfl (by decide) ?_ ?_
        · intro h22
          refine AL.pure rfl rfl (by decide) (P_fieldAddr ty48 rfl ty3 rfl) ?_
          refine AL.pure rfl rfl (by decide) (P_load ty3 rfl rfl rfl rfl) ?_
          refine AL.call (C_nor_within _ _ _) _ [] [] _ rfl (by decide) rfl rfl rfl SubG.nil ?_
          rintro _ _ ⟨rfl, rfl⟩
          refine ⟨rfl, rfl, ?_⟩
          refine AL.pure rfl rfl (by decide) (P_pickT rfl rfl) ?_
          refine AL.pure rfl rfl (by decide) (P_move rfl) ?_
          refine AL_case (t := 27) _ rfl (by decide) ?_ ?_
          · intro h23
            refine AL.pure rfl rfl (by decide) (P_fieldAddr ty48 rfl ty3 rfl) ?_
            refine AL.pure rfl rfl (by decide) (P_load ty3 rfl rfl rfl rfl) ?_
            refine AL.call (C_nor_within _ _ _) _ [] [] _ rfl (by decide) rfl rfl rfl SubG.nil ?_
            rintro _ _ ⟨rfl, rfl⟩
            refine ⟨rfl, rfl, ?_⟩
            refine AL.pure rfl rfl (by decide) (P_pickT rfl rfl) ?_
            refine AL.pure rfl rfl (by decide) (P_assign rfl) ?_
            refine AL.nil ?_
            refine Then.go ?_
            refine AW.ret ?_
            refine ⟨(by exact .inr rfl), _, _, (.cons (.tmp rfl) .nil), SubG.nil, ?_, rfl, rfl⟩
            contradiction
          · intro h23
            refine AL.not rfl rfl (by decide) ?_
            refine AL.not rfl rfl (by decide) ?_
            refine AL.not rfl rfl (by decide) ?_
            refine AL.pure rfl rfl (by decide) (P_pickF rfl rfl) ?_
            refine AL.pure rfl rfl (by decide) (P_assign rfl) ?_
            refine AL.nil ?_
            refine Then.go ?_
            refine AW.ret ?_
            refine ⟨(by exact .inr rfl), _, _, (.cons (.tmp rfl) .nil), SubG.nil, ?_, rfl, rfl⟩
            contradiction
        · intro h22
          refine AL.not rfl rfl (by decide) ?_
          refine AL.not rfl rfl (by decide) ?_
          refine AL.not rfl rfl (by decide) ?_
          refine AL.pure rfl rfl (by decide) (P_pickF rfl rfl) ?_
          refine AL.pure rfl rfl (by decide) (P_move rfl) ?_
          refine AL_case (t := 27) _ rfl (by decide) ?_ ?_
          · intro h24
            refine AL.pure rfl rfl (by decide) (P_fieldAddr ty48 rfl ty3 rfl) ?_
            refine AL.pure rfl rfl (by decide) (P_load ty3 rfl rfl rfl rfl) ?_
            refine AL.call (C_nor_within _ _ _) _ [] [] _ rfl (by decide) rfl rfl rfl SubG.nil ?_
            rintro _ _ ⟨rfl, rfl⟩
            refine ⟨rfl, rfl, ?_⟩
            refine AL.pure rfl rfl (by decide) (P_pickT rfl rfl) ?_
            refine AL.pure rfl rfl (by decide) (P_assign rfl) ?_
            refine AL.nil ?_
            refine Then.go ?_
            refine AW.ret ?_
            refine ⟨(by exact .inr rfl), _, _, (.cons (.tmp rfl) .nil), SubG.nil, ?_, rfl, rfl⟩
            contradiction
          · intro h24
            refine AL.not rfl rfl (by decide) ?_
            refine AL.not rfl rfl (by decide) ?_
            refine AL.not rfl rfl (by decide) ?_
            refine AL.pure rfl rfl (by decide) (P_pickF rfl rfl) ?_
            refine AL.pure rfl rfl (by decide) (P_assign rfl) ?_
            refine AL.nil ?_
            refine Then.go ?_
            refine AW.ret ?_
            refine ⟨(by exact .inr rfl), _, _, (.cons (.tmp rfl) .nil), SubG.nil, ?_, rfl, rfl⟩
            contradiction
    · intro h17
      refine AL.not rfl rfl (by decide) ?_
      refine AL.not rfl rfl (by decide) ?_
      refine AL.not rfl rfl (by decide) ?_
      refine AL.pure rfl rfl (by decide) (P_pickF rfl rfl) ?_
      refine AL.pure rfl rfl (by decide) (P_move rfl) ?_
      refine AL_case (t := 17) _ rfl (by decide) ?_ ?_
      · intro h25
        refine AL.pure rfl rfl (by decide) (P_fieldAddr ty48 rfl ty3 rfl) ?_
        refine AL.pure rfl rfl (by decide) (P_load ty3 rfl rfl rfl rfl) ?_
        refine AL.call (C_nor_within _ _ _) _ [] [] _ rfl (by decide) rfl rfl rfl SubG.nil ?_
        rintro _ _ ⟨rfl, rfl⟩
        refine ⟨rfl, rfl, ?_⟩
        refine AL.pure rfl rfl (by decide) (P_pickT rfl rfl) ?_
        refine AL.pure rfl rfl (by decide) (P_move rfl) ?_
        refine AL_case (t := 22) _ rfl (by decide) ?_ ?_
        · intro h26
          refine AL.pure rfl rfl (by decide) (P_fieldAddr ty48 rfl ty3 rfl) ?_
          refine AL.pure rfl rfl (by decide) (P_load ty3 rfl rfl rfl rfl) ?_
          refine AL.call (C_nor_within _ _ _) _ [] [] _ rfl (by decide) rfl rfl rfl SubG.nil ?_
          rintro _ _ ⟨rfl, rfl⟩
          refine ⟨rfl, rfl, ?_⟩
          refine AL.pure rfl rfl (by decide) (P_pickT rfl rfl) ?_
          refine AL.pure rfl rfl (by decide) (P_move rfl) ?_
          refine AL_case (t := 27) _ rfl (by decide) ?_ ?_
          · intro h27
            refine AL.pure rfl rfl (by decide) (P_fieldAddr ty48 rfl ty3 rfl) ?_
            refine AL.pure rfl rfl (by decide) (P_load ty3 rfl rfl rfl rfl) ?_
            refine AL.call (C_nor_within _ _ _) _ [] [] _ rfl (by decide) rfl rfl rfl SubG.nil ?_
            rintro _ _ ⟨rfl, rfl⟩
            refine ⟨rfl, rfl, ?_⟩
            refine AL.pure rfl rfl (by decide) (P_pickT rfl rfl) ?_
            refine AL.pure rfl rfl (by decide) (P_assign rfl) ?_
            refine AL.nil ?_
            refine Then.go ?_
            refine AW.ret ?_
            refine ⟨(by exact .inr rfl), _, _, (.cons (.tmp rfl) .nil), SubG.nil, ?_, rfl, rfl⟩
            contradiction
          · intro h27
            refine AL.not rfl rfl (by decide) ?_
            refine AL.not rfl rfl (by decide) ?_
            refine AL.not rfl rfl (by decide) ?_
            refine AL.pure rfl rfl (by decide) (P_pickF rfl rfl) ?_
            refine AL.pure rfl rfl (by decide) (P_assign rfl) ?_
            refine AL.nil ?_
            refine Then.go ?_
            refine AW.ret ?_
            refine ⟨(by exact .inr rfl), _, _, (.cons (.tmp rfl) .nil), SubG.nil, ?_, rfl, rfl⟩
            contradiction
        · intro h26
          refine AL.not rfl rfl (by decide) ?_
          refine AL.not rfl rfl (by decide) ?_
          refine AL.not rfl rfl (by decide) ?_
          refine AL.pure rfl rfl (by decide) (P_pickF rfl rfl) ?_
          refine AL.pure rfl rfl (by decide) (P_move rfl) ?_
          refine AL_case (t := 27) _ rfl (by decide) ?_ ?_
          · intro h28
            refine AL.pure rfl rfl (by decide) (P_fieldAddr ty48 rfl ty3 rfl) ?_
            refine AL.pure rfl rfl (by decide) (P_load ty3 rfl rfl rfl rfl) ?_
            refine AL.call (C_nor_within _ _ _) _ [] [] _ rfl (by decide) rfl rfl rfl SubG.nil ?_
            rintro _ _ ⟨rfl, rfl⟩
            refine ⟨rfl, rfl, ?_⟩
            refine AL.pure rfl rfl (by decide) (P_pickT rfl rfl) ?_
            refine AL.pure rfl rfl (by decide) (P_assign rfl) ?_
            refine AL.nil ?_
            refine Then.go ?_
            refine AW.ret ?_
            refine ⟨(by exact .inr rfl), _, _, (.cons (.tmp rfl) .nil), SubG.nil, ?_, rfl, rfl⟩
            contradiction
          · intro h28
            refine AL.not rfl rfl (by decide) ?_
            refine AL.not rfl rfl (by decide) ?_
            refine AL.not rfl rfl (by decide) ?_
            refine AL.pure rfl rfl (by decide) (P_pickF rfl rfl) ?_
            refine AL.pure rfl rfl (by decide) (P_assign rfl) ?_
            refine AL.nil ?_
            refine Then.go ?_
            refine AW.ret ?_
            refine ⟨(by exact .inr rfl), _, _, (.cons (.tmp rfl) .nil), SubG.nil, ?_, rfl, rfl⟩
            contradiction
      · intro h25
        refine AL.not rfl rfl (by decide) ?_
        refine AL.not rfl rfl (by decide) ?_
        refine AL.not rfl rfl (by decide) ?_
        refine AL.pure rfl rfl (by decide) (P_pickF rfl rfl) ?_
        refine AL.pure rfl rfl (by decide) (P_move rfl) ?_
        refine AL_case (t := 22) _ rfl (by decide) ?_ ?_
        · intro h29
          refine AL.pure rfl rfl (by decide) (P_fieldAddr ty48 rfl ty3 rfl) ?_
          refine AL.pure rfl rfl (by decide) (P_load ty3 rfl rfl rfl rfl) ?_
          refine AL.call (C_nor_within _ _ _) _ [] [] _ rfl (by decide) rfl rfl rfl SubG.nil ?_
          rintro _ _ ⟨rfl, rfl⟩
          refine ⟨rfl, rfl, ?_⟩
          refine AL.pure rfl rfl (by decide) (P_pickT rfl rfl) ?_
          refine AL.pure rfl rfl (by decide) (P_move rfl) ?_
          refine AL_case (t := 27) _ rfl (by decide) ?_ ?_
          · intro h30
            refine AL.pure rfl rfl (by decide) (P_fieldAddr ty48 rfl ty3 rfl) ?_
            refine AL.pure rfl rfl (by decide) (P_load ty3 rfl rfl rfl rfl) ?_
            refine AL.call (C_nor_within _ _ _) _ [] [] _ rfl (by decide) rfl rfl rfl SubG.nil ?_
            rintro _ _ ⟨rfl, rfl⟩
            refine ⟨rfl, rfl, ?_⟩
            refine AL.pure rfl rfl (by decide) (P_pickT rfl rfl) ?_
            refine AL.pure rfl rfl (by decide) (P_assign rfl) ?_
            refine AL.nil ?_
            refine Then.go ?_
            refine AW.ret ?_
            refine ⟨(by exact .inr rfl), _, _, (.cons (.tmp rfl) .nil), SubG.nil, ?_, rfl, rfl⟩
            contradiction
          · intro h30
            refine AL.not rfl rfl (by decide) ?_
            refine AL.not rfl rfl (by decide) ?_
            refine AL.not rfl rfl (by decide) ?_
            refine AL.pure rfl rfl (by decide) (P_pickF rfl rfl) ?_
            refine AL.pure rfl rfl (by decide) (P_assign rfl) ?_
            refine AL.nil ?_
            refine Then.go ?_
            refine AW.ret ?_
            refine ⟨(by exact .inr rfl), _, _, (.cons (.tmp rfl) .nil), SubG.nil, ?_, rfl, rfl⟩
            contradiction
        · intro h29
          refine AL.not rfl rfl (by decide) ?_
          refine AL.not rfl rfl (by decide) ?_
          refine AL.not rfl rfl (by decide) ?_
          refine AL.pure rfl rfl (by decide) (P_pickF rfl rfl) ?_
          refine AL.pure rfl rfl (by decide) (P_move rfl) ?_
          refine AL_case (t := 27) _ rfl (by decide) ?_ ?_
          · intro h31
            refine AL.pure rfl rfl (by decide) (P_fieldAddr ty48 rfl ty3 rfl) ?_
            refine AL.pure rfl rfl (by decide) (P_load ty3 rfl rfl rfl rfl) ?_
            refine AL.call (C_nor_within _ _ _) _ [] [] _ rfl (by decide) rfl rfl rfl SubG.nil ?_
            rintro _ _ ⟨rfl, rfl⟩
            refine ⟨rfl, rfl, ?_⟩
            refine AL.pure rfl rfl (by decide) (P_pickT rfl rfl) ?_
            refine AL.pure rfl rfl (by decide) (P_assign rfl) ?_
            refine AL.nil ?_
            refine Then.go ?_
            refine AW.ret ?_
            refine ⟨(by exact .inr rfl), _, _, (.cons (.tmp rfl) .nil), SubG.nil, ?_, rfl, rfl⟩
            contradiction
          · intro h31
            refine AL.not rfl rfl (by decide) ?_
            refine AL.not rfl rfl (by decide) ?_
            refine AL.not rfl rfl (by decide) ?_
            refine AL.pure rfl rfl (by decide) (P_pickF rfl rfl) ?_
            refine AL.pure rfl rfl (by decide) (P_assign rfl) ?_
            refine AL.nil ?_
            refine Then.go ?_
            refine AW.ret ?_
            refine ⟨(by exact .inr rfl), _, _, (.cons (.tmp rfl) .nil), SubG.nil, ?_, rfl, rfl⟩
            (refine ⟨?_, rfl⟩; simp [oneOr, rightG, withinB, *]; done)
theorem C_nor_Chip_Geometry (g : Geo) (N : Nat) : ACalls Tryz.prog 99 [.ptr 10 0] ([(10, norO g N)]) ([]) (fun r G => r = .tr g.t ∧ G = [(10, norO g N)]) := by
  refine acalls_of_body 10 [10, 1, 11, 12] Tryz.func99 rfl (by kernel_rfl) Tryz.ntmps99 (Nat.le_of_ble_eq_true rfl) rfl ?_
  refine AW.seq ?_
  refine AW.region ?_
  refine AL.eff rfl rfl (by decide) (E_alloc 102 tz48 rfl rfl rfl) ?_
  refine AL.nil ?_
  refine Then.go ?_
  refine AW.seq ?_
  refine AW.seq ?_
  refine AW.region ?_
  refine AL.pure rfl rfl (by decide) (P_move rfl) ?_
  refine AL.pure rfl rfl (by decide) (P_eqlPN ty49 rfl rfl) ?_
  refine AL.nil ?_
  refine Then.go ?_
  refine AW.condF rfl ?_
  refine AW.skip ?_
  refine Then.go ?_
  refine AW.seq ?_
  refine AW.region ?_
  refine AL.pure rfl rfl (by decide) (P_move rfl) ?_
  refine AL.pure rfl rfl (by decide) (P_nilCheck rfl) ?_
  refine AL.pure rfl rfl (by decide) (P_fieldAddr ty147 rfl ty48 rfl) ?_
  refine AL.pure rfl rfl (by decide) (P_loadA ty48 rfl rfl rfl (Nat.le_of_ble_eq_true rfl)) ?_
  refine AL.eff0 rfl rfl (E_store ty48 rfl rfl rfl rfl rfl (Nat.le_of_ble_eq_true rfl)) ?_
  refine AL.nil ?_
  refine Then.go ?_
  refine AW.ret ?_
  refine ⟨(by exact .inr rfl), _, _, (.cons (.cellA rfl rfl ty48 rfl (Nat.le_of_ble_eq_true rfl)) .nil), (SubG.cons (l := 10) rfl SubG.nil), ?_, rfl, rfl⟩
  exact ⟨rfl, rfl⟩
theorem C_nor_set (m : List UInt8) (off k : Nat) (x : UInt8) (h : off + k ≤ m.length) : ACalls Tryz.prog 229 [.own 1 11 off k, .tr (b8 x)] ([(11, .els 5 1 (bs m))]) ([]) (fun r G => r = .tup [] ∧ G = [(11, .els 5 1 (bs (orAt m off k x)))]) := by
  refine acalls_of_body 18 [11] Tryz.func229 rfl (by kernel_rfl) Tryz.ntmps229 (Nat.le_of_ble_eq_true rfl) rfl ?_
  refine AW.seq ?_
  refine AW.region ?_
  refine AL.pure rfl rfl (by decide) (P_move rfl) ?_
  refine AL_lenOwn rfl rfl (by decide) ty26 rfl fun h1 => ?_
  try simp only [bs_length, List.length_map, List.length_append, List.length_replicate, List.length_cons, List.length_nil, List.length_take, List.length_set] at h1
  refine AL.pure rfl rfl (by decide) (P_move rfl) ?_
  refine AL.nil ?_
  refine Then.go ?_
  refine AW.block ?_
  refine AW.loopK (σ := Nat) [] [] .nil .nil rfl (fun i => [(0, .own 1 11 off k), (1, .tr (b8 x)), (5, .own 1 11 off k), (6, vI .i64 (k : Nat)), (7, vI .i64 (i : Nat))]) (fun i => [(11, .els 5 1 (bs (orAt m off i x)))]) (fun i => i ≤ k) (fun i => k - i) (0) ?_ ?_ ?_ ?_
  · skip
    simp
  · skip
    refine SubT.cons' (by decide) rfl ?_ ?_
    · skip
      rfl
    refine SubT.cons' (by decide) rfl ?_ ?_
    · skip
      rfl
    refine SubT.cons' (by decide) rfl ?_ ?_
    · skip
      rfl
    refine SubT.cons' (by decide) rfl ?_ ?_
    · skip
      rfl
    refine SubT.cons' (by decide) rfl ?_ ?_
    · skip
      rfl
    exact SubT.nil
  · skip
    refine SubG.cons' rfl ?_ ?_
    · skip
      exact els_congr (by rw [orAt_zero])
    exact SubG.nil
  · rintro i hs
    try dsimp only at hs
    dsimp only [List.cons_append, List.nil_append]
    have hol := orAt_length m off i x
    refine AW.seq ?_
    refine AW.region ?_
    refine AL.pure rfl rfl (by decide) (P_lss rfl rfl) ?_
    refine AL.nil ?_
    refine Then.go ?_
    refine AW.seq ?_
    refine AW.condD _ rfl ?_ ?_
    · intro h2
      refine AW.skip ?_
      refine Then.go ?_
      refine AW.seq ?_
      refine AW.block ?_
      refine AW.seq ?_
      refine AW.region ?_
      refine AL.pure rfl rfl (by decide) (P_move rfl) ?_
      refine AL.pure rfl rfl (by decide) (P_assign rfl) ?_
      refine AL.nil ?_
      refine Then.go ?_
      refine AW.region ?_
      refine AL.pure rfl rfl (by decide) (P_move rfl) ?_
      refine AL.pure rfl rfl (by decide) (P_move rfl) ?_
      refine AL.pure rfl rfl (by decide) (P_indexOwnS ty26 ty5 rfl rfl (by omega)) ?_
      refine AL.pure rfl rfl (by decide) (P_loadE1 ty5 rfl rfl rfl (by exact bs_at (by omega)) (by rfl) (by rfl)) ?_
      refine AL.pure rfl rfl (by decide) (P_move rfl) ?_
      refine AL.pure rfl rfl (by decide) (P_orU8 rfl rfl) ?_
      refine AL.pure rfl rfl (by decide) (P_indexOwnS ty26 ty5 rfl rfl (by omega)) ?_
      refine AL.eff0 rfl rfl (E_storeE1 ty5 rfl rfl rfl rfl (by (simp only [bs_length, List.length_map, List.length_append, List.length_replicate, List.length_set, List.length_take, List.length_nil, List.length_cons]; omega)) rfl) ?_
      refine AL.nil ?_
      refine InBlock.go ?_
      refine Then.go ?_
      refine AW.region ?_
      refine AL.pure rfl rfl (by decide) (P_addN rfl rfl (by omega) (by omega)) ?_
      refine AL.pure rfl rfl (by decide) (P_move rfl) ?_
      refine AL.nil ?_
      refine Round.go (i + 1) ?_ ?_ ?_ ?_
      · try dsimp only
        omega
      · try dsimp only
        omega
      · skip
        refine SubT.cons' (by decide) rfl ?_ ?_
        · skip
          rfl
        refine SubT.cons' (by decide) rfl ?_ ?_
        · skip
          rfl
        refine SubT.cons' (by decide) rfl ?_ ?_
        · skip
          rfl
        refine SubT.cons' (by decide) rfl ?_ ?_
        · skip
          rfl
        refine SubT.cons' (by decide) rfl ?_ ?_
        · skip
          rfl
        exact SubT.nil
      · skip
        refine SubG.cons' rfl ?_ ?_
        · skip
          refine els_congr ?_
          rw [orAt_get (by omega)]
          exact orAt_step (m := m) (off := off) (i := i) (x := x) (by omega)
        exact SubG.nil
    · intro h2
      refine AW.exit ?_
      refine Then.e ?_
      refine Round.e ?_
      refine InBlock.e ?_
      refine ⟨(by exact .inl rfl), _, _, .nil, (SubG.cons (l := 11) rfl SubG.nil), ?_, rfl, rfl⟩
      have hi : i = k := by omega
      rw [hi]
      exact ⟨rfl, rfl⟩

theorem own_congr2 {sz l off off' m m' : Nat} (h1 : off = off') (h2 : m = m') : AV.own sz l off m = .own sz l off' m' := h1 ▸ h2 ▸ rfl
theorem mul_facts {i s z N : Nat} (hi : i < s) (hN : N = s * z) : i * z + z ≤ N := by
  have : (i + 1) * z ≤ s * z := Nat.mul_le_mul_right _ hi
  rw [Nat.succ_mul] at this; omega

theorem C_nor_Chip_sector (g : Geo) (N i s z : Nat) (hs : g.s = s) (hz : g.z = z) (hi : i < s) (hN : N = s * z) (hb : N ≤ 1000000) (hp : 0 < z) (hs2 : s ≤ 1000000) : ACalls Tryz.prog 228 [.ptr 10 0, vI .i64 (i : Nat)] ([(10, norO g N)]) ([]) (fun r G => r = .own 1 11 (i * z) z ∧ G = [(10, norO g N)]) := by
  have a1 := mul_facts hi hN; have a2 : ((i : Int) + 1) * (z : Int) = ((i * z + z : Nat) : Int) := by rw [Int.add_mul, Int.one_mul]; simp
  have a3 : (i : Int) * (z : Int) = ((i * z : Nat) : Int) := by simp
  rw [← hz] at a2 a3
  refine acalls_of_body 40 [10, 1, 11, 12] Tryz.func228 rfl (by kernel_rfl) Tryz.ntmps228 (Nat.le_of_ble_eq_true rfl) rfl ?_
  refine AW.seq ?_
  refine AW.region ?_
  refine AL.pure rfl rfl (by decide) (P_assign rfl) ?_
  refine AL.nil ?_
  refine Then.go ?_
  refine AW.seq ?_
  refine AW.seq ?_
  refine AW.region ?_
  refine AL.pure rfl rfl (by decide) (P_move rfl) ?_
  refine AL.pure rfl rfl (by decide) (P_eqlPN ty49 rfl rfl) ?_
  refine AL.pure rfl rfl (by decide) (P_move rfl) ?_
  refine AL.pure rfl rfl (by decide) (P_move rfl) ?_
  refine AL.pure rfl rfl (by decide) (P_lss rfl rfl) ?_
  refine AL.pure rfl rfl (by decide) (P_pickF rfl rfl) ?_
  refine AL.pure rfl rfl (by decide) (P_move rfl) ?_
  refine AL.pure rfl rfl (by decide) (P_move rfl) ?_
  refine AL.pure rfl rfl (by decide) (P_move rfl) ?_
  refine AL.pure rfl rfl (by decide) (P_nilCheck rfl) ?_
  refine AL.pure rfl rfl (by decide) (P_fieldAddr ty147 rfl ty48 rfl) ?_
  refine AL.pure rfl rfl (by decide) (P_fieldAddr ty48 rfl ty3 rfl) ?_
  refine AL.pure rfl rfl (by decide) (P_load ty3 rfl rfl rfl rfl) ?_
  refine AL.pure rfl rfl (by decide) (P_geq rfl rfl) ?_
  refine AL.pure rfl rfl (by decide) (P_pickF rfl rfl) ?_
  refine AL.nil ?_
  refine Then.go ?_
  refine AW.condD _ rfl ?_ ?_
  · intro h1
    exfalso; omega
  · intro h1
    refine AW.skip ?_
    refine Then.go ?_
    refine AW.seq ?_
    refine AD.start ?_
    refine AD.op 0 20 [] _ rfl rfl rfl (B_pure (P_move rfl)) ?_
    refine AD.op 1 21 [0] _ rfl rfl rfl (B_pure (P_nilCheck rfl)) ?_
    refine AD.op 2 22 [0, 1] _ rfl rfl rfl (B_pure (P_fieldAddr ty147 rfl ty26 rfl)) ?_
    refine AD.op 3 23 [0, 1, 2] _ rfl rfl rfl (B_pure (P_load ty26 rfl rfl rfl rfl)) ?_
    refine AD.op 4 24 [] _ rfl rfl rfl (B_pure (P_move rfl)) ?_
    refine AD.op 5 25 [] _ rfl rfl rfl (B_pure (P_move rfl)) ?_
    refine AD.op 6 26 [5] _ rfl rfl rfl (B_pure (P_nilCheck rfl)) ?_
    refine AD.op 7 27 [5, 6] _ rfl rfl rfl (B_pure (P_fieldAddr ty147 rfl ty48 rfl)) ?_
    refine AD.op 8 28 [5, 6, 7] _ rfl rfl rfl (B_pure (P_fieldAddr ty48 rfl ty3 rfl)) ?_
    refine AD.op 9 29 [5, 6, 7, 8] _ rfl rfl rfl (B_pure (P_load ty3 rfl rfl rfl rfl)) ?_
    refine AD.op 10 30 [4, 5, 6, 7, 8, 9] _ rfl rfl rfl (B_pure (P_mulN rfl rfl (by omega) (by omega))) ?_
    refine AD.op 11 31 [] _ rfl rfl rfl (B_pure (P_move rfl)) ?_
    refine AD.op 12 32 [11] _ rfl rfl rfl (B_pure (P_addN rfl rfl (by omega) (by omega))) ?_
    refine AD.op 13 33 [] _ rfl rfl rfl (B_pure (P_move rfl)) ?_
    refine AD.op 14 34 [13] _ rfl rfl rfl (B_pure (P_nilCheck rfl)) ?_
    refine AD.op 15 35 [13, 14] _ rfl rfl rfl (B_pure (P_fieldAddr ty147 rfl ty48 rfl)) ?_
    refine AD.op 16 36 [13, 14, 15] _ rfl rfl rfl (B_pure (P_fieldAddr ty48 rfl ty3 rfl)) ?_
    refine AD.op 17 37 [13, 14, 15, 16] _ rfl rfl rfl (B_pure (P_load ty3 rfl rfl rfl rfl)) ?_
    refine AD.op 18 38 [11, 12, 13, 14, 15, 16, 17] _ rfl rfl rfl (B_pure (P_mulN rfl rfl (by omega) (by omega))) ?_
    refine AD.tail mixed rfl (by kernel_rfl) rfl ?_
    refine AL.pure rfl rfl (by decide) (P_sliceOLH ty26 ty5 rfl rfl rfl (by omega) (by omega) (by omega)) ?_
    refine AL.pure rfl rfl (by decide) (P_assign rfl) ?_
    refine AL.nil ?_
    refine Then.go ?_
    refine AW.ret ?_
    refine ⟨(by exact .inr rfl), _, _, (.cons (.tmp rfl) .nil), (SubG.cons (l := 10) rfl SubG.nil), ?_, rfl, rfl⟩
    refine ⟨own_congr2 ?_ ?_, rfl⟩ <;> omega

abbrev norG (p : Pw) (g : Geo) (m : List UInt8) (er : List (Int × Int)) : GS := [(1, pwO p), (10, norO g m.length), (11, .els 5 1 (bs m)), (12, .mapT (ents k1 i8 er))]
def eraseN (p : Pw) (m : List UInt8) (er : List (Int × Int)) (i z : Nat) : Int × Pw × List UInt8 × List (Int × Int) :=
  let s := stepP p
  if s.1 = true then (0, s.2.2, orAt m (i * z) z 255, setL er i (IntKind.i64.wrap ((getL er i).getD 0 + 1))) else if s.2.1 = true then (6, s.2.2, orAt m (i * z) z s.2.2.mask, er) else (6, s.2.2, m, er)

theorem C_nor_Chip_Erase (p : Pw) (g : Geo) (m : List UInt8) (er : List (Int × Int)) (i s z : Nat) (hp : p.ok) (hs : g.s = s) (hz : g.z = z) (hi : i < s) (hN : m.length = s * z) (hb : m.length ≤ 1000000) (hp0 : 0 < z) (hs2 : s ≤ 1000000) (he : okL in64 er) : ACalls Tryz.prog 174 [.ptr 10 0, vI .i64 (i : Nat)] (norG p g m er) ([]) (fun r G => r = vI .i64 (eraseN p m er i z).1 ∧ G = norG (eraseN p m er i z).2.1 g (eraseN p m er i z).2.2.1 (eraseN p m er i z).2.2.2) := by
  have a1 := mul_facts hi hN
  refine acalls_of_body 48 [1, 2, 10, 11, 12] Tryz.func174 rfl (by kernel_rfl) Tryz.ntmps174 (Nat.le_of_ble_eq_true rfl) rfl ?_
  refine AW.seq ?_
  refine AW.region ?_
  refine AL.pure rfl rfl (by decide) (P_assign rfl) ?_
  refine AL.nil ?_
  refine Then.go ?_
  refine AW.seq ?_
  refine AW.region ?_
  refine AL.pure rfl rfl (by decide) (P_move rfl) ?_
  refine AL.pure rfl rfl (by decide) (P_move rfl) ?_
  refine AL.call (C_nor_Chip_sector g m.length i s z hs hz hi hN hb hp0 hs2 ) _ [] [] _ rfl (by decide) rfl rfl rfl (SubG.cons rfl SubG.nil) ?_
  rintro _ _ ⟨rfl, rfl⟩
  refine ⟨rfl, rfl, ?_⟩
  refine AL.pure rfl rfl (by decide) (P_assign rfl) ?_
  refine AL.nil ?_
  refine Then.go ?_
  refine AW.seq ?_
  refine AW.block ?_
  refine AW.seq ?_
  refine AW.region ?_
  refine AL.pure rfl rfl (by decide) (P_move rfl) ?_
  refine AL.pure rfl rfl (by decide) (P_eqlPN ty49 rfl rfl) ?_
  refine AL.pure rfl rfl (by decide) (P_assign rfl) ?_
  refine AL.nil ?_
  refine Then.go ?_
  refine AW.condF rfl ?_
  refine AW.seq ?_
  refine AW.region ?_
  refine AL.pure rfl rfl (by decide) (P_move rfl) ?_
  refine AL.pure rfl rfl (by decide) (P_eqlNilO ty26 rfl (by omega) rfl) ?_
  refine AL.pure rfl rfl (by decide) (P_assign rfl) ?_
  refine AL.nil ?_
  refine Then.go ?_
  refine AW.condF rfl ?_
  refine AW.skip ?_
  refine InBlock.go ?_
  refine Then.go ?_
  refine AW.seq ?_
  refine AW.region ?_
  refine AL.pure rfl rfl (by decide) (P_move rfl) ?_
  refine AL.pure rfl rfl (by decide) (P_nilCheck rfl) ?_
  refine AL.pure rfl rfl (by decide) (P_fieldAddr ty147 rfl ty70 rfl) ?_
  refine AL.pure rfl rfl (by decide) (P_load ty70 rfl rfl rfl rfl) ?_
  refine AL.call (C_power_Power_Step p hp ) _ [] [] _ rfl (by decide) rfl rfl rfl (SubG.cons rfl SubG.nil) ?_
  rintro _ _ ⟨rfl, rfl⟩
  refine ⟨rfl, rfl, ?_⟩
  refine AL.pure rfl rfl (by decide) (P_move rfl) ?_
  refine AL.pure rfl rfl (by decide) (P_extract rfl rfl) ?_
  refine AL.pure rfl rfl (by decide) (P_extract rfl rfl) ?_
  refine AL.pure rfl rfl (by decide) (P_assign rfl) ?_
  refine AL.pure rfl rfl (by decide) (P_assign rfl) ?_
  refine AL.nil ?_
  refine Then.go ?_
  refine AW.seq ?_
  refine AW.block ?_
  refine AW.seq ?_
  refine AW.region ?_
  refine AL.pure rfl rfl (by decide) (P_move rfl) ?_
  refine AL.pure rfl rfl (by decide) (P_assign rfl) ?_
  refine AL.nil ?_
  refine Then.go ?_
  refine AW.cond _ rfl ?_ ?_
  · intro h2
    refine AW.seq ?_
    refine AW.region ?_
    refine AL.pure rfl rfl (by decide) (P_move rfl) ?_
    refine AL.call (C_nor_set m (i * z) z 255 (by omega) ) _ [] [] _ rfl (by decide) rfl rfl rfl (SubG.cons rfl SubG.nil) ?_
    rintro _ _ ⟨rfl, rfl⟩
    refine ⟨rfl, rfl, ?_⟩
    refine AL.nil ?_
    refine Then.go ?_
    refine AW.seq ?_
    refine AD.start ?_
    refine AD.op 0 29 [] _ rfl rfl rfl (B_pure (P_move rfl)) ?_
    refine AD.op 1 30 [0] _ rfl rfl rfl (B_pure (P_nilCheck rfl)) ?_
    refine AD.op 2 31 [0, 1] _ rfl rfl rfl (B_pure (P_fieldAddr ty147 rfl ty145 rfl)) ?_
    refine AD.op 3 32 [0, 1, 2] _ rfl rfl rfl (B_pure (P_load ty145 rfl rfl rfl rfl)) ?_
    refine AD.op 4 33 [] _ rfl rfl rfl (B_pure (P_move rfl)) ?_
    refine AD.op 5 34 [4] _ rfl rfl rfl (B_pure (P_buildArr ty322 ty3 tz322 rfl)) ?_
    refine AD.incr (key := (i : Int)) mi145 kf322 tz3 mixed rfl (by kernel_rfl) (by kernel_rfl) rfl rfl rfl rfl rfl rfl rfl (by decide) (by decide) (by intro d hd; simp only [List.mem_cons, List.not_mem_nil, or_false] at hd; rcases hd with rfl | rfl | rfl | rfl <;> rfl) rfl (fun S => evK1 S rfl) rfl he (by constructor <;> omega) ?_
    refine Then.go ?_
    refine AW.seq ?_
    refine AW.region ?_
    refine AL.pure rfl rfl (by decide) (P_assign rfl) ?_
    refine AL.nil ?_
    refine Then.go ?_
    refine AW.ret ?_
    refine InBlock.r ?_
    refine Then.r ?_
    refine ⟨(by exact .inr rfl), _, _, (.cons (.tmp rfl) .nil), (SubG.cons (l := 1) rfl (SubG.cons (l := 10) rfl (SubG.cons (l := 11) rfl (SubG.cons (l := 12) rfl SubG.nil)))), ?_, rfl, rfl⟩
    refine ⟨?_, ?_⟩ <;> simp [oneOr, eraseN, norG, orAt_length, *] <;> rfl
  · intro h2
    refine AW.seq ?_
    refine AW.region ?_
    refine AL.pure rfl rfl (by decide) (P_move rfl) ?_
    refine AL.pure rfl rfl (by decide) (P_assign rfl) ?_
    refine AL.nil ?_
    refine Then.go ?_
    refine AW.cond _ rfl ?_ ?_
    · intro h3
      refine AW.region ?_
      refine AL.pure rfl rfl (by decide) (P_move rfl) ?_
      refine AL.pure rfl rfl (by decide) (P_move rfl) ?_
      refine AL.pure rfl rfl (by decide) (P_nilCheck rfl) ?_
      refine AL.pure rfl rfl (by decide) (P_fieldAddr ty147 rfl ty70 rfl) ?_
      refine AL.pure rfl rfl (by decide) (P_load ty70 rfl rfl rfl rfl) ?_
      refine AL.call (C_power_Power_Mask (stepP p).2.2 ) _ [] [] _ rfl (by decide) rfl rfl rfl (SubG.cons rfl SubG.nil) ?_
      rintro _ _ ⟨rfl, rfl⟩
      refine ⟨rfl, rfl, ?_⟩
      refine AL.call (C_nor_set m (i * z) z (stepP p).2.2.mask (by omega) ) _ [] [] _ rfl (by decide) rfl rfl rfl (SubG.cons rfl SubG.nil) ?_
      rintro _ _ ⟨rfl, rfl⟩
      refine ⟨rfl, rfl, ?_⟩
      refine AL.nil ?_
      refine InBlock.go ?_
      refine Then.go ?_
      refine AW.seq ?_
      refine AW.region ?_
      refine AL.pure rfl rfl (by decide) (P_assign rfl) ?_
      refine AL.nil ?_
      refine Then.go ?_
      refine AW.ret ?_
      refine ⟨(by exact .inr rfl), _, _, (.cons (.tmp rfl) .nil), (SubG.cons (l := 1) rfl (SubG.cons (l := 10) rfl (SubG.cons (l := 11) rfl (SubG.cons (l := 12) rfl SubG.nil)))), ?_, rfl, rfl⟩
      refine ⟨?_, ?_⟩ <;> simp [oneOr, eraseN, norG, orAt_length, *] <;> rfl
    · intro h3
      refine AW.skip ?_
      refine InBlock.go ?_
      refine Then.go ?_
      refine AW.seq ?_
      refine AW.region ?_
      refine AL.pure rfl rfl (by decide) (P_assign rfl) ?_
      refine AL.nil ?_
      refine Then.go ?_
      refine AW.ret ?_
      refine ⟨(by exact .inr rfl), _, _, (.cons (.tmp rfl) .nil), (SubG.cons (l := 1) rfl (SubG.cons (l := 10) rfl (SubG.cons (l := 11) rfl (SubG.cons (l := 12) rfl SubG.nil)))), ?_, rfl, rfl⟩
      refine ⟨?_, ?_⟩ <;> simp [oneOr, eraseN, norG, orAt_length, *] <;> rfl
theorem C_nor_Chip_ask (g : Geo) (N : Nat) (at_ n : Int) (h1 : in64 at_) (h2 : in64 n) (hN : N ≤ 1000000) : ACalls Tryz.prog 218 [.ptr 10 0, vI .i64 at_, vI .i64 n] ([(10, norO g N)]) ([]) (fun r G => r = vI .i64 (if at_ < 0 ∨ n < 0 ∨ (N : Int) - n < at_ then 1 else 0) ∧ G = [(10, norO g N)]) := by
  obtain ⟨q1, q2⟩ := h1; obtain ⟨q3, q4⟩ := h2
  refine acalls_of_body 28 [10, 1, 11, 12] Tryz.func218 rfl (by kernel_rfl) Tryz.ntmps218 (Nat.le_of_ble_eq_true rfl) rfl ?_
  refine AW.seq ?_
  refine AW.region ?_
  refine AL.pure rfl rfl (by decide) (P_assign rfl) ?_
  refine AL.nil ?_
  refine Then.go ?_
  refine AW.seq ?_
  refine AW.block ?_
  refine AW.seq ?_
  refine AW.region ?_
  refine AL.pure rfl rfl (by decide) (P_move rfl) ?_
  refine AL.pure rfl rfl (by decide) (P_eqlPN ty49 rfl rfl) ?_
  refine AL.pure rfl rfl (by decide) (P_assign rfl) ?_
  refine AL.nil ?_
  refine Then.go ?_
  refine AW.condF rfl ?_
  refine AW.seq ?_
  refine AW.region ?_
  refine AL.pure rfl rfl (by decide) (P_move rfl) ?_
  refine AL.pure rfl rfl (by decide) (P_lss rfl rfl) ?_
  refine AL.pure rfl rfl (by decide) (P_move rfl) ?_
  refine AL.caseD (t := 13) _ rfl (by decide) ?_ ?_
  · intro h1
    refine AL.not rfl rfl (by decide) ?_
    refine AL.not rfl rfl (by decide) ?_
    refine AL.pure rfl rfl (by decide) (P_pickT rfl rfl) ?_
    refine AL.pure rfl rfl (by decide) (P_move rfl) ?_
    refine AL_case (t := 17) _ rfl (by decide) ?_ ?_
    · intro h2
      refine AL.not rfl rfl (by decide) ?_
      refine AL.not rfl rfl (by decide) ?_
      refine AL.not rfl rfl (by decide) ?_
      refine AL.not rfl rfl (by decide) ?_
      refine AL.not rfl rfl (by decide) ?_
      refine AL.not rfl rfl (by decide) ?_
      refine AL.not rfl rfl (by decide) ?_
      refine AL.not rfl rfl (by decide) ?_
      refine AL.not rfl rfl (by decide) ?_
      refine AL.pure rfl rfl (by decide) (P_pickT rfl rfl) ?_
      refine AL.pure rfl rfl (by decide) (P_assign rfl) ?_
      refine AL.nil ?_
      refine Then.go ?_
      refine AW.cond _ rfl ?_ ?_
      · intro h3
        refine AW.seq ?_
        refine AW.region ?_
        refine AL.pure rfl rfl (by decide) (P_assign rfl) ?_
        refine AL.nil ?_
        refine Then.go ?_
        refine AW.ret ?_
        refine InBlock.r ?_
        refine Then.r ?_
        refine ⟨(by exact .inr rfl), _, _, (.cons (.tmp rfl) .nil), (SubG.cons (l := 10) rfl SubG.nil), ?_, rfl, rfl⟩
        (refine ⟨vI_congr ?_, rfl⟩; rw [if_pos (by omega)]; done)
      · intro h3
        refine AW.skip ?_
        refine InBlock.go ?_
        refine Then.go ?_
        refine AW.seq ?_
        refine AW.region ?_
        refine AL.pure rfl rfl (by decide) (P_assign rfl) ?_
        refine AL.nil ?_
        refine Then.go ?_
        refine AW.ret ?_
        refine ⟨(by exact .inr rfl), _, _, (.cons (.tmp rfl) .nil), (SubG.cons (l := 10) rfl SubG.nil), ?_, rfl, rfl⟩
        contradiction
    · intro h2
      refine AL.pure rfl rfl (by decide) (P_move rfl) ?_
      refine AL.pure rfl rfl (by decide) (P_nilCheck rfl) ?_
      refine AL.pure rfl rfl (by decide) (P_fieldAddr ty147 rfl ty26 rfl) ?_
      refine AL.pure rfl rfl (by decide) (P_load ty26 rfl rfl rfl rfl) ?_
      refine AL_lenOwn rfl rfl (by decide) ty26 rfl fun h4 => ?_
      try simp only [bs_length, List.length_map, List.length_append, List.length_replicate, List.length_cons, List.length_nil, List.length_take, List.length_set] at h4
      refine AL.pure rfl rfl (by decide) (P_move rfl) ?_
      refine AL.pure rfl rfl (by decide) (P_sub rfl rfl) ?_
      refine AL.pure rfl rfl (by decide) (P_move rfl) ?_
      refine AL.pure rfl rfl (by decide) (P_lss rfl rfl) ?_
      refine AL.pure rfl rfl (by decide) (P_pickF rfl rfl) ?_
      refine AL.pure rfl rfl (by decide) (P_assign rfl) ?_
      refine AL.nil ?_
      refine Then.go ?_
      refine AW.condD _ rfl ?_ ?_
      · intro h5
        refine AW.seq ?_
        refine AW.region ?_
        refine AL.pure rfl rfl (by decide) (P_assign rfl) ?_
        refine AL.nil ?_
        refine Then.go ?_
        refine AW.ret ?_
        refine InBlock.r ?_
        refine Then.r ?_
        refine ⟨(by exact .inr rfl), _, _, (.cons (.tmp rfl) .nil), (SubG.cons (l := 10) rfl SubG.nil), ?_, rfl, rfl⟩
        contradiction
      · intro h5
        refine AW.skip ?_
        refine InBlock.go ?_
        refine Then.go ?_
        refine AW.seq ?_
        refine AW.region ?_
        refine AL.pure rfl rfl (by decide) (P_assign rfl) ?_
        refine AL.nil ?_
        refine Then.go ?_
        refine AW.ret ?_
        refine ⟨(by exact .inr rfl), _, _, (.cons (.tmp rfl) .nil), (SubG.cons (l := 10) rfl SubG.nil), ?_, rfl, rfl⟩
        contradiction
  · intro h1
    refine AL.pure rfl rfl (by decide) (P_move rfl) ?_
    refine AL.pure rfl rfl (by decide) (P_lss rfl rfl) ?_
    refine AL.pure rfl rfl (by decide) (P_pickF rfl rfl) ?_
    refine AL.pure rfl rfl (by decide) (P_move rfl) ?_
    refine AL.caseD (t := 17) _ rfl (by decide) ?_ ?_
    · intro h6
      refine AL.not rfl rfl (by decide) ?_
      refine AL.not rfl rfl (by decide) ?_
      refine AL.not rfl rfl (by decide) ?_
      refine AL.not rfl rfl (by decide) ?_
      refine AL.not rfl rfl (by decide) ?_
      refine AL.not rfl rfl (by decide) ?_
      refine AL.not rfl rfl (by decide) ?_
      refine AL.not rfl rfl (by decide) ?_
      refine AL.not rfl rfl (by decide) ?_
      refine AL.pure rfl rfl (by decide) (P_pickT rfl rfl) ?_
      refine AL.pure rfl rfl (by decide) (P_assign rfl) ?_
      refine AL.nil ?_
      refine Then.go ?_
      refine AW.cond _ rfl ?_ ?_
      · intro h7
        refine AW.seq ?_
        refine AW.region ?_
        refine AL.pure rfl rfl (by decide) (P_assign rfl) ?_
        refine AL.nil ?_
        refine Then.go ?_
        refine AW.ret ?_
        refine InBlock.r ?_
        refine Then.r ?_
        refine ⟨(by exact .inr rfl), _, _, (.cons (.tmp rfl) .nil), (SubG.cons (l := 10) rfl SubG.nil), ?_, rfl, rfl⟩
        (refine ⟨vI_congr ?_, rfl⟩; rw [if_pos (by omega)]; done)
      · intro h7
        refine AW.skip ?_
        refine InBlock.go ?_
        refine Then.go ?_
        refine AW.seq ?_
        refine AW.region ?_
        refine AL.pure rfl rfl (by decide) (P_assign rfl) ?_
        refine AL.nil ?_
        refine Then.go ?_
        refine AW.ret ?_
        refine ⟨(by exact .inr rfl), _, _, (.cons (.tmp rfl) .nil), (SubG.cons (l := 10) rfl SubG.nil), ?_, rfl, rfl⟩
        contradiction
    · intro h6
      refine AL.pure rfl rfl (by decide) (P_move rfl) ?_
      refine AL.pure rfl rfl (by decide) (P_nilCheck rfl) ?_
      refine AL.pure rfl rfl (by decide) (P_fieldAddr ty147 rfl ty26 rfl) ?_
      refine AL.pure rfl rfl (by decide) (P_load ty26 rfl rfl rfl rfl) ?_
      refine AL_lenOwn rfl rfl (by decide) ty26 rfl fun h8 => ?_
      try simp only [bs_length, List.length_map, List.length_append, List.length_replicate, List.length_cons, List.length_nil, List.length_take, List.length_set] at h8
      refine AL.pure rfl rfl (by decide) (P_move rfl) ?_
      refine AL.pure rfl rfl (by decide) (P_subN rfl rfl (by omega) (by omega)) ?_
      refine AL.pure rfl rfl (by decide) (P_move rfl) ?_
      refine AL.pure rfl rfl (by decide) (P_lss rfl rfl) ?_
      refine AL.pure rfl rfl (by decide) (P_pickF rfl rfl) ?_
      refine AL.pure rfl rfl (by decide) (P_assign rfl) ?_
      refine AL.nil ?_
      refine Then.go ?_
      refine AW.condD _ rfl ?_ ?_
      · intro h9
        refine AW.seq ?_
        refine AW.region ?_
        refine AL.pure rfl rfl (by decide) (P_assign rfl) ?_
        refine AL.nil ?_
        refine Then.go ?_
        refine AW.ret ?_
        refine InBlock.r ?_
        refine Then.r ?_
        refine ⟨(by exact .inr rfl), _, _, (.cons (.tmp rfl) .nil), (SubG.cons (l := 10) rfl SubG.nil), ?_, rfl, rfl⟩
        (refine ⟨vI_congr ?_, rfl⟩; rw [if_pos (by omega)]; done)
      · intro h9
        refine AW.skip ?_
        refine InBlock.go ?_
        refine Then.go ?_
        refine AW.seq ?_
        refine AW.region ?_
        refine AL.pure rfl rfl (by decide) (P_assign rfl) ?_
        refine AL.nil ?_
        refine Then.go ?_
        refine AW.ret ?_
        refine ⟨(by exact .inr rfl), _, _, (.cons (.tmp rfl) .nil), (SubG.cons (l := 10) rfl SubG.nil), ?_, rfl, rfl⟩
        (refine ⟨vI_congr ?_, rfl⟩; rw [if_neg (by omega)]; done)

def progN (p : Pw) (m : List UInt8) (at_ : Nat) : List UInt8 → Int × Pw × List UInt8
  | [] => (0, p, m)
  | x :: r => if (stepP p).1 = true then progN (stepP p).2.2 (m.set at_ x) (at_ + 1) r else if (stepP p).2.1 = true then (6, (stepP p).2.2, m.set at_ (x ||| (m.getD at_ 0 &&& (stepP p).2.2.mask))) else (6, (stepP p).2.2, m)
theorem stepP_excl (p : Pw) : (stepP p).1 = true → (stepP p).2.1 = false := by unfold stepP; split <;> (try split) <;> simp
theorem stepP_ok {p : Pw} (h : p.ok) : (stepP p).2.2.ok := by
  obtain ⟨h1, h2⟩ := h
  unfold stepP
  split
  · exact ⟨h1, h2⟩
  · split
    · exact ⟨h1, h2⟩
    · refine ⟨?_, ?_⟩ <;> simp <;> (try split) <;> omega
theorem prog_end {p q : Pw} {m c b : List UInt8} {at_ i : Nat} (hi : i = b.length) (h : progN q c (at_ + i) (b.drop i) = progN p m at_ b) : progN p m at_ b = (0, q, c) := by
  rw [hi, List.drop_length, progN] at h; exact h.symm
theorem prog_torn {p q : Pw} {m c b : List UInt8} {at_ i : Nat} (hi : i < b.length) (h1 : (stepP q).1 = false) (h2 : (stepP q).2.1 = true) (h : progN q c (at_ + i) (b.drop i) = progN p m at_ b) :
    progN p m at_ b = (6, (stepP q).2.2, c.set (at_ + i) (b.getD i 0 ||| (c.getD (at_ + i) 0 &&& (stepP q).2.2.mask))) := by
  rw [drop_get hi, progN, if_neg (by simp [h1]), if_pos h2] at h; exact h.symm
theorem prog_off {p q : Pw} {m c b : List UInt8} {at_ i : Nat} (hi : i < b.length) (h1 : (stepP q).1 = false) (h2 : (stepP q).2.1 = false) (h : progN q c (at_ + i) (b.drop i) = progN p m at_ b) :
    progN p m at_ b = (6, (stepP q).2.2, c) := by
  rw [drop_get hi, progN, if_neg (by simp [h1]), if_neg (by simp [h2])] at h; exact h.symm
theorem prog_on {q : Pw} {c b : List UInt8} {at_ i : Nat} (hi : i < b.length) (h1 : (stepP q).1 = true) : progN q c (at_ + i) (b.drop i) = progN (stepP q).2.2 (c.set (at_ + i) (b.getD i 0)) (at_ + (i + 1)) (b.drop (i + 1)) := by
  rw [drop_get hi, progN, if_pos h1, Nat.add_assoc]
theorem drop_cons {l : List UInt8} {i : Nat} (h : i < l.length) : l.drop i = l.getD i 0 :: l.drop (i + 1) := drop_get h

theorem C_nor_Chip_Program (p : Pw) (g : Geo) (m : List UInt8) (at_ : Nat) (b : List UInt8) (hp : p.ok) (hN : m.length ≤ 1000000) (hin : at_ + b.length ≤ m.length) (hbits : ∀ i < b.length, b.getD i 0 &&& ~~~(m.getD (at_ + i) 0) = 0) : ACalls Tryz.prog 180 [.ptr 10 0, vI .i64 (at_ : Nat), sB b] ([(1, pwO p), (10, norO g m.length), (11, .els 5 1 (bs m))]) ([]) (fun r G => r = vI .i64 (progN p m at_ b).1 ∧ G = [(1, pwO (progN p m at_ b).2.1), (10, norO g m.length), (11, .els 5 1 (bs (progN p m at_ b).2.2))]) := by
  refine acalls_of_body 91 [1, 2, 10, 11, 12] Tryz.func180 rfl (by kernel_rfl) Tryz.ntmps180 (Nat.le_of_ble_eq_true rfl) rfl ?_
  refine AW.seq ?_
  refine AW.region ?_
  refine AL.pure rfl rfl (by decide) (P_assign rfl) ?_
  refine AL.nil ?_
  refine Then.go ?_
  refine AW.seq ?_
  refine AW.seq ?_
  refine AW.region ?_
  refine AL.pure rfl rfl (by decide) (P_move rfl) ?_
  refine AL.pure rfl rfl (by decide) (P_move rfl) ?_
  refine AL.pure rfl rfl (by decide) (P_move rfl) ?_
  refine AL_lenM rfl rfl (by decide) ty26 rfl fun h1 => ?_
  try simp only [bs_length, List.length_map, List.length_append, List.length_replicate, List.length_cons, List.length_nil, List.length_take, List.length_set] at h1
  refine AL.call (C_nor_Chip_ask g m.length at_ b.length (by constructor <;> omega) (by constructor <;> omega) hN ) _ [] [] _ rfl (by decide) rfl rfl rfl (SubG.cons rfl SubG.nil) ?_
  rintro _ _ ⟨rfl, rfl⟩
  refine ⟨rfl, rfl, ?_⟩
  refine AL.pure rfl rfl (by decide) (P_assign rfl) ?_
  refine AL.nil ?_
  refine Then.go ?_
  refine AW.seq ?_
  refine AW.region ?_
  refine AL.pure rfl rfl (by decide) (P_move rfl) ?_
  refine AL.pure rfl rfl (by decide) (P_neq rfl rfl) ?_
  refine AL.nil ?_
  refine Then.go ?_
  refine AW.condN _ rfl ?_ ?_
  · intro h2
    exfalso; rw [if_neg (by omega)] at h2; exact absurd h2 (by decide)
  · intro h2
    refine AW.skip ?_
    refine Then.go ?_
    refine AW.seq ?_
    refine AW.seq ?_
    refine AW.region ?_
    refine AL.pure rfl rfl (by decide) (P_move rfl) ?_
    refine AL_lenM rfl rfl (by decide) ty26 rfl fun h3 => ?_
    try simp only [bs_length, List.length_map, List.length_append, List.length_replicate, List.length_cons, List.length_nil, List.length_take, List.length_set] at h3
    refine AL.pure rfl rfl (by decide) (P_move rfl) ?_
    refine AL.nil ?_
    refine Then.go ?_
    refine AW.block ?_
    refine AW.loopK (σ := Nat) [] [] .nil .nil rfl (fun i => [(22, sB b), (23, vI .i64 (b.length : Nat)), (24, vI .i64 (i : Nat)), (0, .ptr 10 0), (1, vI .i64 (at_ : Nat)), (2, sB b)]) (fun i => [(1, pwO p), (10, norO g m.length), (11, .els 5 1 (bs m))]) (fun i => i ≤ b.length) (fun i => b.length - i) (0) ?_ ?_ ?_ ?_
    · skip
      simp
    · skip
      refine SubT.cons' (by decide) rfl ?_ ?_
      · skip
        rfl
      refine SubT.cons' (by decide) rfl ?_ ?_
      · skip
        rfl
      refine SubT.cons' (by decide) rfl ?_ ?_
      · skip
        rfl
      refine SubT.cons' (by decide) rfl ?_ ?_
      · skip
        rfl
      refine SubT.cons' (by decide) rfl ?_ ?_
      · skip
        rfl
      refine SubT.cons' (by decide) rfl ?_ ?_
      · skip
        rfl
      exact SubT.nil
    · skip
      refine SubG.cons' rfl ?_ ?_
      · skip
        rfl
      refine SubG.cons' rfl ?_ ?_
      · skip
        rfl
      refine SubG.cons' rfl ?_ ?_
      · skip
        rfl
      exact SubG.nil
    · rintro i hs
      try dsimp only at hs
      dsimp only [List.cons_append, List.nil_append]
      refine AW.seq ?_
      refine AW.region ?_
      refine AL.pure rfl rfl (by decide) (P_lss rfl rfl) ?_
      refine AL.nil ?_
      refine Then.go ?_
      refine AW.seq ?_
      refine AW.condD _ rfl ?_ ?_
      · intro h4
        refine AW.skip ?_
        refine Then.go ?_
        refine AW.seq ?_
        refine AW.block ?_
        refine AW.seq ?_
        refine AW.region ?_
        refine AL.pure rfl rfl (by decide) (P_move rfl) ?_
        refine AL.pure rfl rfl (by decide) (P_indexSl ty26 ty5 rfl rfl (by exact bs_at (by omega)) (by rfl)) ?_
        refine AL.pure rfl rfl (by decide) (P_loadR ty5 rfl rfl rfl) ?_
        refine AL.pure rfl rfl (by decide) (P_assign rfl) ?_
        refine AL.pure rfl rfl (by decide) (P_assign rfl) ?_
        refine AL.nil ?_
        refine Then.go ?_
        refine AW.seq ?_
        refine AW.region ?_
        refine AL.pure rfl rfl (by decide) (P_move rfl) ?_
        refine AL.pure rfl rfl (by decide) (P_move rfl) ?_
        refine AL.pure rfl rfl (by decide) (P_nilCheck rfl) ?_
        refine AL.pure rfl rfl (by decide) (P_fieldAddr ty147 rfl ty26 rfl) ?_
        refine AL.pure rfl rfl (by decide) (P_load ty26 rfl rfl rfl rfl) ?_
        refine AL.pure rfl rfl (by decide) (P_move rfl) ?_
        refine AL.pure rfl rfl (by decide) (P_move rfl) ?_
        refine AL.pure rfl rfl (by decide) (P_addN rfl rfl (by omega) (by omega)) ?_
        refine AL.recast 36 (vI .i64 ((at_ + i : Nat) : Int)) rfl (vI_congr (by simp)) ?_
        refine AL.pure rfl rfl (by decide) (P_indexOwn1 ty26 ty5 rfl rfl (by omega)) ?_
        refine AL.pure rfl rfl (by decide) (P_loadE1 ty5 rfl rfl rfl (by exact bs_at (by omega)) (by rfl) (by rfl)) ?_
        refine AL.pure rfl rfl (by decide) (P_andNotU8 rfl rfl) ?_
        refine AL.pure rfl rfl (by decide) (P_neqU8 (b := 0) rfl rfl) ?_
        refine AL.nil ?_
        refine Then.go ?_
        refine AW.condN _ rfl ?_ ?_
        · intro h5
          exfalso; have := hbits i (by omega); simp_all
        · intro h5
          refine AW.skip ?_
          refine InBlock.go ?_
          refine Then.go ?_
          refine AW.region ?_
          refine AL.pure rfl rfl (by decide) (P_addN rfl rfl (by omega) (by omega)) ?_
          refine AL.pure rfl rfl (by decide) (P_move rfl) ?_
          refine AL.nil ?_
          refine Round.go (i + 1) ?_ ?_ ?_ ?_
          · try dsimp only
            omega
          · try dsimp only
            omega
          · skip
            refine SubT.cons' (by decide) rfl ?_ ?_
            · skip
              rfl
            refine SubT.cons' (by decide) rfl ?_ ?_
            · skip
              rfl
            refine SubT.cons' (by decide) rfl ?_ ?_
            · skip
              rfl
            refine SubT.cons' (by decide) rfl ?_ ?_
            · skip
              rfl
            refine SubT.cons' (by decide) rfl ?_ ?_
            · skip
              rfl
            refine SubT.cons' (by decide) rfl ?_ ?_
            · skip
              rfl
            exact SubT.nil
          · skip
            refine SubG.cons' rfl ?_ ?_
            · skip
              rfl
            refine SubG.cons' rfl ?_ ?_
            · skip
              rfl
            refine SubG.cons' rfl ?_ ?_
            · skip
              rfl
            exact SubG.nil
      · intro h4
        refine AW.exit ?_
        refine Then.e ?_
        refine Round.e ?_
        refine InBlock.e ?_
        refine Then.go ?_
        refine AW.seq ?_
        refine AW.seq ?_
        refine AW.region ?_
        refine AL.pure rfl rfl (by decide) (P_move rfl) ?_
        refine AL_lenM rfl rfl (by decide) ty26 rfl fun h6 => ?_
        try simp only [bs_length, List.length_map, List.length_append, List.length_replicate, List.length_cons, List.length_nil, List.length_take, List.length_set] at h6
        refine AL.pure rfl rfl (by decide) (P_move rfl) ?_
        refine AL.nil ?_
        refine Then.go ?_
        refine AW.block ?_
        refine AW.loopK (σ := Nat × Pw × List UInt8) [] [] .nil .nil rfl (fun (i, q, c) => [(42, sB b), (43, vI .i64 (b.length : Nat)), (44, vI .i64 (i : Nat)), (0, .ptr 10 0), (1, vI .i64 (at_ : Nat))]) (fun (i, q, c) => [(1, pwO q), (10, norO g m.length), (11, .els 5 1 (bs c))]) (fun (i, q, c) => i ≤ b.length ∧ q.ok ∧ c.length = m.length ∧ progN q c (at_ + i) (b.drop i) = progN p m at_ b) (fun (i, q, c) => b.length - i) ((0, p, m)) ?_ ?_ ?_ ?_
        · skip
          exact ⟨by simp, hp, rfl, rfl⟩
        · skip
          refine SubT.cons' (by decide) rfl ?_ ?_
          · skip
            rfl
          refine SubT.cons' (by decide) rfl ?_ ?_
          · skip
            rfl
          refine SubT.cons' (by decide) rfl ?_ ?_
          · skip
            rfl
          refine SubT.cons' (by decide) rfl ?_ ?_
          · skip
            rfl
          refine SubT.cons' (by decide) rfl ?_ ?_
          · skip
            rfl
          exact SubT.nil
        · skip
          refine SubG.cons' rfl ?_ ?_
          · skip
            rfl
          refine SubG.cons' rfl ?_ ?_
          · skip
            rfl
          refine SubG.cons' rfl ?_ ?_
          · skip
            rfl
          exact SubG.nil
        · rintro ⟨i, q, c⟩ hs
          try dsimp only at hs
          dsimp only [List.cons_append, List.nil_append]
          obtain ⟨i0, hq, i2, i3⟩ := hs
          refine AW.seq ?_
          refine AW.region ?_
          refine AL.pure rfl rfl (by decide) (P_lss rfl rfl) ?_
          refine AL.nil ?_
          refine Then.go ?_
          refine AW.seq ?_
          refine AW.condD _ rfl ?_ ?_
          · intro h7
            refine AW.skip ?_
            refine Then.go ?_
            refine AW.seq ?_
            refine AW.block ?_
            refine AW.seq ?_
            refine AW.region ?_
            refine AL.pure rfl rfl (by decide) (P_move rfl) ?_
            refine AL.pure rfl rfl (by decide) (P_indexSl ty26 ty5 rfl rfl (by exact bs_at (by omega)) (by rfl)) ?_
            refine AL.pure rfl rfl (by decide) (P_loadR ty5 rfl rfl rfl) ?_
            refine AL.pure rfl rfl (by decide) (P_assign rfl) ?_
            refine AL.pure rfl rfl (by decide) (P_assign rfl) ?_
            refine AL.nil ?_
            refine Then.go ?_
            refine AW.seq ?_
            refine AW.region ?_
            refine AL.pure rfl rfl (by decide) (P_move rfl) ?_
            refine AL.pure rfl rfl (by decide) (P_nilCheck rfl) ?_
            refine AL.pure rfl rfl (by decide) (P_fieldAddr ty147 rfl ty70 rfl) ?_
            refine AL.pure rfl rfl (by decide) (P_load ty70 rfl rfl rfl rfl) ?_
            refine AL.call (C_power_Power_Step q hq ) _ [] [] _ rfl (by decide) rfl rfl rfl (SubG.cons rfl SubG.nil) ?_
            rintro _ _ ⟨rfl, rfl⟩
            refine ⟨rfl, rfl, ?_⟩
            refine AL.pure rfl rfl (by decide) (P_move rfl) ?_
            refine AL.pure rfl rfl (by decide) (P_extract rfl rfl) ?_
            refine AL.pure rfl rfl (by decide) (P_extract rfl rfl) ?_
            refine AL.pure rfl rfl (by decide) (P_assign rfl) ?_
            refine AL.pure rfl rfl (by decide) (P_assign rfl) ?_
            refine AL.nil ?_
            refine Then.go ?_
            refine AW.seq ?_
            refine AW.seq ?_
            refine AW.region ?_
            refine AL.pure rfl rfl (by decide) (P_move rfl) ?_
            refine AL.nil ?_
            refine Then.go ?_
            refine AW.cond _ rfl ?_ ?_
            · intro h8
              refine AD.start ?_
              refine AD.op 0 58 [] _ rfl rfl rfl (B_pure (P_move rfl)) ?_
              refine AD.op 1 59 [] _ rfl rfl rfl (B_pure (P_move rfl)) ?_
              refine AD.op 2 60 [1] _ rfl rfl rfl (B_pure (P_nilCheck rfl)) ?_
              refine AD.op 3 61 [1, 2] _ rfl rfl rfl (B_pure (P_fieldAddr ty147 rfl ty26 rfl)) ?_
              refine AD.op 4 62 [1, 2, 3] _ rfl rfl rfl (B_pure (P_load ty26 rfl rfl rfl rfl)) ?_
              refine AD.op 5 63 [] _ rfl rfl rfl (B_pure (P_move rfl)) ?_
              refine AD.op 6 64 [] _ rfl rfl rfl (B_pure (P_move rfl)) ?_
              refine AD.op 7 65 [5, 6] _ rfl rfl rfl (B_pure (P_addN rfl rfl (by omega) (by omega))) ?_
              refine AD.op 8 66 [1, 2, 3, 4, 5, 6, 7] _ rfl rfl rfl (B_pure (P_indexOwn1 ty26 ty5 rfl rfl (by omega))) ?_
              refine AD.op 9 67 [1, 2, 3, 4, 5, 6, 7, 8] _ rfl rfl rfl (B_pure (P_loadE1 ty5 rfl rfl rfl (by exact bs_at (by omega)) (by rfl) (by rfl))) ?_
              refine AD.op 10 68 [] _ rfl rfl rfl (B_pure (P_move rfl)) ?_
              refine AD.op 11 69 [10] _ rfl rfl rfl (B_pure (P_nilCheck rfl)) ?_
              refine AD.op 12 70 [10, 11] _ rfl rfl rfl (B_pure (P_fieldAddr ty147 rfl ty70 rfl)) ?_
              refine AD.op 13 71 [10, 11, 12] _ rfl rfl rfl (B_pure (P_load ty70 rfl rfl rfl rfl)) ?_
              refine AD.op 14 72 [10, 11, 12, 13] _ rfl rfl rfl (B_callR (C_power_Power_Mask (stepP q).2.2 ) _ rfl rfl (SubG.cons rfl SubG.nil) (by rintro _ _ ⟨rfl, rfl⟩; exact ⟨rfl, rfl⟩)) ?_
              refine AD.tailE [0] mixed rfl (by kernel_rfl) (by kernel_rfl) (by kernel_rfl) (by kernel_rfl) (fun _ _ _ h => by obtain ⟨h1, _⟩ := h; rcases h1 with h1 | h1 <;> cases h1) ⟨True.intro, ⟨True.intro, ⟨True.intro, ⟨True.intro, ⟨True.intro, ⟨True.intro, ⟨True.intro, ⟨True.intro, ⟨True.intro, ⟨True.intro, ⟨True.intro, ⟨True.intro, ⟨True.intro, ⟨True.intro, ⟨⟨_, rfl, rfl, rfl, W_move rfl⟩, trivial⟩⟩⟩⟩⟩⟩⟩⟩⟩⟩⟩⟩⟩⟩⟩ rfl ?_
              refine AL.pure rfl rfl (by decide) (P_andU8 rfl rfl) ?_
              refine AL.pure rfl rfl (by decide) (P_orU8 rfl rfl) ?_
              refine AL.pure rfl rfl (by decide) (P_assign rfl) ?_
              refine AL.nil ?_
              refine Then.go ?_
              refine AW.seq ?_
              refine AW.seq ?_
              refine AW.region ?_
              refine AL.pure rfl rfl (by decide) (P_move rfl) ?_
              refine AL.pure rfl rfl (by decide) (P_move rfl) ?_
              refine AL_case (t := 76) _ rfl (by decide) ?_ ?_
              · intro h9
                refine AL.not rfl rfl (by decide) ?_
                refine AL.pure rfl rfl (by decide) (P_pickT rfl rfl) ?_
                refine AL.nil ?_
                refine Then.go ?_
                refine AW.cond _ rfl ?_ ?_
                · intro h10
                  refine AW.region ?_
                  refine AL.pure rfl rfl (by decide) (P_move rfl) ?_
                  refine AL.pure rfl rfl (by decide) (P_nilCheck rfl) ?_
                  refine AL.pure rfl rfl (by decide) (P_fieldAddr ty147 rfl ty26 rfl) ?_
                  refine AL.pure rfl rfl (by decide) (P_load ty26 rfl rfl rfl rfl) ?_
                  refine AL.pure rfl rfl (by decide) (P_move rfl) ?_
                  refine AL.pure rfl rfl (by decide) (P_move rfl) ?_
                  refine AL.pure rfl rfl (by decide) (P_addN rfl rfl (by omega) (by omega)) ?_
                  refine AL.recast 85 (vI .i64 ((at_ + i : Nat) : Int)) rfl (vI_congr (by simp)) ?_
                  refine AL.pure rfl rfl (by decide) (P_move rfl) ?_
                  refine AL.pure rfl rfl (by decide) (P_indexOwn1 ty26 ty5 rfl rfl (by omega)) ?_
                  refine AL.eff0 rfl rfl (E_storeE1 ty5 rfl rfl rfl rfl (by (simp only [bs_length, List.length_map, List.length_append, List.length_replicate, List.length_set, List.length_take, List.length_nil, List.length_cons]; omega)) rfl) ?_
                  refine AL.nil ?_
                  refine Then.go ?_
                  refine AW.seq ?_
                  refine AW.region ?_
                  refine AL.pure rfl rfl (by decide) (P_move rfl) ?_
                  refine AL.pure rfl rfl (by decide) (P_not rfl) ?_
                  refine AL.nil ?_
                  refine Then.go ?_
                  refine AW.cond _ rfl ?_ ?_
                  · intro h11
                    refine AW.seq ?_
                    refine AW.region ?_
                    refine AL.pure rfl rfl (by decide) (P_assign rfl) ?_
                    refine AL.nil ?_
                    refine Then.go ?_
                    refine AW.ret ?_
                    refine InBlock.r ?_
                    refine Then.r ?_
                    refine Round.r ?_
                    refine InBlock.r ?_
                    refine Then.r ?_
                    refine ⟨(by exact .inr rfl), _, _, (.cons (.tmp rfl) .nil), (SubG.cons (l := 1) rfl (SubG.cons (l := 10) rfl (SubG.cons (l := 11) rfl SubG.nil))), ?_, rfl, rfl⟩
                    (exfalso; have := stepP_excl q; simp_all; done)
                  · intro h11
                    refine AW.skip ?_
                    refine InBlock.go ?_
                    refine Then.go ?_
                    refine AW.region ?_
                    refine AL.pure rfl rfl (by decide) (P_addN rfl rfl (by omega) (by omega)) ?_
                    refine AL.pure rfl rfl (by decide) (P_move rfl) ?_
                    refine AL.nil ?_
                    refine Round.go ((i + 1, (stepP q).2.2, c.set (at_ + i) (b.getD i 0))) ?_ ?_ ?_ ?_
                    · try dsimp only
                      have k1 := stepP_ok hq
                      (exfalso; have := stepP_excl q; simp_all; done)
                    · try dsimp only
                      omega
                    · skip
                      refine SubT.cons' (by decide) rfl ?_ ?_
                      · skip
                        rfl
                      refine SubT.cons' (by decide) rfl ?_ ?_
                      · skip
                        rfl
                      refine SubT.cons' (by decide) rfl ?_ ?_
                      · skip
                        rfl
                      refine SubT.cons' (by decide) rfl ?_ ?_
                      · skip
                        rfl
                      refine SubT.cons' (by decide) rfl ?_ ?_
                      · skip
                        rfl
                      exact SubT.nil
                    · skip
                      refine SubG.cons' rfl ?_ ?_
                      · skip
                        rfl
                      refine SubG.cons' rfl ?_ ?_
                      · skip
                        rfl
                      refine SubG.cons' rfl ?_ ?_
                      · skip
                        (exfalso; have := stepP_excl q; simp_all; done)
                      exact SubG.nil
                · intro h10
                  refine AW.skip ?_
                  refine Then.go ?_
                  refine AW.seq ?_
                  refine AW.region ?_
                  refine AL.pure rfl rfl (by decide) (P_move rfl) ?_
                  refine AL.pure rfl rfl (by decide) (P_not rfl) ?_
                  refine AL.nil ?_
                  refine Then.go ?_
                  refine AW.cond _ rfl ?_ ?_
                  · intro h12
                    refine AW.seq ?_
                    refine AW.region ?_
                    refine AL.pure rfl rfl (by decide) (P_assign rfl) ?_
                    refine AL.nil ?_
                    refine Then.go ?_
                    refine AW.ret ?_
                    refine InBlock.r ?_
                    refine Then.r ?_
                    refine Round.r ?_
                    refine InBlock.r ?_
                    refine Then.r ?_
                    refine ⟨(by exact .inr rfl), _, _, (.cons (.tmp rfl) .nil), (SubG.cons (l := 1) rfl (SubG.cons (l := 10) rfl (SubG.cons (l := 11) rfl SubG.nil))), ?_, rfl, rfl⟩
                    contradiction
                  · intro h12
                    refine AW.skip ?_
                    refine InBlock.go ?_
                    refine Then.go ?_
                    refine AW.region ?_
                    refine AL.pure rfl rfl (by decide) (P_addN rfl rfl (by omega) (by omega)) ?_
                    refine AL.pure rfl rfl (by decide) (P_move rfl) ?_
                    refine AL.nil ?_
                    refine Round.go ((i + 1, (stepP q).2.2, c.set (at_ + i) (b.getD i 0))) ?_ ?_ ?_ ?_
                    · try dsimp only
                      have k1 := stepP_ok hq
                      (exfalso; have := stepP_excl q; simp_all; done)
                    · try dsimp only
                      omega
                    · skip
                      refine SubT.cons' (by decide) rfl ?_ ?_
                      · skip
                        rfl
                      refine SubT.cons' (by decide) rfl ?_ ?_
                      · skip
                        rfl
                      refine SubT.cons' (by decide) rfl ?_ ?_
                      · skip
                        rfl
                      refine SubT.cons' (by decide) rfl ?_ ?_
                      · skip
                        rfl
                      refine SubT.cons' (by decide) rfl ?_ ?_
                      · skip
                        rfl
                      exact SubT.nil
                    · skip
                      refine SubG.cons' rfl ?_ ?_
                      · skip
                        rfl
                      refine SubG.cons' rfl ?_ ?_
                      · skip
                        rfl
                      refine SubG.cons' rfl ?_ ?_
                      · skip
                        (exfalso; have := stepP_excl q; simp_all; done)
                      exact SubG.nil
              · intro h9
                refine AL.pure rfl rfl (by decide) (P_move rfl) ?_
                refine AL.pure rfl rfl (by decide) (P_pickF rfl rfl) ?_
                refine AL.nil ?_
                refine Then.go ?_
                refine AW.cond _ rfl ?_ ?_
                · intro h13
                  refine AW.region ?_
                  refine AL.pure rfl rfl (by decide) (P_move rfl) ?_
                  refine AL.pure rfl rfl (by decide) (P_nilCheck rfl) ?_
                  refine AL.pure rfl rfl (by decide) (P_fieldAddr ty147 rfl ty26 rfl) ?_
                  refine AL.pure rfl rfl (by decide) (P_load ty26 rfl rfl rfl rfl) ?_
                  refine AL.pure rfl rfl (by decide) (P_move rfl) ?_
                  refine AL.pure rfl rfl (by decide) (P_move rfl) ?_
                  refine AL.pure rfl rfl (by decide) (P_addN rfl rfl (by omega) (by omega)) ?_
                  refine AL.recast 85 (vI .i64 ((at_ + i : Nat) : Int)) rfl (vI_congr (by simp)) ?_
                  refine AL.pure rfl rfl (by decide) (P_move rfl) ?_
                  refine AL.pure rfl rfl (by decide) (P_indexOwn1 ty26 ty5 rfl rfl (by omega)) ?_
                  refine AL.eff0 rfl rfl (E_storeE1 ty5 rfl rfl rfl rfl (by (simp only [bs_length, List.length_map, List.length_append, List.length_replicate, List.length_set, List.length_take, List.length_nil, List.length_cons]; omega)) rfl) ?_
                  refine AL.nil ?_
                  refine Then.go ?_
                  refine AW.seq ?_
                  refine AW.region ?_
                  refine AL.pure rfl rfl (by decide) (P_move rfl) ?_
                  refine AL.pure rfl rfl (by decide) (P_not rfl) ?_
                  refine AL.nil ?_
                  refine Then.go ?_
                  refine AW.cond _ rfl ?_ ?_
                  · intro h14
                    refine AW.seq ?_
                    refine AW.region ?_
                    refine AL.pure rfl rfl (by decide) (P_assign rfl) ?_
                    refine AL.nil ?_
                    refine Then.go ?_
                    refine AW.ret ?_
                    refine InBlock.r ?_
                    refine Then.r ?_
                    refine Round.r ?_
                    refine InBlock.r ?_
                    refine Then.r ?_
                    refine ⟨(by exact .inr rfl), _, _, (.cons (.tmp rfl) .nil), (SubG.cons (l := 1) rfl (SubG.cons (l := 10) rfl (SubG.cons (l := 11) rfl SubG.nil))), ?_, rfl, rfl⟩
                    (rw [prog_torn (by omega) (by simp_all) (by simp_all) i3]; refine ⟨rfl, ?_⟩; simp [bs, List.map_set]; done)
                  · intro h14
                    refine AW.skip ?_
                    refine InBlock.go ?_
                    refine Then.go ?_
                    refine AW.region ?_
                    refine AL.pure rfl rfl (by decide) (P_addN rfl rfl (by omega) (by omega)) ?_
                    refine AL.pure rfl rfl (by decide) (P_move rfl) ?_
                    refine AL.nil ?_
                    refine Round.go ((i + 1, (stepP q).2.2, c.set (at_ + i) (b.getD i 0))) ?_ ?_ ?_ ?_
                    · try dsimp only
                      have k1 := stepP_ok hq
                      (exfalso; have := stepP_excl q; simp_all; done)
                    · try dsimp only
                      omega
                    · skip
                      refine SubT.cons' (by decide) rfl ?_ ?_
                      · skip
                        rfl
                      refine SubT.cons' (by decide) rfl ?_ ?_
                      · skip
                        rfl
                      refine SubT.cons' (by decide) rfl ?_ ?_
                      · skip
                        rfl
                      refine SubT.cons' (by decide) rfl ?_ ?_
                      · skip
                        rfl
                      refine SubT.cons' (by decide) rfl ?_ ?_
                      · skip
                        rfl
                      exact SubT.nil
                    · skip
                      refine SubG.cons' rfl ?_ ?_
                      · skip
                        rfl
                      refine SubG.cons' rfl ?_ ?_
                      · skip
                        rfl
                      refine SubG.cons' rfl ?_ ?_
                      · skip
                        (exfalso; have := stepP_excl q; simp_all; done)
                      exact SubG.nil
                · intro h13
                  refine AW.skip ?_
                  refine Then.go ?_
                  refine AW.seq ?_
                  refine AW.region ?_
                  refine AL.pure rfl rfl (by decide) (P_move rfl) ?_
                  refine AL.pure rfl rfl (by decide) (P_not rfl) ?_
                  refine AL.nil ?_
                  refine Then.go ?_
                  refine AW.cond _ rfl ?_ ?_
                  · intro h15
                    refine AW.seq ?_
                    refine AW.region ?_
                    refine AL.pure rfl rfl (by decide) (P_assign rfl) ?_
                    refine AL.nil ?_
                    refine Then.go ?_
                    refine AW.ret ?_
                    refine InBlock.r ?_
                    refine Then.r ?_
                    refine Round.r ?_
                    refine InBlock.r ?_
                    refine Then.r ?_
                    refine ⟨(by exact .inr rfl), _, _, (.cons (.tmp rfl) .nil), (SubG.cons (l := 1) rfl (SubG.cons (l := 10) rfl (SubG.cons (l := 11) rfl SubG.nil))), ?_, rfl, rfl⟩
                    (exfalso; have := stepP_excl q; simp_all; done)
                  · intro h15
                    refine AW.skip ?_
                    refine InBlock.go ?_
                    refine Then.go ?_
                    refine AW.region ?_
                    refine AL.pure rfl rfl (by decide) (P_addN rfl rfl (by omega) (by omega)) ?_
                    refine AL.pure rfl rfl (by decide) (P_move rfl) ?_
                    refine AL.nil ?_
                    refine Round.go ((i + 1, (stepP q).2.2, c.set (at_ + i) (b.getD i 0))) ?_ ?_ ?_ ?_
                    · try dsimp only
                      have k1 := stepP_ok hq
                      (exfalso; have := stepP_excl q; simp_all; done)
                    · try dsimp only
                      omega
                    · skip
                      refine SubT.cons' (by decide) rfl ?_ ?_
                      · skip
                        rfl
                      refine SubT.cons' (by decide) rfl ?_ ?_
                      · skip
                        rfl
                      refine SubT.cons' (by decide) rfl ?_ ?_
                      · skip
                        rfl
                      refine SubT.cons' (by decide) rfl ?_ ?_
                      · skip
                        rfl
                      refine SubT.cons' (by decide) rfl ?_ ?_
                      · skip
                        rfl
                      exact SubT.nil
                    · skip
                      refine SubG.cons' rfl ?_ ?_
                      · skip
                        rfl
                      refine SubG.cons' rfl ?_ ?_
                      · skip
                        rfl
                      refine SubG.cons' rfl ?_ ?_
                      · skip
                        (exfalso; have := stepP_excl q; simp_all; done)
                      exact SubG.nil
            · intro h8
              refine AW.skip ?_
              refine Then.go ?_
              refine AW.seq ?_
              refine AW.seq ?_
              refine AW.region ?_
              refine AL.pure rfl rfl (by decide) (P_move rfl) ?_
              refine AL.pure rfl rfl (by decide) (P_move rfl) ?_
              refine AL_case (t := 76) _ rfl (by decide) ?_ ?_
              · intro h16
                refine AL.not rfl rfl (by decide) ?_
                refine AL.pure rfl rfl (by decide) (P_pickT rfl rfl) ?_
                refine AL.nil ?_
                refine Then.go ?_
                refine AW.cond _ rfl ?_ ?_
                · intro h17
                  refine AW.region ?_
                  refine AL.pure rfl rfl (by decide) (P_move rfl) ?_
                  refine AL.pure rfl rfl (by decide) (P_nilCheck rfl) ?_
                  refine AL.pure rfl rfl (by decide) (P_fieldAddr ty147 rfl ty26 rfl) ?_
                  refine AL.pure rfl rfl (by decide) (P_load ty26 rfl rfl rfl rfl) ?_
                  refine AL.pure rfl rfl (by decide) (P_move rfl) ?_
                  refine AL.pure rfl rfl (by decide) (P_move rfl) ?_
                  refine AL.pure rfl rfl (by decide) (P_addN rfl rfl (by omega) (by omega)) ?_
                  refine AL.recast 85 (vI .i64 ((at_ + i : Nat) : Int)) rfl (vI_congr (by simp)) ?_
                  refine AL.pure rfl rfl (by decide) (P_move rfl) ?_
                  refine AL.pure rfl rfl (by decide) (P_indexOwn1 ty26 ty5 rfl rfl (by omega)) ?_
                  refine AL.eff0 rfl rfl (E_storeE1 ty5 rfl rfl rfl rfl (by (simp only [bs_length, List.length_map, List.length_append, List.length_replicate, List.length_set, List.length_take, List.length_nil, List.length_cons]; omega)) rfl) ?_
                  refine AL.nil ?_
                  refine Then.go ?_
                  refine AW.seq ?_
                  refine AW.region ?_
                  refine AL.pure rfl rfl (by decide) (P_move rfl) ?_
                  refine AL.pure rfl rfl (by decide) (P_not rfl) ?_
                  refine AL.nil ?_
                  refine Then.go ?_
                  refine AW.cond _ rfl ?_ ?_
                  · intro h18
                    refine AW.seq ?_
                    refine AW.region ?_
                    refine AL.pure rfl rfl (by decide) (P_assign rfl) ?_
                    refine AL.nil ?_
                    refine Then.go ?_
                    refine AW.ret ?_
                    refine InBlock.r ?_
                    refine Then.r ?_
                    refine Round.r ?_
                    refine InBlock.r ?_
                    refine Then.r ?_
                    refine ⟨(by exact .inr rfl), _, _, (.cons (.tmp rfl) .nil), (SubG.cons (l := 1) rfl (SubG.cons (l := 10) rfl (SubG.cons (l := 11) rfl SubG.nil))), ?_, rfl, rfl⟩
                    (exfalso; have := stepP_excl q; simp_all; done)
                  · intro h18
                    refine AW.skip ?_
                    refine InBlock.go ?_
                    refine Then.go ?_
                    refine AW.region ?_
                    refine AL.pure rfl rfl (by decide) (P_addN rfl rfl (by omega) (by omega)) ?_
                    refine AL.pure rfl rfl (by decide) (P_move rfl) ?_
                    refine AL.nil ?_
                    refine Round.go ((i + 1, (stepP q).2.2, c.set (at_ + i) (b.getD i 0))) ?_ ?_ ?_ ?_
                    · try dsimp only
                      have k1 := stepP_ok hq
                      (refine ⟨by omega, k1, by simp [i2], ?_⟩; have h1 : (stepP q).1 = true := (by simp_all); exact (prog_on (by omega) h1).symm.trans i3)
                    · try dsimp only
                      omega
                    · skip
                      refine SubT.cons' (by decide) rfl ?_ ?_
                      · skip
                        rfl
                      refine SubT.cons' (by decide) rfl ?_ ?_
                      · skip
                        rfl
                      refine SubT.cons' (by decide) rfl ?_ ?_
                      · skip
                        rfl
                      refine SubT.cons' (by decide) rfl ?_ ?_
                      · skip
                        rfl
                      refine SubT.cons' (by decide) rfl ?_ ?_
                      · skip
                        rfl
                      exact SubT.nil
                    · skip
                      refine SubG.cons' rfl ?_ ?_
                      · skip
                        rfl
                      refine SubG.cons' rfl ?_ ?_
                      · skip
                        rfl
                      refine SubG.cons' rfl ?_ ?_
                      · skip
                        (refine els_congr ?_; rw [bs, ← List.map_set]; done)
                      exact SubG.nil
                · intro h17
                  refine AW.skip ?_
                  refine Then.go ?_
                  refine AW.seq ?_
                  refine AW.region ?_
                  refine AL.pure rfl rfl (by decide) (P_move rfl) ?_
                  refine AL.pure rfl rfl (by decide) (P_not rfl) ?_
                  refine AL.nil ?_
                  refine Then.go ?_
                  refine AW.cond _ rfl ?_ ?_
                  · intro h19
                    refine AW.seq ?_
                    refine AW.region ?_
                    refine AL.pure rfl rfl (by decide) (P_assign rfl) ?_
                    refine AL.nil ?_
                    refine Then.go ?_
                    refine AW.ret ?_
                    refine InBlock.r ?_
                    refine Then.r ?_
                    refine Round.r ?_
                    refine InBlock.r ?_
                    refine Then.r ?_
                    refine ⟨(by exact .inr rfl), _, _, (.cons (.tmp rfl) .nil), (SubG.cons (l := 1) rfl (SubG.cons (l := 10) rfl (SubG.cons (l := 11) rfl SubG.nil))), ?_, rfl, rfl⟩
                    contradiction
                  · intro h19
                    refine AW.skip ?_
                    refine InBlock.go ?_
                    refine Then.go ?_
                    refine AW.region ?_
                    refine AL.pure rfl rfl (by decide) (P_addN rfl rfl (by omega) (by omega)) ?_
                    refine AL.pure rfl rfl (by decide) (P_move rfl) ?_
                    refine AL.nil ?_
                    refine Round.go ((i + 1, (stepP q).2.2, c.set (at_ + i) (b.getD i 0))) ?_ ?_ ?_ ?_
                    · try dsimp only
                      have k1 := stepP_ok hq
                      (exfalso; have := stepP_excl q; simp_all; done)
                    · try dsimp only
                      omega
                    · skip
                      refine SubT.cons' (by decide) rfl ?_ ?_
                      · skip
                        rfl
                      refine SubT.cons' (by decide) rfl ?_ ?_
                      · skip
                        rfl
                      refine SubT.cons' (by decide) rfl ?_ ?_
                      · skip
                        rfl
                      refine SubT.cons' (by decide) rfl ?_ ?_
                      · skip
                        rfl
                      refine SubT.cons' (by decide) rfl ?_ ?_
                      · skip
                        rfl
                      exact SubT.nil
                    · skip
                      refine SubG.cons' rfl ?_ ?_
                      · skip
                        rfl
                      refine SubG.cons' rfl ?_ ?_
                      · skip
                        rfl
                      refine SubG.cons' rfl ?_ ?_
                      · skip
                        (exfalso; have := stepP_excl q; simp_all; done)
                      exact SubG.nil
              · intro h16
                refine AL.pure rfl rfl (by decide) (P_move rfl) ?_
                refine AL.pure rfl rfl (by decide) (P_pickF rfl rfl) ?_
                refine AL.nil ?_
                refine Then.go ?_
                refine AW.cond _ rfl ?_ ?_
                · intro h20
                  refine AW.region ?_
                  refine AL.pure rfl rfl (by decide) (P_move rfl) ?_
                  refine AL.pure rfl rfl (by decide) (P_nilCheck rfl) ?_
                  refine AL.pure rfl rfl (by decide) (P_fieldAddr ty147 rfl ty26 rfl) ?_
                  refine AL.pure rfl rfl (by decide) (P_load ty26 rfl rfl rfl rfl) ?_
                  refine AL.pure rfl rfl (by decide) (P_move rfl) ?_
                  refine AL.pure rfl rfl (by decide) (P_move rfl) ?_
                  refine AL.pure rfl rfl (by decide) (P_addN rfl rfl (by omega) (by omega)) ?_
                  refine AL.recast 85 (vI .i64 ((at_ + i : Nat) : Int)) rfl (vI_congr (by simp)) ?_
                  refine AL.pure rfl rfl (by decide) (P_move rfl) ?_
                  refine AL.pure rfl rfl (by decide) (P_indexOwn1 ty26 ty5 rfl rfl (by omega)) ?_
                  refine AL.eff0 rfl rfl (E_storeE1 ty5 rfl rfl rfl rfl (by (simp only [bs_length, List.length_map, List.length_append, List.length_replicate, List.length_set, List.length_take, List.length_nil, List.length_cons]; omega)) rfl) ?_
                  refine AL.nil ?_
                  refine Then.go ?_
                  refine AW.seq ?_
                  refine AW.region ?_
                  refine AL.pure rfl rfl (by decide) (P_move rfl) ?_
                  refine AL.pure rfl rfl (by decide) (P_not rfl) ?_
                  refine AL.nil ?_
                  refine Then.go ?_
                  refine AW.cond _ rfl ?_ ?_
                  · intro h21
                    refine AW.seq ?_
                    refine AW.region ?_
                    refine AL.pure rfl rfl (by decide) (P_assign rfl) ?_
                    refine AL.nil ?_
                    refine Then.go ?_
                    refine AW.ret ?_
                    refine InBlock.r ?_
                    refine Then.r ?_
                    refine Round.r ?_
                    refine InBlock.r ?_
                    refine Then.r ?_
                    refine ⟨(by exact .inr rfl), _, _, (.cons (.tmp rfl) .nil), (SubG.cons (l := 1) rfl (SubG.cons (l := 10) rfl (SubG.cons (l := 11) rfl SubG.nil))), ?_, rfl, rfl⟩
                    (exfalso; have := stepP_excl q; simp_all; done)
                  · intro h21
                    refine AW.skip ?_
                    refine InBlock.go ?_
                    refine Then.go ?_
                    refine AW.region ?_
                    refine AL.pure rfl rfl (by decide) (P_addN rfl rfl (by omega) (by omega)) ?_
                    refine AL.pure rfl rfl (by decide) (P_move rfl) ?_
                    refine AL.nil ?_
                    refine Round.go ((i + 1, (stepP q).2.2, c.set (at_ + i) (b.getD i 0))) ?_ ?_ ?_ ?_
                    · try dsimp only
                      have k1 := stepP_ok hq
                      (exfalso; have := stepP_excl q; simp_all; done)
                    · try dsimp only
                      omega
                    · skip
                      refine SubT.cons' (by decide) rfl ?_ ?_
                      · skip
                        rfl
                      refine SubT.cons' (by decide) rfl ?_ ?_
                      · skip
                        rfl
                      refine SubT.cons' (by decide) rfl ?_ ?_
                      · skip
                        rfl
                      refine SubT.cons' (by decide) rfl ?_ ?_
                      · skip
                        rfl
                      refine SubT.cons' (by decide) rfl ?_ ?_
                      · skip
                        rfl
                      exact SubT.nil
                    · skip
                      refine SubG.cons' rfl ?_ ?_
                      · skip
                        rfl
                      refine SubG.cons' rfl ?_ ?_
                      · skip
                        rfl
                      refine SubG.cons' rfl ?_ ?_
                      · skip
                        (refine els_congr ?_; rw [bs, ← List.map_set]; done)
                      exact SubG.nil
                · intro h20
                  refine AW.skip ?_
                  refine Then.go ?_
                  refine AW.seq ?_
                  refine AW.region ?_
                  refine AL.pure rfl rfl (by decide) (P_move rfl) ?_
                  refine AL.pure rfl rfl (by decide) (P_not rfl) ?_
                  refine AL.nil ?_
                  refine Then.go ?_
                  refine AW.cond _ rfl ?_ ?_
                  · intro h22
                    refine AW.seq ?_
                    refine AW.region ?_
                    refine AL.pure rfl rfl (by decide) (P_assign rfl) ?_
                    refine AL.nil ?_
                    refine Then.go ?_
                    refine AW.ret ?_
                    refine InBlock.r ?_
                    refine Then.r ?_
                    refine Round.r ?_
                    refine InBlock.r ?_
                    refine Then.r ?_
                    refine ⟨(by exact .inr rfl), _, _, (.cons (.tmp rfl) .nil), (SubG.cons (l := 1) rfl (SubG.cons (l := 10) rfl (SubG.cons (l := 11) rfl SubG.nil))), ?_, rfl, rfl⟩
                    (rw [prog_off (by omega) (by simp_all) (by simp_all) i3]; exact ⟨rfl, rfl⟩)
                  · intro h22
                    refine AW.skip ?_
                    refine InBlock.go ?_
                    refine Then.go ?_
                    refine AW.region ?_
                    refine AL.pure rfl rfl (by decide) (P_addN rfl rfl (by omega) (by omega)) ?_
                    refine AL.pure rfl rfl (by decide) (P_move rfl) ?_
                    refine AL.nil ?_
                    refine Round.go ((i + 1, (stepP q).2.2, c.set (at_ + i) (b.getD i 0))) ?_ ?_ ?_ ?_
                    · try dsimp only
                      have k1 := stepP_ok hq
                      (exfalso; have := stepP_excl q; simp_all; done)
                    · try dsimp only
                      omega
                    · skip
                      refine SubT.cons' (by decide) rfl ?_ ?_
                      · skip
                        rfl
                      refine SubT.cons' (by decide) rfl ?_ ?_
                      · skip
                        rfl
                      refine SubT.cons' (by decide) rfl ?_ ?_
                      · skip
                        rfl
                      refine SubT.cons' (by decide) rfl ?_ ?_
                      · skip
                        rfl
                      refine SubT.cons' (by decide) rfl ?_ ?_
                      · skip
                        rfl
                      exact SubT.nil
                    · skip
                      refine SubG.cons' rfl ?_ ?_
                      · skip
                        rfl
                      refine SubG.cons' rfl ?_ ?_
                      · skip
                        rfl
                      refine SubG.cons' rfl ?_ ?_
                      · skip
                        (exfalso; have := stepP_excl q; simp_all; done)
                      exact SubG.nil
          · intro h7
            refine AW.exit ?_
            refine Then.e ?_
            refine Round.e ?_
            refine InBlock.e ?_
            refine Then.go ?_
            refine AW.seq ?_
            refine AW.region ?_
            refine AL.pure rfl rfl (by decide) (P_assign rfl) ?_
            refine AL.nil ?_
            refine Then.go ?_
            refine AW.ret ?_
            refine ⟨(by exact .inr rfl), _, _, (.cons (.tmp rfl) .nil), (SubG.cons (l := 1) rfl (SubG.cons (l := 10) rfl (SubG.cons (l := 11) rfl SubG.nil))), ?_, rfl, rfl⟩
            (rw [prog_end (by omega) i3]; exact ⟨rfl, rfl⟩)
end Go.Proofs.YtmakeajjgjnldaaGreatDoor
