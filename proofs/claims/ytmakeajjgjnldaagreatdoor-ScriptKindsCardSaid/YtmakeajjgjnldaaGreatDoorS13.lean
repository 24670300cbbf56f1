/- Walks, part 13: new chips; what is made around them. -/
import Derived.Test.YtmakeajjgjnldaaGreatDoorS12
import Derived.Test.YtmakeajjgjnldaaGreatDoorM4
set_option linter.unusedVariables false
set_option linter.unusedSimpArgs false
set_option maxRecDepth 100000
namespace Go.Proofs.YtmakeajjgjnldaaGreatDoor
open Go Go.Ab

abbrev nilP : AV := .tr (.val (.pointer none))
theorem rightG_geo {g : Geo} (h : rightG g = true) : ∃ s z : Nat, g.s = s ∧ g.z = z ∧ 2 ≤ s ∧ s ≤ 16 ∧ 256 ≤ z ∧ z ≤ 4096 ∧ s % 2 = 0 ∧ 4 ≤ g.b ∧ g.b ≤ 64 ∧ 2 ≤ g.p ∧ g.p ≤ 32 ∧ 16 ≤ g.q ∧ g.q ≤ 256 := by
  have h' := h
  simp only [rightG, withinB, Bool.and_eq_true, decide_eq_true_eq] at h'
  obtain ⟨⟨⟨⟨⟨h1, h2, h3⟩, h4, h5⟩, h6, h7⟩, h8, h9⟩, h10, h11⟩ := h'
  refine ⟨g.s.toNat, g.z.toNat, by omega, by omega, ?_⟩
  exact rightG_facts (by omega) (by omega) h
abbrev ffs (n : Nat) : List UInt8 := List.replicate n 255

theorem ty50 : TyIs Tryz.prog 50 (.pointer 151) 1 := ⟨Tryz.underlying50, by kernel_rfl⟩
theorem tf146 : FldIs Tryz.prog fs146 [(0, 5), (5, 1), (6, 1), (7, 1)] := ⟨by kernel_rfl⟩
theorem tz147 : TyZ Tryz.prog 147 (.agg #[.int .i64 0, .int .i64 0, .int .i64 0, .int .i64 0, .int .i64 0, .pointer none, .slice none 0 0, .map none]) := ⟨by kernel_rfl⟩
theorem ty149 : TyIs Tryz.prog 149 (.map 250 3) 1 := ⟨Tryz.underlying149, by kernel_rfl⟩
abbrev fs150 : Array Field := #[⟨ "g", 48, 0, false, "", "garret/nand", 0⟩, ⟨ "p", 70, 5, false, "", "garret/nand", 40⟩, ⟨ "pages", 148, 6, false, "", "garret/nand", 48⟩, ⟨ "counts", 149, 7, false, "", "garret/nand", 56⟩, ⟨ "erases", 149, 8, false, "", "garret/nand", 64⟩]
theorem tf150 : FldIs Tryz.prog fs150 [(0, 5), (5, 1), (6, 1), (7, 1), (8, 1)] := ⟨by kernel_rfl⟩
theorem ty151 : TyIs Tryz.prog 151 (.struct fs150) 9 := ⟨Tryz.underlying151, by kernel_rfl⟩
theorem tz151 : TyZ Tryz.prog 151 (.agg #[.int .i64 0, .int .i64 0, .int .i64 0, .int .i64 0, .int .i64 0, .pointer none, .map none, .map none, .map none]) := ⟨by kernel_rfl⟩
abbrev fs166 : Array Field := #[⟨ "v", 71, 0, false, "", "garret/files", 0⟩]
theorem tf166 : FldIs Tryz.prog fs166 [(0, 1)] := ⟨by kernel_rfl⟩
theorem ty167 : TyIs Tryz.prog 167 (.struct fs166) 1 := ⟨Tryz.underlying167, by kernel_rfl⟩
theorem tz167 : TyZ Tryz.prog 167 (.agg #[.pointer none]) := ⟨by kernel_rfl⟩
abbrev fs169 : Array Field := #[⟨ "l", 168, 0, false, "", "garret/table", 0⟩]
theorem tf169 : FldIs Tryz.prog fs169 [(0, 1)] := ⟨by kernel_rfl⟩
theorem ty170 : TyIs Tryz.prog 170 (.struct fs169) 1 := ⟨Tryz.underlying170, by kernel_rfl⟩
theorem tz170 : TyZ Tryz.prog 170 (.agg #[.map none]) := ⟨by kernel_rfl⟩
abbrev fs249 : Array Field := #[⟨ "block", 3, 0, false, "", "garret/nand", 0⟩, ⟨ "page", 3, 1, false, "", "garret/nand", 8⟩]
theorem tf249 : FldIs Tryz.prog fs249 [(0, 1), (1, 1)] := ⟨by kernel_rfl⟩
theorem ty250 : TyIs Tryz.prog 250 (.struct fs249) 2 := ⟨Tryz.underlying250, by kernel_rfl⟩
theorem tz250 : TyZ Tryz.prog 250 (.agg #[.int .i64 0, .int .i64 0]) := ⟨by kernel_rfl⟩
abbrev fs253 : Array Field := #[⟨ "c", 50, 0, false, "", "garret/flow", 0⟩, ⟨ "j", 111, 1, false, "", "garret/flow", 8⟩, ⟨ "pins", 252, 2, false, "", "garret/flow", 16⟩]
theorem tf253 : FldIs Tryz.prog fs253 [(0, 1), (1, 1), (2, 1)] := ⟨by kernel_rfl⟩
theorem ty254 : TyIs Tryz.prog 254 (.struct fs253) 3 := ⟨Tryz.underlying254, by kernel_rfl⟩
theorem tz254 : TyZ Tryz.prog 254 (.agg #[.pointer none, .pointer none, .map none]) := ⟨by kernel_rfl⟩
theorem te48 : EqTy Tryz.prog 48 fs47 [(.int .i64), (.int .i64), (.int .i64), (.int .i64), (.int .i64)] := ⟨Tryz.underlying48, ⟨rfl, by decide, rfl, ty3, rfl, by decide, rfl, ty3, rfl, by decide, rfl, ty3, rfl, by decide, rfl, ty3, rfl, by decide, rfl, ty3, rfl⟩, by kernel_rfl, by kernel_rfl⟩
theorem mi149 : MapIs Tryz.prog 149 250 3 := ⟨Tryz.underlying149, deep_law (m := 5) (by decide) (by kernel_rfl) (by kernel_rfl) (by kernel_rfl)⟩
theorem kf250 : KeyF Tryz.prog 250 k2 (fun p => in64 p.1 ∧ in64 p.2) := keyF2 Tryz.underlying250 (by kernel_rfl) (by kernel_rfl) rfl rfl rfl Tryz.underlying3 (by kernel_rfl) Tryz.underlying3 (by kernel_rfl) (Nat.le_of_ble_eq_true (by kernel_rfl))
theorem C_nor_New (g : Geo) (s z : Nat) (hs : g.s = s) (hz : g.z = z) (hr : rightG g = true) : ACalls Tryz.prog 43 [.tr g.t, .ptr 1 0] ([]) ([]) (fun r G => r = .tup [.ptr 10 0, vI .i64 0] ∧ G = [(10, norO g (ffs (s * z)).length), (11, .els 5 1 (bs (ffs (s * z)))), (12, .mapT (ents k1 i8 []))]) := by
  obtain ⟨b1, b2, b3, b4, _⟩ := rightG_facts hs hz hr
  have a1 : g.s * g.z = ((s * z : Nat) : Int) := by rw [hs, hz]; simp
  have a2 : s * z ≤ 16 * 4096 := Nat.mul_le_mul b2 b4
  have a3 : 2 * 256 ≤ s * z := Nat.mul_le_mul b1 b3
  have hrep := C_bytes_Repeat 255 (s * z) (by omega) (by omega)
  rw [← a1] at hrep
  refine acalls_of_body 21 [1] Tryz.func43 rfl (by kernel_rfl) Tryz.ntmps43 (Nat.le_of_ble_eq_true rfl) rfl ?_
  refine AW.seq ?_
  refine AW.region ?_
  refine AL.eff rfl rfl (by decide) (E_box 102 rfl rfl rfl rfl rfl rfl) ?_
  refine AL.pure rfl rfl (by decide) (P_assign rfl) ?_
  refine AL.pure rfl rfl (by decide) (P_assign rfl) ?_
  refine AL.nil ?_
  refine Then.go ?_
  refine AW.seq ?_
  refine AW.seq ?_
  refine AW.region ?_
  refine AL.pure rfl rfl (by decide) (P_loadA ty48 rfl rfl rfl (Nat.le_of_ble_eq_true rfl)) ?_
  refine AL.call (C_nor_Right _) _ [] [] _ rfl (by decide) rfl rfl rfl SubG.nil ?_
  rintro _ _ ⟨rfl, rfl⟩
  refine ⟨rfl, rfl, ?_⟩
  refine AL.pure rfl rfl (by decide) (P_not rfl) ?_
  refine AL.nil ?_
  refine Then.go ?_
  refine AW.cond _ rfl ?_ ?_
  · intro h1
    exfalso; simp_all
  · intro h1
    refine AW.skip ?_
    refine Then.go ?_
    refine AW.seq ?_
    refine AD.start ?_
    refine AD.op 0 9 [] _ rfl rfl rfl (B_pure (P_loadA ty48 rfl rfl rfl (Nat.le_of_ble_eq_true rfl))) ?_
    refine AD.op 1 10 [] _ rfl rfl rfl (B_pure (P_move rfl)) ?_
    refine AD.op 2 11 [] _ rfl rfl rfl (B_lit ty26 ty5 tz5 rfl rfl) ?_
    refine AD.op 3 12 [] _ rfl rfl rfl (B_pure (P_fieldAddr ty48 rfl ty3 rfl)) ?_
    refine AD.op 4 13 [3] _ rfl rfl rfl (B_pure (P_load ty3 rfl rfl rfl rfl)) ?_
    refine AD.op 5 14 [] _ rfl rfl rfl (B_pure (P_fieldAddr ty48 rfl ty3 rfl)) ?_
    refine AD.op 6 15 [5] _ rfl rfl rfl (B_pure (P_load ty3 rfl rfl rfl rfl)) ?_
    refine AD.op 7 16 [3, 4, 5, 6] _ rfl rfl rfl (B_pure (P_mulN rfl rfl (by omega) (by omega))) ?_
    refine AD.op 8 17 [2, 3, 4, 5, 6, 7] _ rfl rfl rfl (B_call0 (hrep ) _ rfl rfl (by rintro _ _ ⟨rfl, rfl⟩; exact ⟨rfl, rfl⟩)) ?_
    refine AD.op 9 18 [] _ rfl rfl rfl (B_makeMap 12) ?_
    refine AD.tail mixed rfl (by kernel_rfl) rfl ?_
    refine AL.pure rfl rfl (by decide) (P_build ty147 tz147 tf146 rfl) ?_
    refine AL.eff rfl rfl (by decide) (E_box 10 rfl rfl rfl rfl rfl rfl) ?_
    refine AL.pure rfl rfl (by decide) (P_assign rfl) ?_
    refine AL.pure rfl rfl (by decide) (P_assign rfl) ?_
    refine AL.ren 90 11 rfl rfl rfl ?_
    refine AL.nil ?_
    refine Then.go ?_
    refine AW.ret ?_
    refine ⟨(by exact .inr rfl), _, _, (.cons (.tmp rfl) (.cons (.tmp rfl) .nil)), (SubG.cons (l := 10) rfl (SubG.cons (l := 11) rfl (SubG.cons (l := 12) rfl SubG.nil))), ?_, rfl, rfl⟩
    refine ⟨rfl, ?_⟩
    rw [bs, List.map_replicate, show (ffs (s * z)).length = s * z by simp]; rfl
theorem C_nor_New_bad (g : Geo) (hr : rightG g = false) : ACalls Tryz.prog 43 [.tr g.t, .ptr 1 0] ([]) ([]) (fun r G => r = .tup [nilP, vI .i64 1] ∧ G = []) := by
  refine acalls_of_body 21 [1] Tryz.func43 rfl (by kernel_rfl) Tryz.ntmps43 (Nat.le_of_ble_eq_true rfl) rfl ?_
  refine AW.seq ?_
  refine AW.region ?_
  refine AL.eff rfl rfl (by decide) (E_box 102 rfl rfl rfl rfl rfl rfl) ?_
  refine AL.pure rfl rfl (by decide) (P_assign rfl) ?_
  refine AL.pure rfl rfl (by decide) (P_assign rfl) ?_
  refine AL.nil ?_
  refine Then.go ?_
  refine AW.seq ?_
  refine AW.seq ?_
  refine AW.region ?_
  refine AL.pure rfl rfl (by decide) (P_loadA ty48 rfl rfl rfl (Nat.le_of_ble_eq_true rfl)) ?_
  refine AL.call (C_nor_Right _) _ [] [] _ rfl (by decide) rfl rfl rfl SubG.nil ?_
  rintro _ _ ⟨rfl, rfl⟩
  refine ⟨rfl, rfl, ?_⟩
  refine AL.pure rfl rfl (by decide) (P_not rfl) ?_
  refine AL.nil ?_
  refine Then.go ?_
  refine AW.cond _ rfl ?_ ?_
  · intro h1
    refine AW.seq ?_
    refine AW.region ?_
    refine AL.pure rfl rfl (by decide) (P_assign rfl) ?_
    refine AL.pure rfl rfl (by decide) (P_assign rfl) ?_
    refine AL.nil ?_
    refine Then.go ?_
    refine AW.ret ?_
    refine Then.r ?_
    refine ⟨(by exact .inr rfl), _, _, (.cons (.tmp rfl) (.cons (.tmp rfl) .nil)), SubG.nil, ?_, rfl, rfl⟩
    exact ⟨rfl, rfl⟩
  · intro h1
    exfalso; simp_all

abbrev nandO (g : Geo) : AObj := .row 151 [.tr (i8 g.s), .tr (i8 g.z), .tr (i8 g.b), .tr (i8 g.p), .tr (i8 g.q), .ptr 1 0, .map 21, .map 22, .map 23]
abbrev Pg := List UInt8 × List UInt8
def pgT (x : Pg) : Tr := .agg [.sl 1 (bs x.1), .sl 1 (bs x.2)]
abbrev Cnt := List ((Int × Int) × Int)
def ok2 (p : Int × Int) : Prop := in64 p.1 ∧ in64 p.2
structure Nand where
  pg : List ((Int × Int) × Pg)
  ct : Cnt
  er : Cnt
abbrev nandG (g : Geo) (n : Nand) : GS := [(20, nandO g), (21, .mapT (ents k2 pgT n.pg)), (22, .mapT (ents k2 i8 n.ct)), (23, .mapT (ents k2 i8 n.er))]
def Nand.new : Nand := ⟨[], [], []⟩

theorem C_nand_New (g : Geo) (hr : rightG g = true) : ACalls Tryz.prog 44 [.tr g.t, .ptr 1 0] ([]) ([]) (fun r G => r = .tup [.ptr 20 0, vI .i64 0] ∧ G = nandG g Nand.new) := by
  refine acalls_of_body 16 [1] Tryz.func44 rfl (by kernel_rfl) Tryz.ntmps44 (Nat.le_of_ble_eq_true rfl) rfl ?_
  refine AW.seq ?_
  refine AW.region ?_
  refine AL.eff rfl rfl (by decide) (E_box 102 rfl rfl rfl rfl rfl rfl) ?_
  refine AL.pure rfl rfl (by decide) (P_assign rfl) ?_
  refine AL.pure rfl rfl (by decide) (P_assign rfl) ?_
  refine AL.nil ?_
  refine Then.go ?_
  refine AW.seq ?_
  refine AW.seq ?_
  refine AW.region ?_
  refine AL.pure rfl rfl (by decide) (P_loadA ty48 rfl rfl rfl (Nat.le_of_ble_eq_true rfl)) ?_
  refine AL.call (C_nor_Right _) _ [] [] _ rfl (by decide) rfl rfl rfl SubG.nil ?_
  rintro _ _ ⟨rfl, rfl⟩
  refine ⟨rfl, rfl, ?_⟩
  refine AL.pure rfl rfl (by decide) (P_not rfl) ?_
  refine AL.nil ?_
  refine Then.go ?_
  refine AW.cond _ rfl ?_ ?_
  · intro h1
    exfalso; simp_all
  · intro h1
    refine AW.skip ?_
    refine Then.go ?_
    refine AW.seq ?_
    refine AW.region ?_
    refine AL.pure rfl rfl (by decide) (P_loadA ty48 rfl rfl rfl (Nat.le_of_ble_eq_true rfl)) ?_
    refine AL.pure rfl rfl (by decide) (P_move rfl) ?_
    refine AL.eff rfl rfl (by decide) (E_makeMap 21 rfl rfl rfl) ?_
    refine AL.eff rfl rfl (by decide) (E_makeMap 22 rfl rfl rfl) ?_
    refine AL.eff rfl rfl (by decide) (E_makeMap 23 rfl rfl rfl) ?_
    refine AL.pure rfl rfl (by decide) (P_build ty151 tz151 tf150 rfl) ?_
    refine AL.eff rfl rfl (by decide) (E_box 20 rfl rfl rfl rfl rfl rfl) ?_
    refine AL.pure rfl rfl (by decide) (P_assign rfl) ?_
    refine AL.pure rfl rfl (by decide) (P_assign rfl) ?_
    refine AL.nil ?_
    refine Then.go ?_
    refine AW.ret ?_
    refine ⟨(by exact .inr rfl), _, _, (.cons (.tmp rfl) (.cons (.tmp rfl) .nil)), (SubG.cons (l := 20) rfl (SubG.cons (l := 21) rfl (SubG.cons (l := 22) rfl (SubG.cons (l := 23) rfl SubG.nil)))), ?_, rfl, rfl⟩
    exact ⟨rfl, rfl⟩
theorem C_nand_Chip_Geometry (g : Geo) : ACalls Tryz.prog 62 [.ptr 20 0] ([(20, nandO g)]) ([]) (fun r G => r = .tr g.t ∧ G = [(20, nandO g)]) := by
  refine acalls_of_body 10 [20, 1, 21, 22, 23] Tryz.func62 rfl (by kernel_rfl) Tryz.ntmps62 (Nat.le_of_ble_eq_true rfl) rfl ?_
  refine AW.seq ?_
  refine AW.region ?_
  refine AL.eff rfl rfl (by decide) (E_alloc 102 tz48 rfl rfl rfl) ?_
  refine AL.nil ?_
  refine Then.go ?_
  refine AW.seq ?_
  refine AW.seq ?_
  refine AW.region ?_
  refine AL.pure rfl rfl (by decide) (P_move rfl) ?_
  refine AL.pure rfl rfl (by decide) (P_eqlPN ty50 rfl rfl) ?_
  refine AL.nil ?_
  refine Then.go ?_
  refine AW.condF rfl ?_
  refine AW.skip ?_
  refine Then.go ?_
  refine AW.seq ?_
  refine AW.region ?_
  refine AL.pure rfl rfl (by decide) (P_move rfl) ?_
  refine AL.pure rfl rfl (by decide) (P_nilCheck rfl) ?_
  refine AL.pure rfl rfl (by decide) (P_fieldAddr ty151 rfl ty48 rfl) ?_
  refine AL.pure rfl rfl (by decide) (P_loadA ty48 rfl rfl rfl (Nat.le_of_ble_eq_true rfl)) ?_
  refine AL.eff0 rfl rfl (E_store ty48 rfl rfl rfl rfl rfl (Nat.le_of_ble_eq_true rfl)) ?_
  refine AL.nil ?_
  refine Then.go ?_
  refine AW.ret ?_
  refine ⟨(by exact .inr rfl), _, _, (.cons (.cellA rfl rfl ty48 rfl (Nat.le_of_ble_eq_true rfl)) .nil), (SubG.cons (l := 20) rfl SubG.nil), ?_, rfl, rfl⟩
  exact ⟨rfl, rfl⟩
theorem C_nand_Chip_Programmed (g : Geo) (ct : Cnt) (b : Int) (hc : okL ok2 ct) (hb : in64 b) : ACalls Tryz.prog 108 [.ptr 20 0, vI .i64 b] ([(20, nandO g), (22, .mapT (ents k2 i8 ct))]) ([]) (fun r G => r = vI .i64 ((getL ct (b, 0)).getD 0) ∧ G = [(20, nandO g), (22, .mapT (ents k2 i8 ct))]) := by
  refine acalls_of_body 14 [20, 1, 21, 22, 23] Tryz.func108 rfl (by kernel_rfl) Tryz.ntmps108 (Nat.le_of_ble_eq_true rfl) rfl ?_
  refine AW.seq ?_
  refine AW.region ?_
  refine AL.pure rfl rfl (by decide) (P_assign rfl) ?_
  refine AL.nil ?_
  refine Then.go ?_
  refine AW.seq ?_
  refine AW.seq ?_
  refine AW.region ?_
  refine AL.pure rfl rfl (by decide) (P_move rfl) ?_
  refine AL.pure rfl rfl (by decide) (P_eqlPN ty50 rfl rfl) ?_
  refine AL.nil ?_
  refine Then.go ?_
  refine AW.condF rfl ?_
  refine AW.skip ?_
  refine Then.go ?_
  refine AW.seq ?_
  refine AW.region ?_
  refine AL.pure rfl rfl (by decide) (P_move rfl) ?_
  refine AL.pure rfl rfl (by decide) (P_nilCheck rfl) ?_
  refine AL.pure rfl rfl (by decide) (P_fieldAddr ty151 rfl ty149 rfl) ?_
  refine AL.pure rfl rfl (by decide) (P_load ty149 rfl rfl rfl rfl) ?_
  refine AL.pure rfl rfl (by decide) (P_move rfl) ?_
  refine AL.pure rfl rfl (by decide) (P_build ty250 tz250 tf249 rfl) ?_
  refine AL.pure rfl rfl (by decide) (P_lookupD (key := (b, 0)) 0 (fun _ _ => by simp [RT]) mi149 kf250 tz3 rfl (fun S => evK2 S rfl) rfl hc ⟨hb, by constructor <;> simp⟩) ?_
  refine AL.pure rfl rfl (by decide) (P_assign rfl) ?_
  refine AL.nil ?_
  refine Then.go ?_
  refine AW.ret ?_
  refine ⟨(by exact .inr rfl), _, _, (.cons (.tmp rfl) .nil), (SubG.cons (l := 20) rfl (SubG.cons (l := 22) rfl SubG.nil)), ?_, rfl, rfl⟩
  exact ⟨rfl, rfl⟩
theorem C_volume_ask (g : Geo) (N : Nat) : ACalls Tryz.prog 59 [.ptr 10 0, .ptr 20 0] ([(20, nandO g), (10, norO g N)]) ([]) (fun r G => r = vI .i64 0 ∧ G = [(20, nandO g), (10, norO g N)]) := by
  refine acalls_of_body 18 [1, 10, 11, 12, 20, 21, 22, 23] Tryz.func59 rfl (by kernel_rfl) Tryz.ntmps59 (Nat.le_of_ble_eq_true rfl) rfl ?_
  refine AW.seq ?_
  refine AW.region ?_
  refine AL.pure rfl rfl (by decide) (P_assign rfl) ?_
  refine AL.nil ?_
  refine Then.go ?_
  refine AW.seq ?_
  refine AW.block ?_
  refine AW.seq ?_
  refine AW.region ?_
  refine AL.pure rfl rfl (by decide) (P_move rfl) ?_
  refine AL.pure rfl rfl (by decide) (P_eqlPN ty49 rfl rfl) ?_
  refine AL.pure rfl rfl (by decide) (P_move rfl) ?_
  refine AL.pure rfl rfl (by decide) (P_move rfl) ?_
  refine AL.pure rfl rfl (by decide) (P_eqlPN ty50 rfl rfl) ?_
  refine AL.pure rfl rfl (by decide) (P_pickF rfl rfl) ?_
  refine AL.pure rfl rfl (by decide) (P_assign rfl) ?_
  refine AL.nil ?_
  refine Then.go ?_
  refine AW.condF rfl ?_
  refine AW.seq ?_
  refine AW.region ?_
  refine AL.pure rfl rfl (by decide) (P_move rfl) ?_
  refine AL.call (C_nor_Chip_Geometry g N ) _ [] [] _ rfl (by decide) rfl rfl rfl (SubG.cons rfl SubG.nil) ?_
  rintro _ _ ⟨rfl, rfl⟩
  refine ⟨rfl, rfl, ?_⟩
  refine AL.pure rfl rfl (by decide) (P_move rfl) ?_
  refine AL.call (C_nand_Chip_Geometry g ) _ [] [] _ rfl (by decide) rfl rfl rfl (SubG.cons rfl SubG.nil) ?_
  rintro _ _ ⟨rfl, rfl⟩
  refine ⟨rfl, rfl, ?_⟩
  refine AL.pure rfl rfl (by decide) (P_neqS te48 rfl rfl rfl rfl rfl) ?_
  refine AL.pure rfl rfl (by decide) (P_assign rfl) ?_
  refine AL.nil ?_
  refine Then.go ?_
  refine AW.cond _ rfl ?_ ?_
  · intro h1
    exfalso; simp [eqVs, eqV] at h1
  · intro h1
    refine AW.skip ?_
    refine InBlock.go ?_
    refine Then.go ?_
    refine AW.seq ?_
    refine AW.region ?_
    refine AL.pure rfl rfl (by decide) (P_assign rfl) ?_
    refine AL.nil ?_
    refine Then.go ?_
    refine AW.ret ?_
    refine ⟨(by exact .inr rfl), _, _, (.cons (.tmp rfl) .nil), (SubG.cons (l := 20) rfl (SubG.cons (l := 10) rfl SubG.nil)), ?_, rfl, rfl⟩
    exact ⟨rfl, rfl⟩
theorem C_volume_erase (g : Geo) (hb : 0 ≤ g.b) (hb2 : g.b ≤ 1000) : ACalls Tryz.prog 71 [.ptr 20 0] ([(20, nandO g), (22, .mapT (ents k2 i8 []))]) ([]) (fun r G => r = .tup [.tr (.val (.slice none 0 0)), vI .i64 0] ∧ G = [(20, nandO g), (22, .mapT (ents k2 i8 []))]) := by
  refine acalls_of_body 33 [20, 1, 21, 22, 23] Tryz.func71 rfl (by kernel_rfl) Tryz.ntmps71 (Nat.le_of_ble_eq_true rfl) rfl ?_
  refine AW.seq ?_
  refine AW.region ?_
  refine AL.pure rfl rfl (by decide) (P_assign rfl) ?_
  refine AL.pure rfl rfl (by decide) (P_assign rfl) ?_
  refine AL.nil ?_
  refine Then.go ?_
  refine AW.seq ?_
  refine AW.region ?_
  refine AL.pure rfl rfl (by decide) (P_assign rfl) ?_
  refine AL.nil ?_
  refine Then.go ?_
  refine AW.seq ?_
  refine AW.seq ?_
  refine AW.region ?_
  refine AL.pure rfl rfl (by decide) (P_move rfl) ?_
  refine AL.call (C_nand_Chip_Geometry g ) _ [] [] _ rfl (by decide) rfl rfl rfl (SubG.cons rfl SubG.nil) ?_
  rintro _ _ ⟨rfl, rfl⟩
  refine ⟨rfl, rfl, ?_⟩
  refine AL.pure rfl rfl (by decide) (P_field ty48 rfl ty3 rfl rfl rfl) ?_
  refine AL.pure rfl rfl (by decide) (P_move rfl) ?_
  refine AL.nil ?_
  refine Then.go ?_
  refine AW.block ?_
  refine AW.loopK (σ := Nat) [0, 9] [20, 22] (.cons rfl (.cons rfl .nil)) (.cons rfl (.cons rfl .nil)) rfl (fun i => [(10, vI .i64 (i : Nat)), (4, .tr (.val (.slice none 0 0)))]) (fun i => []) (fun i => (i : Int) ≤ g.b) (fun i => (g.b - i).toNat) (0) ?_ ?_ ?_ ?_
  · skip
    simpa using hb
  · skip
    refine SubT.cons' (by decide) rfl ?_ ?_
    · skip
      rfl
    refine SubT.cons' (by decide) rfl ?_ ?_
    · skip
      rfl
    exact SubT.nil
  · skip
    exact SubG.nil
  · rintro i hs
    try dsimp only at hs
    dsimp only [List.cons_append, List.nil_append]
    refine AW.seq ?_
    refine AW.region ?_
    refine AL.pure rfl rfl (by decide) (P_lss rfl rfl) ?_
    refine AL.nil ?_
    refine Then.go ?_
    refine AW.seq ?_
    refine AW.condD _ rfl ?_ ?_
    · intro h1
      refine AW.skip ?_
      refine Then.go ?_
      refine AW.seq ?_
      refine AW.block ?_
      refine AW.seq ?_
      refine AW.region ?_
      refine AL.pure rfl rfl (by decide) (P_move rfl) ?_
      refine AL.pure rfl rfl (by decide) (P_assign rfl) ?_
      refine AL.nil ?_
      refine Then.go ?_
      refine AW.seq ?_
      refine AW.seq ?_
      refine AW.region ?_
      refine AL.pure rfl rfl (by decide) (P_move rfl) ?_
      refine AL.pure rfl rfl (by decide) (P_move rfl) ?_
      refine AL.call (C_nand_Chip_Programmed g [] (i : Int) ⟨by simp, fun p hp => by cases hp⟩ (by constructor <;> omega) ) _ [] [] _ rfl (by decide) rfl rfl rfl (SubG.cons rfl (SubG.cons rfl SubG.nil)) ?_
      rintro _ _ ⟨rfl, rfl⟩
      refine ⟨rfl, rfl, ?_⟩
      refine AL.pure rfl rfl (by decide) (P_eql rfl rfl) ?_
      refine AL.nil ?_
      refine Then.go ?_
      refine AW.condT rfl ?_
      refine AW.exit ?_
      refine Then.e ?_
      refine InBlock.e ?_
      refine Then.go ?_
      refine AW.region ?_
      refine AL.pure rfl rfl (by decide) (P_addN rfl rfl (by omega) (by omega)) ?_
      refine AL.pure rfl rfl (by decide) (P_move rfl) ?_
      refine AL.nil ?_
      refine Round.go (i + 1) ?_ ?_ ?_ ?_
      · try dsimp only
        omega
      · try dsimp only
        omega
      · skip
        refine SubT.cons' (by decide) rfl ?_ ?_
        · skip
          rfl
        refine SubT.cons' (by decide) rfl ?_ ?_
        · skip
          rfl
        exact (SubT.cons (by decide) rfl (SubT.cons (by decide) rfl SubT.nil))
      · skip
        exact (SubG.cons rfl (SubG.cons rfl SubG.nil))
    · intro h1
      refine AW.exit ?_
      refine Then.e ?_
      refine Round.e ?_
      refine InBlock.e ?_
      refine Then.go ?_
      refine AW.seq ?_
      refine AW.region ?_
      refine AL.pure rfl rfl (by decide) (P_move rfl) ?_
      refine AL.pure rfl rfl (by decide) (P_assign rfl) ?_
      refine AL.pure rfl rfl (by decide) (P_assign rfl) ?_
      refine AL.nil ?_
      refine Then.go ?_
      refine AW.ret ?_
      refine ⟨(by exact .inr rfl), _, _, (.cons (.tmp rfl) (.cons (.tmp rfl) .nil)), (SubG.cons (l := 20) rfl (SubG.cons (l := 22) rfl SubG.nil)), ?_, rfl, rfl⟩
      exact ⟨rfl, rfl⟩
theorem C_flow_New  : ACalls Tryz.prog 110 [.ptr 20 0, .ptr 30 0] ([]) ([]) (fun r G => r = .ptr 40 0 ∧ G = [(40, .row 254 [.ptr 20 0, .ptr 30 0, .map 41]), (41, .mapT (ents k1 i8 []))]) := by
  refine acalls_of_body 10 [20, 30] Tryz.func110 rfl (by kernel_rfl) Tryz.ntmps110 (Nat.le_of_ble_eq_true rfl) rfl ?_
  refine AW.seq ?_
  refine AW.region ?_
  refine AL.pure rfl rfl (by decide) (P_assign rfl) ?_
  refine AL.nil ?_
  refine Then.go ?_
  refine AW.seq ?_
  refine AW.region ?_
  refine AL.pure rfl rfl (by decide) (P_move rfl) ?_
  refine AL.pure rfl rfl (by decide) (P_move rfl) ?_
  refine AL.eff rfl rfl (by decide) (E_makeMap 41 rfl rfl rfl) ?_
  refine AL.pure rfl rfl (by decide) (P_build ty254 tz254 tf253 rfl) ?_
  refine AL.eff rfl rfl (by decide) (E_box 40 rfl rfl rfl rfl rfl rfl) ?_
  refine AL.pure rfl rfl (by decide) (P_assign rfl) ?_
  refine AL.nil ?_
  refine Then.go ?_
  refine AW.ret ?_
  refine ⟨(by exact .inr rfl), _, _, (.cons (.tmp rfl) .nil), (SubG.cons (l := 40) rfl (SubG.cons (l := 41) rfl SubG.nil)), ?_, rfl, rfl⟩
  exact ⟨rfl, rfl⟩
theorem C_files_New  : ACalls Tryz.prog 57 [.ptr 50 0] ([]) ([]) (fun r G => r = .ptr 60 0 ∧ G = [(60, .row 167 [.ptr 50 0])]) := by
  refine acalls_of_body 6 [50] Tryz.func57 rfl (by kernel_rfl) Tryz.ntmps57 (Nat.le_of_ble_eq_true rfl) rfl ?_
  refine AW.seq ?_
  refine AW.region ?_
  refine AL.pure rfl rfl (by decide) (P_assign rfl) ?_
  refine AL.nil ?_
  refine Then.go ?_
  refine AW.seq ?_
  refine AW.region ?_
  refine AL.pure rfl rfl (by decide) (P_move rfl) ?_
  refine AL.pure rfl rfl (by decide) (P_build ty167 tz167 tf166 rfl) ?_
  refine AL.eff rfl rfl (by decide) (E_box 60 rfl rfl rfl rfl rfl rfl) ?_
  refine AL.pure rfl rfl (by decide) (P_assign rfl) ?_
  refine AL.nil ?_
  refine Then.go ?_
  refine AW.ret ?_
  refine ⟨(by exact .inr rfl), _, _, (.cons (.tmp rfl) .nil), (SubG.cons (l := 60) rfl SubG.nil), ?_, rfl, rfl⟩
  exact ⟨rfl, rfl⟩
theorem C_table_New  : ACalls Tryz.prog 58 [] ([]) ([]) (fun r G => r = .ptr 70 0 ∧ G = [(70, .row 170 [.map 71]), (71, .mapT [])]) := by
  refine acalls_of_body 4 [] Tryz.func58 rfl (by kernel_rfl) Tryz.ntmps58 (Nat.le_of_ble_eq_true rfl) rfl ?_
  refine AW.seq ?_
  refine AW.region ?_
  refine AL.pure rfl rfl (by decide) (P_assign rfl) ?_
  refine AL.nil ?_
  refine Then.go ?_
  refine AW.seq ?_
  refine AW.region ?_
  refine AL.eff rfl rfl (by decide) (E_makeMap 71 rfl rfl rfl) ?_
  refine AL.pure rfl rfl (by decide) (P_build ty170 tz170 tf169 rfl) ?_
  refine AL.eff rfl rfl (by decide) (E_box 70 rfl rfl rfl rfl rfl rfl) ?_
  refine AL.pure rfl rfl (by decide) (P_assign rfl) ?_
  refine AL.nil ?_
  refine Then.go ?_
  refine AW.ret ?_
  refine ⟨(by exact .inr rfl), _, _, (.cons (.tmp rfl) .nil), (SubG.cons (l := 70) rfl (SubG.cons (l := 71) rfl SubG.nil)), ?_, rfl, rfl⟩
  exact ⟨rfl, rfl⟩
end Go.Proofs.YtmakeajjgjnldaaGreatDoor
