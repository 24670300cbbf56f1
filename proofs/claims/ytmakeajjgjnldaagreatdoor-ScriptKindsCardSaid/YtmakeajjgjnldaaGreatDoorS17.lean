/- Walks, part 17: paths. -/
import Derived.Test.YtmakeajjgjnldaaGreatDoorS16
set_option linter.unusedVariables false
set_option linter.unusedSimpArgs false
set_option maxRecDepth 100000
namespace Go.Proofs.YtmakeajjgjnldaaGreatDoor
open Go Go.Ab

/-- The inodes by number; the first of a number stays. -/
def beginM (l : List Ino) : List (Int × Ino) := l.foldr (fun x m => setL m (x.no : Int) x) []
theorem beginM_ok : ∀ {l : List Ino}, (∀ x ∈ l, x.no ≤ 9223372036854775807) → okL in64 (beginM l)
  | [], _ => by simp [beginM, okL]
  | x :: l, h => by
    have h1 := h x (by simp)
    exact okL_setL (beginM_ok fun y hy => h y (by simp [hy])) (by constructor <;> omega) _
theorem beginM_drop {l : List Ino} {k : Nat} (hk : 1 ≤ k) (h : k ≤ l.length) : beginM (l.drop (k - 1)) = setL (beginM (l.drop k)) ((l.getD (k - 1) inz).no : Int) (l.getD (k - 1) inz) := by
  have h1 : k - 1 < l.length := by omega
  rw [List.drop_eq_getElem_cons h1, show k - 1 + 1 = k by omega]
  simp [beginM, List.getD, h1]
abbrev walkG (m : List (Int × Ino)) (dirs : List Int) (at_ loops : Int) : GS := [(360, .row 343 [.map 361, .own 1 362 0 dirs.length, vI .i64 at_, vI .i64 loops]), (361, .mapT (ents k1 Ino.t m)), (362, .els 3 1 (dirs.map i8))]

theorem ty341 : TyIs Tryz.prog 341 (.map 379 85) 1 := ⟨Tryz.underlying341, by kernel_rfl⟩
abbrev fs342 : Array Field := #[⟨ "by", 341, 0, false, "", "garret/path", 0⟩, ⟨ "dirs", 36, 1, false, "", "garret/path", 8⟩, ⟨ "at", 3, 2, false, "", "garret/path", 32⟩, ⟨ "loops", 3, 3, false, "", "garret/path", 40⟩]
theorem tf342 : FldIs Tryz.prog fs342 [(0, 1), (1, 1), (2, 1), (3, 1)] := ⟨by kernel_rfl⟩
theorem ty343 : TyIs Tryz.prog 343 (.struct fs342) 4 := ⟨Tryz.underlying343, by kernel_rfl⟩
theorem tz343 : TyZ Tryz.prog 343 (.agg #[.map none, .slice none 0 0, .int .i64 0, .int .i64 0]) := ⟨by kernel_rfl⟩
abbrev fs378 : Array Field := #[⟨ "no", 3, 0, false, "", "garret/path", 0⟩]
theorem tf378 : FldIs Tryz.prog fs378 [(0, 1)] := ⟨by kernel_rfl⟩
theorem ty379 : TyIs Tryz.prog 379 (.struct fs378) 1 := ⟨Tryz.underlying379, by kernel_rfl⟩
theorem tz379 : TyZ Tryz.prog 379 (.agg #[.int .i64 0]) := ⟨by kernel_rfl⟩
theorem mi341 : MapIs Tryz.prog 341 379 85 := ⟨Tryz.underlying341, deep_law (m := 5) (by decide) (by kernel_rfl) (by kernel_rfl) (by kernel_rfl)⟩
theorem kf379 : KeyF Tryz.prog 379 k1 in64 := keyF1 Tryz.underlying379 (by kernel_rfl) (by kernel_rfl) rfl rfl Tryz.underlying3 (by kernel_rfl) (Nat.le_of_ble_eq_true (by kernel_rfl))
theorem C_path_begin (s : Sta) (h : StaOk s) : ACalls Tryz.prog 247 [.tr s.t] ([]) ([]) (fun r G => r = .ptr 360 0 ∧ G = walkG (beginM s.inos) [1] 1 0) := by
  have hn := h.ni
  refine acalls_of_body 34 [] Tryz.func247 rfl (by kernel_rfl) Tryz.ntmps247 (Nat.le_of_ble_eq_true rfl) rfl ?_
  refine AW.seq ?_
  refine AW.region ?_
  refine AL.eff rfl rfl (by decide) (E_box 101 rfl rfl rfl rfl rfl rfl) ?_
  refine AL.pure rfl rfl (by decide) (P_assign rfl) ?_
  refine AL.nil ?_
  refine Then.go ?_
  refine AW.seq ?_
  refine AW.region ?_
  refine AL.eff rfl rfl (by decide) (E_makeMap 361 rfl rfl rfl) ?_
  refine AL.eff rfl rfl (by decide) (E_litO 362 ty36 ty3 tz3 rfl rfl rfl rfl rfl) ?_
  refine AL.pure rfl rfl (by decide) (P_build ty343 tz343 tf342 rfl) ?_
  refine AL.eff rfl rfl (by decide) (E_box 360 rfl rfl rfl rfl rfl rfl) ?_
  refine AL.pure rfl rfl (by decide) (P_assign rfl) ?_
  refine AL.nil ?_
  refine Then.go ?_
  refine AW.seq ?_
  refine AW.seq ?_
  refine AW.region ?_
  refine AL.pure rfl rfl (by decide) (P_fieldAddr ty38 rfl ty35 rfl) ?_
  refine AL.pure rfl rfl (by decide) (P_load ty35 rfl rfl rfl rfl) ?_
  refine AL_lenM rfl rfl (by decide) ty35 rfl fun h1 => ?_
  try simp only [bs_length, List.length_map, List.length_append, List.length_replicate, List.length_cons, List.length_nil, List.length_take, List.length_set] at h1
  refine AL.pure rfl rfl (by decide) (P_subN rfl rfl (by omega) (by omega)) ?_
  refine AL.pure rfl rfl (by decide) (P_assign rfl) ?_
  refine AL.nil ?_
  refine Then.go ?_
  refine AW.block ?_
  refine AW.loopK (σ := Nat) [1, 2, 3] [101, 360, 362] (.cons rfl (.cons rfl (.cons rfl .nil))) (.cons rfl (.cons rfl (.cons rfl .nil))) rfl (fun k => [(4, vI .i64 ((k : Int) - 1))]) (fun k => [(361, .mapT (ents k1 Ino.t (beginM (s.inos.drop k))))]) (fun k => k ≤ s.inos.length) (fun k => k) (s.inos.length) ?_ ?_ ?_ ?_
  · skip
    exact Nat.le_refl _
  · skip
    refine SubT.cons' (by decide) rfl ?_ ?_
    · skip
      rfl
    exact SubT.nil
  · skip
    refine SubG.cons' rfl ?_ ?_
    · skip
      rw [List.drop_length]; rfl
    exact SubG.nil
  · rintro k hs
    try dsimp only at hs
    dsimp only [List.cons_append, List.nil_append]
    refine AW.seq ?_
    refine AW.seq ?_
    refine AW.region ?_
    refine AL.pure rfl rfl (by decide) (P_move rfl) ?_
    refine AL.pure rfl rfl (by decide) (P_geq rfl rfl) ?_
    refine AL.nil ?_
    refine Then.go ?_
    refine AW.condD _ rfl ?_ ?_
    · intro h2
      refine AW.recast 4 (vI .i64 ((k - 1 : Nat) : Int)) rfl (vI_congr (by omega)) ?_
      refine AW.skip ?_
      refine Then.go ?_
      refine AW.seq ?_
      refine AW.block ?_
      refine AD.start ?_
      refine AD.op 0 17 [] _ rfl rfl rfl (B_pure (P_move rfl)) ?_
      refine AD.op 1 18 [0] _ rfl rfl rfl (B_pure (P_nilCheck rfl)) ?_
      refine AD.op 2 19 [0, 1] _ rfl rfl rfl (B_pure (P_fieldAddr ty343 rfl ty341 rfl)) ?_
      refine AD.op 3 20 [0, 1, 2] _ rfl rfl rfl (B_pure (P_load ty341 rfl rfl rfl rfl)) ?_
      refine AD.op 4 21 [] _ rfl rfl rfl (B_pure (P_fieldAddr ty38 rfl ty35 rfl)) ?_
      refine AD.op 5 22 [4] _ rfl rfl rfl (B_pure (P_load ty35 rfl rfl rfl rfl)) ?_
      refine AD.op 6 23 [] _ rfl rfl rfl (B_pure (P_move rfl)) ?_
      refine AD.op 7 24 [4, 5, 6] _ rfl rfl rfl (B_pure (P_indexSl ty35 ty85 rfl rfl (by exact map_at inz (by omega)) (by rfl))) ?_
      refine AD.op 8 25 [4, 5, 6, 7] _ rfl rfl rfl (B_pure (P_fieldAddrR ty85 rfl ty3 rfl)) ?_
      refine AD.op 9 26 [4, 5, 6, 7, 8] _ rfl rfl rfl (B_pure (P_loadR ty3 rfl rfl rfl)) ?_
      refine AD.op 10 27 [4, 5, 6, 7, 8, 9] _ rfl rfl rfl (B_pure (P_build ty379 tz379 tf378 rfl)) ?_
      refine AD.op 11 28 [] _ rfl rfl rfl (B_pure (P_fieldAddr ty38 rfl ty35 rfl)) ?_
      refine AD.op 12 29 [11] _ rfl rfl rfl (B_pure (P_load ty35 rfl rfl rfl rfl)) ?_
      refine AD.op 13 30 [] _ rfl rfl rfl (B_pure (P_move rfl)) ?_
      refine AD.op 14 31 [11, 12, 13] _ rfl rfl rfl (B_pure (P_indexSl ty35 ty85 rfl rfl (by exact map_at inz (by omega)) (by rfl))) ?_
      refine AD.op 15 32 [11, 12, 13, 14] _ rfl rfl rfl (B_pure (P_loadAR ty85 rfl rfl (Nat.le_of_ble_eq_true rfl))) ?_
      refine AD.tail mixed rfl (by kernel_rfl) rfl ?_
      refine AL.eff0 rfl rfl (E_mapUpdate (key := (((s.inos.getD (k - 1) inz).no : Nat) : Int)) (v := s.inos.getD (k - 1) inz) mi341 kf379 rfl (fun S => evK1 S rfl) rfl rfl (beginM_ok fun x hx => (h.inos x (List.mem_of_mem_drop hx)).no) (by have := (h.inos _ (getD_mem inz (show k - 1 < s.inos.length by omega))).no; constructor <;> omega)) ?_
      refine AL.nil ?_
      refine InBlock.go ?_
      refine Then.go ?_
      refine AW.region ?_
      refine AL.pure rfl rfl (by decide) (P_move rfl) ?_
      refine AL.pure rfl rfl (by decide) (P_subN rfl rfl (by omega) (by omega)) ?_
      refine AL.pure rfl rfl (by decide) (P_assign rfl) ?_
      refine AL.nil ?_
      refine Round.go (k - 1) ?_ ?_ ?_ ?_
      · try dsimp only
        omega
      · try dsimp only
        omega
      · skip
        refine SubT.cons' (by decide) rfl ?_ ?_
        · skip
          rfl
        exact (SubT.cons (by decide) rfl (SubT.cons (by decide) rfl (SubT.cons (by decide) rfl SubT.nil)))
      · skip
        refine SubG.cons' rfl ?_ ?_
        · skip
          rw [beginM_drop (by omega) hs]
        exact (SubG.cons rfl (SubG.cons rfl (SubG.cons rfl SubG.nil)))
    · intro h2
      refine AW.exit ?_
      refine Then.e ?_
      refine Round.e ?_
      refine InBlock.e ?_
      refine Then.go ?_
      refine AW.seq ?_
      refine AW.region ?_
      refine AL.pure rfl rfl (by decide) (P_move rfl) ?_
      refine AL.pure rfl rfl (by decide) (P_assign rfl) ?_
      refine AL.nil ?_
      refine Then.go ?_
      refine AW.ret ?_
      refine ⟨(by exact .inr rfl), _, _, (.cons (.tmp rfl) .nil), (SubG.cons (l := 360) rfl (SubG.cons (l := 361) rfl (SubG.cons (l := 362) rfl SubG.nil))), ?_, rfl, rfl⟩
      obtain rfl : k = 0 := by omega
      exact ⟨rfl, rfl⟩
theorem C_names_nil (f : Bool) : ACalls Tryz.prog 248 [.ptr 360 0, .tr (.sl 1 []), vB f] ([]) ([]) (fun r G => r = vI .i64 0 ∧ G = []) := by
  refine acalls_of_body 34 [] Tryz.func248 rfl (by kernel_rfl) Tryz.ntmps248 (Nat.le_of_ble_eq_true rfl) rfl ?_
  refine AW.seq ?_
  refine AW.region ?_
  refine AL.pure rfl rfl (by decide) (P_assign rfl) ?_
  refine AL.nil ?_
  refine Then.go ?_
  refine AW.seq ?_
  refine AW.block ?_
  refine AW.loopK (σ := Unit) [0, 2] [] (.cons rfl (.cons rfl .nil)) .nil rfl (fun u => [(1, .tr (.sl 1 []))]) (fun u => []) (fun u => True) (fun u => 0) (()) ?_ ?_ ?_ ?_
  · skip
    trivial
  · skip
    refine SubT.cons' (by decide) rfl ?_ ?_
    · skip
      rfl
    exact SubT.nil
  · skip
    exact SubG.nil
  · rintro u hs
    try dsimp only at hs
    dsimp only [List.cons_append, List.nil_append]
    refine AW.seq ?_
    refine AW.seq ?_
    refine AW.region ?_
    refine AL.pure rfl rfl (by decide) (P_move rfl) ?_
    refine AL_lenSl rfl rfl (by decide) ty27 rfl fun h1 => ?_
    try simp only [bs_length, List.length_map, List.length_append, List.length_replicate, List.length_cons, List.length_nil, List.length_take, List.length_set] at h1
    refine AL.pure rfl rfl (by decide) (P_gtr rfl rfl) ?_
    refine AL.nil ?_
    refine Then.go ?_
    refine AW.condD _ rfl ?_ ?_
    · intro h2
      exfalso; simp at *
    · intro h2
      refine AW.exit ?_
      refine Then.e ?_
      refine Round.e ?_
      refine InBlock.e ?_
      refine Then.go ?_
      refine AW.seq ?_
      refine AW.region ?_
      refine AL.pure rfl rfl (by decide) (P_assign rfl) ?_
      refine AL.nil ?_
      refine Then.go ?_
      refine AW.ret ?_
      refine ⟨(by exact .inr rfl), _, _, (.cons (.tmp rfl) .nil), SubG.nil, ?_, rfl, rfl⟩
      exact ⟨rfl, rfl⟩
theorem C_Resolve_root (s : Sta) (h : StaOk s) (t : ByteArray) (ht : t.size ≤ 1000000000) (hr : splitN t = some []) (f : Bool) : ACalls Tryz.prog 194 [.tr s.t, vS t, vB f] ([]) ([]) (fun r G => r = .tup [vI .i64 1, vI .i64 0] ∧ G = []) := by
  refine acalls_of_body 32 [] Tryz.func194 rfl (by kernel_rfl) Tryz.ntmps194 (Nat.le_of_ble_eq_true rfl) rfl ?_
  refine AW.seq ?_
  refine AW.region ?_
  refine AL.eff rfl rfl (by decide) (E_box 103 rfl rfl rfl rfl rfl rfl) ?_
  refine AL.pure rfl rfl (by decide) (P_assign rfl) ?_
  refine AL.pure rfl rfl (by decide) (P_assign rfl) ?_
  refine AL.nil ?_
  refine Then.go ?_
  refine AW.seq ?_
  refine AW.region ?_
  refine AL.pure rfl rfl (by decide) (P_move rfl) ?_
  refine AL.call (C_name_Split t ht ) _ [] [] _ rfl (by decide) rfl rfl rfl SubG.nil ?_
  rintro _ _ ⟨rfl, rfl⟩
  refine ⟨rfl, rfl, ?_⟩
  rw [hr]
  refine AL.pure rfl rfl (by decide) (P_move rfl) ?_
  refine AL.pure rfl rfl (by decide) (P_extract rfl rfl) ?_
  refine AL.pure rfl rfl (by decide) (P_extract rfl rfl) ?_
  refine AL.pure rfl rfl (by decide) (P_assign rfl) ?_
  refine AL.pure rfl rfl (by decide) (P_assign rfl) ?_
  refine AL.nil ?_
  refine Then.go ?_
  refine AW.seq ?_
  refine AW.seq ?_
  refine AW.region ?_
  refine AL.pure rfl rfl (by decide) (P_move rfl) ?_
  refine AL.pure rfl rfl (by decide) (P_neq rfl rfl) ?_
  refine AL.nil ?_
  refine Then.go ?_
  refine AW.condF rfl ?_
  refine AW.skip ?_
  refine Then.go ?_
  refine AW.seq ?_
  refine AW.region ?_
  refine AL.pure rfl rfl (by decide) (P_loadA ty38 rfl rfl rfl (Nat.le_of_ble_eq_true rfl)) ?_
  refine AL.call (C_path_begin s h ) _ [] [] _ rfl (by decide) rfl rfl rfl SubG.nil ?_
  rintro _ _ ⟨rfl, rfl⟩
  refine ⟨rfl, rfl, ?_⟩
  refine AL.pure rfl rfl (by decide) (P_assign rfl) ?_
  refine AL.nil ?_
  refine Then.go ?_
  refine AW.seq ?_
  refine AW.seq ?_
  refine AW.region ?_
  refine AL.pure rfl rfl (by decide) (P_move rfl) ?_
  refine AL.pure rfl rfl (by decide) (P_move rfl) ?_
  refine AL.pure rfl rfl (by decide) (P_move rfl) ?_
  refine AL.call (C_names_nil f ) _ [] [] _ rfl (by decide) rfl rfl rfl SubG.nil ?_
  rintro _ _ ⟨rfl, rfl⟩
  refine ⟨rfl, rfl, ?_⟩
  refine AL.pure rfl rfl (by decide) (P_assign rfl) ?_
  refine AL.nil ?_
  refine Then.go ?_
  refine AW.seq ?_
  refine AW.region ?_
  refine AL.pure rfl rfl (by decide) (P_move rfl) ?_
  refine AL.pure rfl rfl (by decide) (P_neq rfl rfl) ?_
  refine AL.nil ?_
  refine Then.go ?_
  refine AW.condF rfl ?_
  refine AW.skip ?_
  refine Then.go ?_
  refine AW.seq ?_
  refine AW.region ?_
  refine AL.pure rfl rfl (by decide) (P_move rfl) ?_
  refine AL.pure rfl rfl (by decide) (P_nilCheck rfl) ?_
  refine AL.pure rfl rfl (by decide) (P_fieldAddr ty343 rfl ty3 rfl) ?_
  refine AL.pure rfl rfl (by decide) (P_load ty3 rfl rfl rfl rfl) ?_
  refine AL.pure rfl rfl (by decide) (P_assign rfl) ?_
  refine AL.pure rfl rfl (by decide) (P_assign rfl) ?_
  refine AL.nil ?_
  refine Then.go ?_
  refine AW.ret ?_
  refine ⟨(by exact .inr rfl), _, _, (.cons (.tmp rfl) (.cons (.tmp rfl) .nil)), SubG.nil, ?_, rfl, rfl⟩
  exact ⟨rfl, rfl⟩
end Go.Proofs.YtmakeajjgjnldaaGreatDoor
