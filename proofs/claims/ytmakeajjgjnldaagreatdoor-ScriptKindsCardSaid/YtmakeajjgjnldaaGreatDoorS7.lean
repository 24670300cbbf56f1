/- Walks, part 7: power. -/
import Derived.Test.YtmakeajjgjnldaaGreatDoorS6
set_option linter.unusedVariables false
set_option linter.unusedSimpArgs false
set_option maxRecDepth 100000
namespace Go.Proofs.YtmakeajjgjnldaaGreatDoor
open Go Go.Ab

structure Pw where
  left : Int
  mask : UInt8
  off : Bool
  done : Int
def pwO (p : Pw) : AObj := .row 117 [vI .i64 p.left, .tr (b8 p.mask), vB p.off, .map 2, vI .i64 p.done]
def Pw.ok (p : Pw) : Prop := -1 ≤ p.left ∧ p.left ≤ 9223372036854775807
def stepP (p : Pw) : Bool × Bool × Pw := if p.off = true then (false, false, p) else if p.left = 0 then (false, true, { p with off := true }) else (true, false, { p with left := if 0 < p.left then p.left - 1 else p.left, done := IntKind.i64.wrap (p.done + 1) })
def failsM (l : List Int) : List (Int × Int) := l.foldl (fun m n => setL m n n) []
theorem failsM_ok {l : List Int} (h : ∀ n ∈ l, in64 n) : okL in64 (failsM l) := by
  have key : ∀ (l : List Int) (m : List (Int × Int)), (∀ n ∈ l, in64 n) → okL in64 m → okL in64 (l.foldl (fun m n => setL m n n) m) := by
    intro l
    induction l with
    | nil => intro m _ h; exact h
    | cons n l ih => intro m h1 h2; exact ih _ (fun k hk => h1 k (by simp [hk])) (okL_setL h2 (h1 n (by simp)) n)
  exact key l [] h ⟨by simp, fun p hp => by cases hp⟩
theorem failsM_snoc (l : List Int) (n : Int) : failsM (l ++ [n]) = setL (failsM l) n n := by simp [failsM, List.foldl_append]

theorem ty4 : TyIs Tryz.prog 4 (.bool) 1 := ⟨Tryz.underlying4, by kernel_rfl⟩
theorem ty70 : TyIs Tryz.prog 70 (.pointer 117) 1 := ⟨Tryz.underlying70, by kernel_rfl⟩
theorem ty115 : TyIs Tryz.prog 115 (.map 142 3) 1 := ⟨Tryz.underlying115, by kernel_rfl⟩
abbrev fs116 : Array Field := #[⟨ "left", 3, 0, false, "", "garret/power", 0⟩, ⟨ "mask", 5, 1, false, "", "garret/power", 8⟩, ⟨ "off", 4, 2, false, "", "garret/power", 9⟩, ⟨ "fails", 115, 3, false, "", "garret/power", 16⟩, ⟨ "done", 3, 4, false, "", "garret/power", 24⟩]
theorem tf116 : FldIs Tryz.prog fs116 [(0, 1), (1, 1), (2, 1), (3, 1), (4, 1)] := ⟨by kernel_rfl⟩
theorem ty117 : TyIs Tryz.prog 117 (.struct fs116) 5 := ⟨Tryz.underlying117, by kernel_rfl⟩
theorem tz117 : TyZ Tryz.prog 117 (.agg #[.int .i64 0, .int .u8 0, .bool false, .map none, .int .i64 0]) := ⟨by kernel_rfl⟩
abbrev fs141 : Array Field := #[⟨ "no", 3, 0, false, "", "garret/power", 0⟩]
theorem tf141 : FldIs Tryz.prog fs141 [(0, 1)] := ⟨by kernel_rfl⟩
theorem ty142 : TyIs Tryz.prog 142 (.struct fs141) 1 := ⟨Tryz.underlying142, by kernel_rfl⟩
theorem tz142 : TyZ Tryz.prog 142 (.agg #[.int .i64 0]) := ⟨by kernel_rfl⟩
theorem mi115 : MapIs Tryz.prog 115 142 3 := ⟨Tryz.underlying115, deep_law (m := 5) (by decide) (by kernel_rfl) (by kernel_rfl) (by kernel_rfl)⟩
theorem kf142 : KeyF Tryz.prog 142 k1 in64 := keyF1 Tryz.underlying142 (by kernel_rfl) (by kernel_rfl) rfl rfl Tryz.underlying3 (by kernel_rfl) (Nat.le_of_ble_eq_true (by kernel_rfl))
theorem C_power_New  : ACalls Tryz.prog 41 [] ([]) ([]) (fun r G => r = .ptr 1 0 ∧ G = [(1, .row 117 [vI .i64 (-1), .tr (b8 0), vB false, .tr (.val (.map none)), vI .i64 0])]) := by
  refine acalls_of_body 3 [] Tryz.func41 rfl (by kernel_rfl) Tryz.ntmps41 (Nat.le_of_ble_eq_true rfl) rfl ?_
  refine AW.seq ?_
  refine AW.region ?_
  refine AL.pure rfl rfl (by decide) (P_assign rfl) ?_
  refine AL.nil ?_
  refine Then.go ?_
  refine AW.seq ?_
  refine AW.region ?_
  refine AL.pure rfl rfl (by decide) (P_build ty117 tz117 tf116 rfl) ?_
  refine AL.eff rfl rfl (by decide) (E_box 1 rfl rfl rfl rfl rfl rfl) ?_
  refine AL.pure rfl rfl (by decide) (P_assign rfl) ?_
  refine AL.nil ?_
  refine Then.go ?_
  refine AW.ret ?_
  refine ⟨(by exact .inr rfl), _, _, (.cons (.tmp rfl) .nil), (SubG.cons (l := 1) rfl SubG.nil), ?_, rfl, rfl⟩
  exact ⟨rfl, rfl⟩
theorem C_power_Power_Fail (l : List Int) (hl : ∀ n ∈ l, in64 n) (h1 : l.length ≤ 1000000) : ACalls Tryz.prog 42 [.ptr 1 0, .tr (.sl 1 (l.map i8))] ([(1, .row 117 [vI .i64 (-1), .tr (b8 0), vB false, .tr (.val (.map none)), vI .i64 0])]) ([]) (fun r G => r = .tup [] ∧ G = [(1, pwO ⟨-1, 0, false, 0⟩), (2, .mapT (ents k1 i8 (failsM l)))]) := by
  refine acalls_of_body 26 [1] Tryz.func42 rfl (by kernel_rfl) Tryz.ntmps42 (Nat.le_of_ble_eq_true rfl) rfl ?_
  refine AW.seq ?_
  refine AW.seq ?_
  refine AW.region ?_
  refine AL.pure rfl rfl (by decide) (P_move rfl) ?_
  refine AL.pure rfl rfl (by decide) (P_eqlPN ty70 rfl rfl) ?_
  refine AL.nil ?_
  refine Then.go ?_
  refine AW.condF rfl ?_
  refine AW.skip ?_
  refine Then.go ?_
  refine AW.seq ?_
  refine AW.region ?_
  refine AL.pure rfl rfl (by decide) (P_move rfl) ?_
  refine AL.eff rfl rfl (by decide) (E_makeMap 2 rfl rfl rfl) ?_
  refine AL.pure rfl rfl (by decide) (P_nilCheck rfl) ?_
  refine AL.pure rfl rfl (by decide) (P_fieldAddr ty117 rfl ty115 rfl) ?_
  refine AL.eff0 rfl rfl (E_store ty115 rfl rfl rfl rfl rfl (Nat.le_of_ble_eq_true rfl)) ?_
  refine AL.nil ?_
  refine Then.go ?_
  refine AW.seq ?_
  refine AW.region ?_
  refine AL.pure rfl rfl (by decide) (P_move rfl) ?_
  refine AL_lenM rfl rfl (by decide) ty36 rfl fun h1 => ?_
  try simp only [bs_length, List.length_map, List.length_append, List.length_replicate, List.length_cons, List.length_nil, List.length_take, List.length_set] at h1
  refine AL.pure rfl rfl (by decide) (P_move rfl) ?_
  refine AL.nil ?_
  refine Then.go ?_
  refine AW.block ?_
  refine AW.loopK (σ := Nat) [] [] .nil .nil rfl (fun i => [(0, .ptr 1 0), (12, .tr (.sl 1 (l.map i8))), (13, vI .i64 (l.length : Nat)), (14, vI .i64 (i : Nat))]) (fun i => [(1, pwO ⟨-1, 0, false, 0⟩), (2, .mapT (ents k1 i8 (failsM (l.take i))))]) (fun i => i ≤ l.length) (fun i => l.length - i) (0) ?_ ?_ ?_ ?_
  · skip
    simp
  · skip
    refine SubT.cons' (by decide) rfl ?_ ?_
    · skip
      rfl
    refine SubT.cons' (by decide) rfl ?_ ?_
    · skip
      rfl
    refine SubT.cons' (by decide) rfl ?_ ?_
    · skip
      rfl
    refine SubT.cons' (by decide) rfl ?_ ?_
    · skip
      rfl
    exact SubT.nil
  · skip
    refine SubG.cons' rfl ?_ ?_
    · skip
      rfl
    refine SubG.cons' rfl ?_ ?_
    · skip
      rfl
    exact SubG.nil
  · rintro i hs
    try dsimp only at hs
    dsimp only [List.cons_append, List.nil_append]
    refine AW.seq ?_
    refine AW.region ?_
    refine AL.pure rfl rfl (by decide) (P_lss rfl rfl) ?_
    refine AL.nil ?_
    refine Then.go ?_
    refine AW.seq ?_
    refine AW.condD _ rfl ?_ ?_
    · intro h2
      refine AW.skip ?_
      refine Then.go ?_
      refine AW.seq ?_
      refine AW.block ?_
      refine AW.seq ?_
      refine AW.region ?_
      refine AL.pure rfl rfl (by decide) (P_indexSl ty36 ty3 rfl rfl (by exact map_at 0 (by omega)) (by rfl)) ?_
      refine AL.pure rfl rfl (by decide) (P_loadR ty3 rfl rfl rfl) ?_
      refine AL.pure rfl rfl (by decide) (P_assign rfl) ?_
      refine AL.nil ?_
      refine Then.go ?_
      refine AW.region ?_
      refine AL.pure rfl rfl (by decide) (P_move rfl) ?_
      refine AL.pure rfl rfl (by decide) (P_nilCheck rfl) ?_
      refine AL.pure rfl rfl (by decide) (P_fieldAddr ty117 rfl ty115 rfl) ?_
      refine AL.pure rfl rfl (by decide) (P_load ty115 rfl rfl rfl rfl) ?_
      refine AL.pure rfl rfl (by decide) (P_move rfl) ?_
      refine AL.pure rfl rfl (by decide) (P_build ty142 tz142 tf141 rfl) ?_
      refine AL.pure rfl rfl (by decide) (P_move rfl) ?_
      refine AL.eff0 rfl rfl (E_mapUpdate (key := l.getD i 0) (v := l.getD i 0) mi115 kf142 rfl (fun S => evK1 S rfl) rfl rfl (failsM_ok fun n hn => hl n (List.mem_of_mem_take hn)) (hl _ (getD_mem 0 (by omega)))) ?_
      refine AL.nil ?_
      refine InBlock.go ?_
      refine Then.go ?_
      refine AW.region ?_
      refine AL.pure rfl rfl (by decide) (P_addN rfl rfl (by omega) (by omega)) ?_
      refine AL.pure rfl rfl (by decide) (P_move rfl) ?_
      refine AL.nil ?_
      refine Round.go (i + 1) ?_ ?_ ?_ ?_
      · try dsimp only
        omega
      · try dsimp only
        omega
      · skip
        refine SubT.cons' (by decide) rfl ?_ ?_
        · skip
          rfl
        refine SubT.cons' (by decide) rfl ?_ ?_
        · skip
          rfl
        refine SubT.cons' (by decide) rfl ?_ ?_
        · skip
          rfl
        refine SubT.cons' (by decide) rfl ?_ ?_
        · skip
          rfl
        exact SubT.nil
      · skip
        refine SubG.cons' rfl ?_ ?_
        · skip
          rfl
        refine SubG.cons' rfl ?_ ?_
        · skip
          rw [show l.take (i + 1) = l.take i ++ [l.getD i 0] from ?_, failsM_snoc]
          rw [List.take_add_one]; simp [List.getElem?_eq_getElem (show i < l.length by omega), List.getD, show i < l.length by omega]
        exact SubG.nil
    · intro h2
      refine AW.exit ?_
      refine Then.e ?_
      refine Round.e ?_
      refine InBlock.e ?_
      refine ⟨(by exact .inl rfl), _, _, .nil, (SubG.cons (l := 1) rfl (SubG.cons (l := 2) rfl SubG.nil)), ?_, rfl, rfl⟩
      have hi : i = l.length := by omega
      rw [hi, List.take_length]
      exact ⟨rfl, rfl⟩
theorem C_power_Power_Step (p : Pw) (hp : p.ok) : ACalls Tryz.prog 169 [.ptr 1 0] ([(1, pwO p)]) ([]) (fun r G => r = .tup [vB (stepP p).1, vB (stepP p).2.1] ∧ G = [(1, pwO (stepP p).2.2)]) := by
  obtain ⟨p1, p2⟩ := hp
  refine acalls_of_body 40 [1, 2] Tryz.func169 rfl (by kernel_rfl) Tryz.ntmps169 (Nat.le_of_ble_eq_true rfl) rfl ?_
  refine AW.seq ?_
  refine AW.region ?_
  refine AL.pure rfl rfl (by decide) (P_assign rfl) ?_
  refine AL.pure rfl rfl (by decide) (P_assign rfl) ?_
  refine AL.nil ?_
  refine Then.go ?_
  refine AW.seq ?_
  refine AW.block ?_
  refine AW.seq ?_
  refine AW.region ?_
  refine AL.pure rfl rfl (by decide) (P_move rfl) ?_
  refine AL.pure rfl rfl (by decide) (P_eqlPN ty70 rfl rfl) ?_
  refine AL.pure rfl rfl (by decide) (P_assign rfl) ?_
  refine AL.nil ?_
  refine Then.go ?_
  refine AW.condF rfl ?_
  refine AW.seq ?_
  refine AW.region ?_
  refine AL.pure rfl rfl (by decide) (P_move rfl) ?_
  refine AL.pure rfl rfl (by decide) (P_nilCheck rfl) ?_
  refine AL.pure rfl rfl (by decide) (P_fieldAddr ty117 rfl ty4 rfl) ?_
  refine AL.pure rfl rfl (by decide) (P_load ty4 rfl rfl rfl rfl) ?_
  refine AL.pure rfl rfl (by decide) (P_assign rfl) ?_
  refine AL.nil ?_
  refine Then.go ?_
  refine AW.cond _ rfl ?_ ?_
  · intro h1
    refine AW.seq ?_
    refine AW.region ?_
    refine AL.pure rfl rfl (by decide) (P_assign rfl) ?_
    refine AL.pure rfl rfl (by decide) (P_assign rfl) ?_
    refine AL.nil ?_
    refine Then.go ?_
    refine AW.ret ?_
    refine InBlock.r ?_
    refine Then.r ?_
    refine ⟨(by exact .inr rfl), _, _, (.cons (.tmp rfl) (.cons (.tmp rfl) .nil)), (SubG.cons (l := 1) rfl SubG.nil), ?_, rfl, rfl⟩
    refine ⟨?_, ?_⟩ <;> simp [oneOr, stepP, pwO, setAll, *] <;> rfl
  · intro h1
    refine AW.seq ?_
    refine AW.region ?_
    refine AL.pure rfl rfl (by decide) (P_move rfl) ?_
    refine AL.pure rfl rfl (by decide) (P_nilCheck rfl) ?_
    refine AL.pure rfl rfl (by decide) (P_fieldAddr ty117 rfl ty3 rfl) ?_
    refine AL.pure rfl rfl (by decide) (P_load ty3 rfl rfl rfl rfl) ?_
    refine AL.pure rfl rfl (by decide) (P_eql rfl rfl) ?_
    refine AL.pure rfl rfl (by decide) (P_assign rfl) ?_
    refine AL.nil ?_
    refine Then.go ?_
    refine AW.condD _ rfl ?_ ?_
    · intro h2
      refine AW.seq ?_
      refine AW.region ?_
      refine AL.pure rfl rfl (by decide) (P_move rfl) ?_
      refine AL.pure rfl rfl (by decide) (P_nilCheck rfl) ?_
      refine AL.pure rfl rfl (by decide) (P_fieldAddr ty117 rfl ty4 rfl) ?_
      refine AL.eff0 rfl rfl (E_store ty4 rfl rfl rfl rfl rfl (Nat.le_of_ble_eq_true rfl)) ?_
      refine AL.nil ?_
      refine Then.go ?_
      refine AW.seq ?_
      refine AW.region ?_
      refine AL.pure rfl rfl (by decide) (P_assign rfl) ?_
      refine AL.pure rfl rfl (by decide) (P_assign rfl) ?_
      refine AL.nil ?_
      refine Then.go ?_
      refine AW.ret ?_
      refine InBlock.r ?_
      refine Then.r ?_
      refine ⟨(by exact .inr rfl), _, _, (.cons (.tmp rfl) (.cons (.tmp rfl) .nil)), (SubG.cons (l := 1) rfl SubG.nil), ?_, rfl, rfl⟩
      refine ⟨?_, ?_⟩ <;> simp [oneOr, stepP, pwO, setAll, *] <;> rfl
    · intro h2
      refine AW.skip ?_
      refine InBlock.go ?_
      refine Then.go ?_
      refine AW.seq ?_
      refine AW.seq ?_
      refine AW.region ?_
      refine AL.pure rfl rfl (by decide) (P_move rfl) ?_
      refine AL.pure rfl rfl (by decide) (P_nilCheck rfl) ?_
      refine AL.pure rfl rfl (by decide) (P_fieldAddr ty117 rfl ty3 rfl) ?_
      refine AL.pure rfl rfl (by decide) (P_load ty3 rfl rfl rfl rfl) ?_
      refine AL.pure rfl rfl (by decide) (P_gtr rfl rfl) ?_
      refine AL.nil ?_
      refine Then.go ?_
      refine AW.condD _ rfl ?_ ?_
      · intro h3
        refine AW.region ?_
        refine AL.pure rfl rfl (by decide) (P_move rfl) ?_
        refine AL.pure rfl rfl (by decide) (P_nilCheck rfl) ?_
        refine AL.pure rfl rfl (by decide) (P_fieldAddr ty117 rfl ty3 rfl) ?_
        refine AL.pure rfl rfl (by decide) (P_load ty3 rfl rfl rfl rfl) ?_
        refine AL.pure rfl rfl (by decide) (P_subN rfl rfl (by omega) (by omega)) ?_
        refine AL.pure rfl rfl (by decide) (P_nilCheck rfl) ?_
        refine AL.pure rfl rfl (by decide) (P_fieldAddr ty117 rfl ty3 rfl) ?_
        refine AL.eff0 rfl rfl (E_store ty3 rfl rfl rfl rfl rfl (Nat.le_of_ble_eq_true rfl)) ?_
        refine AL.nil ?_
        refine Then.go ?_
        refine AW.seq ?_
        refine AW.region ?_
        refine AL.pure rfl rfl (by decide) (P_move rfl) ?_
        refine AL.pure rfl rfl (by decide) (P_nilCheck rfl) ?_
        refine AL.pure rfl rfl (by decide) (P_fieldAddr ty117 rfl ty3 rfl) ?_
        refine AL.pure rfl rfl (by decide) (P_load ty3 rfl rfl rfl rfl) ?_
        refine AL.pure rfl rfl (by decide) (P_add rfl rfl) ?_
        refine AL.pure rfl rfl (by decide) (P_nilCheck rfl) ?_
        refine AL.pure rfl rfl (by decide) (P_fieldAddr ty117 rfl ty3 rfl) ?_
        refine AL.eff0 rfl rfl (E_store ty3 rfl rfl rfl rfl rfl (Nat.le_of_ble_eq_true rfl)) ?_
        refine AL.nil ?_
        refine Then.go ?_
        refine AW.seq ?_
        refine AW.region ?_
        refine AL.pure rfl rfl (by decide) (P_assign rfl) ?_
        refine AL.pure rfl rfl (by decide) (P_assign rfl) ?_
        refine AL.nil ?_
        refine Then.go ?_
        refine AW.ret ?_
        refine ⟨(by exact .inr rfl), _, _, (.cons (.tmp rfl) (.cons (.tmp rfl) .nil)), (SubG.cons (l := 1) rfl SubG.nil), ?_, rfl, rfl⟩
        refine ⟨?_, ?_⟩ <;> simp [oneOr, stepP, pwO, setAll, *] <;> rfl
      · intro h3
        refine AW.skip ?_
        refine Then.go ?_
        refine AW.seq ?_
        refine AW.region ?_
        refine AL.pure rfl rfl (by decide) (P_move rfl) ?_
        refine AL.pure rfl rfl (by decide) (P_nilCheck rfl) ?_
        refine AL.pure rfl rfl (by decide) (P_fieldAddr ty117 rfl ty3 rfl) ?_
        refine AL.pure rfl rfl (by decide) (P_load ty3 rfl rfl rfl rfl) ?_
        refine AL.pure rfl rfl (by decide) (P_add rfl rfl) ?_
        refine AL.pure rfl rfl (by decide) (P_nilCheck rfl) ?_
        refine AL.pure rfl rfl (by decide) (P_fieldAddr ty117 rfl ty3 rfl) ?_
        refine AL.eff0 rfl rfl (E_store ty3 rfl rfl rfl rfl rfl (Nat.le_of_ble_eq_true rfl)) ?_
        refine AL.nil ?_
        refine Then.go ?_
        refine AW.seq ?_
        refine AW.region ?_
        refine AL.pure rfl rfl (by decide) (P_assign rfl) ?_
        refine AL.pure rfl rfl (by decide) (P_assign rfl) ?_
        refine AL.nil ?_
        refine Then.go ?_
        refine AW.ret ?_
        refine ⟨(by exact .inr rfl), _, _, (.cons (.tmp rfl) (.cons (.tmp rfl) .nil)), (SubG.cons (l := 1) rfl SubG.nil), ?_, rfl, rfl⟩
        refine ⟨?_, ?_⟩ <;> simp [oneOr, stepP, pwO, setAll, *] <;> rfl
theorem C_power_Power_Mask (p : Pw) : ACalls Tryz.prog 170 [.ptr 1 0] ([(1, pwO p)]) ([]) (fun r G => r = .tr (b8 p.mask) ∧ G = [(1, pwO p)]) := by
  refine acalls_of_body 9 [1, 2] Tryz.func170 rfl (by kernel_rfl) Tryz.ntmps170 (Nat.le_of_ble_eq_true rfl) rfl ?_
  refine AW.seq ?_
  refine AW.region ?_
  refine AL.pure rfl rfl (by decide) (P_assign rfl) ?_
  refine AL.nil ?_
  refine Then.go ?_
  refine AW.seq ?_
  refine AW.seq ?_
  refine AW.region ?_
  refine AL.pure rfl rfl (by decide) (P_move rfl) ?_
  refine AL.pure rfl rfl (by decide) (P_eqlPN ty70 rfl rfl) ?_
  refine AL.nil ?_
  refine Then.go ?_
  refine AW.condF rfl ?_
  refine AW.skip ?_
  refine Then.go ?_
  refine AW.seq ?_
  refine AW.region ?_
  refine AL.pure rfl rfl (by decide) (P_move rfl) ?_
  refine AL.pure rfl rfl (by decide) (P_nilCheck rfl) ?_
  refine AL.pure rfl rfl (by decide) (P_fieldAddr ty117 rfl ty5 rfl) ?_
  refine AL.pure rfl rfl (by decide) (P_load ty5 rfl rfl rfl rfl) ?_
  refine AL.pure rfl rfl (by decide) (P_assign rfl) ?_
  refine AL.nil ?_
  refine Then.go ?_
  refine AW.ret ?_
  refine ⟨(by exact .inr rfl), _, _, (.cons (.tmp rfl) .nil), (SubG.cons (l := 1) rfl SubG.nil), ?_, rfl, rfl⟩
  exact ⟨rfl, rfl⟩
theorem C_power_Power_On (p : Pw) : ACalls Tryz.prog 35 [.ptr 1 0] ([(1, pwO p)]) ([]) (fun r G => r = .tup [] ∧ G = [(1, pwO { p with off := false, left := -1 })]) := by
  refine acalls_of_body 10 [1, 2] Tryz.func35 rfl (by kernel_rfl) Tryz.ntmps35 (Nat.le_of_ble_eq_true rfl) rfl ?_
  refine AW.seq ?_
  refine AW.region ?_
  refine AL.pure rfl rfl (by decide) (P_move rfl) ?_
  refine AL.pure rfl rfl (by decide) (P_neqPN ty70 rfl rfl) ?_
  refine AL.nil ?_
  refine Then.go ?_
  refine AW.condT rfl ?_
  refine AW.region ?_
  refine AL.pure rfl rfl (by decide) (P_move rfl) ?_
  refine AL.pure rfl rfl (by decide) (P_move rfl) ?_
  refine AL.pure rfl rfl (by decide) (P_nilCheck rfl) ?_
  refine AL.pure rfl rfl (by decide) (P_fieldAddr ty117 rfl ty4 rfl) ?_
  refine AL.eff0 rfl rfl (E_store ty4 rfl rfl rfl rfl rfl (Nat.le_of_ble_eq_true rfl)) ?_
  refine AL.pure rfl rfl (by decide) (P_nilCheck rfl) ?_
  refine AL.pure rfl rfl (by decide) (P_fieldAddr ty117 rfl ty3 rfl) ?_
  refine AL.eff0 rfl rfl (E_store ty3 rfl rfl rfl rfl rfl (Nat.le_of_ble_eq_true rfl)) ?_
  refine AL.nil ?_
  refine ⟨(by exact .inl rfl), _, _, .nil, (SubG.cons (l := 1) rfl SubG.nil), ?_, rfl, rfl⟩
  exact ⟨rfl, rfl⟩
theorem C_power_Power_Off (p : Pw) : ACalls Tryz.prog 34 [.ptr 1 0] ([(1, pwO p)]) ([]) (fun r G => r = vB p.off ∧ G = [(1, pwO p)]) := by
  refine acalls_of_body 11 [1, 2] Tryz.func34 rfl (by kernel_rfl) Tryz.ntmps34 (Nat.le_of_ble_eq_true rfl) rfl ?_
  refine AW.seq ?_
  refine AW.region ?_
  refine AL.pure rfl rfl (by decide) (P_assign rfl) ?_
  refine AL.nil ?_
  refine Then.go ?_
  refine AW.seq ?_
  refine AW.region ?_
  refine AL.pure rfl rfl (by decide) (P_move rfl) ?_
  refine AL.pure rfl rfl (by decide) (P_neqPN ty70 rfl rfl) ?_
  refine AL.pure rfl rfl (by decide) (P_move rfl) ?_
  refine AL.pure rfl rfl (by decide) (P_move rfl) ?_
  refine AL.pure rfl rfl (by decide) (P_nilCheck rfl) ?_
  refine AL.pure rfl rfl (by decide) (P_fieldAddr ty117 rfl ty4 rfl) ?_
  refine AL.pure rfl rfl (by decide) (P_load ty4 rfl rfl rfl rfl) ?_
  refine AL.pure rfl rfl (by decide) (P_pickT rfl rfl) ?_
  refine AL.pure rfl rfl (by decide) (P_assign rfl) ?_
  refine AL.nil ?_
  refine Then.go ?_
  refine AW.ret ?_
  refine ⟨(by exact .inr rfl), _, _, (.cons (.tmp rfl) .nil), (SubG.cons (l := 1) rfl SubG.nil), ?_, rfl, rfl⟩
  exact ⟨rfl, rfl⟩
end Go.Proofs.YtmakeajjgjnldaaGreatDoor
