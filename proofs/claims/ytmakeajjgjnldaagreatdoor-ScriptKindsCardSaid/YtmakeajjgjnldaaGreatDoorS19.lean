/- Walks, part 19: the calls by their numbers. -/
import Derived.Test.YtmakeajjgjnldaaGreatDoorS18
set_option linter.unusedVariables false
set_option linter.unusedSimpArgs false
set_option maxRecDepth 100000
namespace Go.Proofs.YtmakeajjgjnldaaGreatDoor
open Go Go.Ab

/-- The calls: which operation lays which, its number, its function. -/
def callsL : List (Nat × Int × Nat) := [(4, 1, 82), (8, 2, 83), (12, 3, 84), (16, 4, 85), (20, 5, 86), (24, 6, 87),
  (28, 7, 88), (32, 8, 89), (36, 9, 90), (40, 10, 91), (44, 11, 92), (48, 12, 93), (52, 13, 94),
  (56, 14, 95), (60, 15, 96), (64, 16, 97), (68, 17, 98)]
def callsI : List Ins := callsL.map fun p => ⟨p.1, k1 p.2.1, .fn p.2.2 [.ptr 80 0] []⟩
def callsE : List (Value × AV) := callsL.map fun p => (k1 p.2.1, .fn p.2.2 [.ptr 80 0] [])
theorem k1_inj {a b : Int} (h : k1 a = k1 b) : a = b := by
  simp only [k1, Value.agg.injEq, Array.mk.injEq, List.cons.injEq, Value.int.injEq, true_and, and_true] at h
  exact h
theorem nodup_k1 : ∀ {l : List Int}, l.Nodup → (l.map k1).Nodup
  | [], _ => List.nodup_nil
  | x :: l, h => by
    rw [List.nodup_cons] at h
    rw [List.map_cons, List.nodup_cons]
    exact ⟨fun hm => by obtain ⟨y, hy, e⟩ := List.mem_map.1 hm; exact h.1 (k1_inj e ▸ hy), nodup_k1 h.2⟩
theorem callsI_nd : (callsI.map (·.k)).Nodup := by
  have : callsI.map (·.k) = (callsL.map (·.2.1)).map k1 := rfl
  rw [this]; exact nodup_k1 (by decide)
theorem callsE_nd : (callsE.map (·.1)).Nodup := by
  have : callsE.map (·.1) = (callsL.map (·.2.1)).map k1 := rfl
  rw [this]; exact nodup_k1 (by decide)
theorem callsL_in : ∀ p ∈ callsL, in64 p.2.1 := fun p hp => by
  have h : ∀ p ∈ callsL, 1 ≤ p.2.1 ∧ p.2.1 ≤ 17 := by decide
  have := h p hp
  constructor <;> omega

theorem tz40 : TyZ Tryz.prog 40 (.nilFunc) := ⟨by kernel_rfl⟩
abbrev fs121 : Array Field := #[⟨ "no", 3, 0, false, "", "garret/vfs", 0⟩]
theorem tf121 : FldIs Tryz.prog fs121 [(0, 1)] := ⟨by kernel_rfl⟩
theorem ty122 : TyIs Tryz.prog 122 (.struct fs121) 1 := ⟨Tryz.underlying122, by kernel_rfl⟩
theorem tz122 : TyZ Tryz.prog 122 (.agg #[.int .i64 0]) := ⟨by kernel_rfl⟩
theorem mi119 : MapIs Tryz.prog 119 122 40 := ⟨Tryz.underlying119, deep_law (m := 5) (by decide) (by kernel_rfl) (by kernel_rfl) (by kernel_rfl)⟩
theorem kf122 : KeyF Tryz.prog 122 k1 in64 := keyF1 Tryz.underlying122 (by kernel_rfl) (by kernel_rfl) rfl rfl Tryz.underlying3 (by kernel_rfl) (Nat.le_of_ble_eq_true (by kernel_rfl))

theorem callsI_key : ∀ q ∈ callsI, ∃ z, keyOf Tryz.prog 122 q.k = some z := by
  intro q hq
  obtain ⟨p, hp, rfl⟩ := List.mem_map.1 hq
  exact (kf122).key _ (callsL_in p hp)
theorem callsE_key : ∀ q ∈ callsE, ∃ z, keyOf Tryz.prog 122 q.1 = some z := by
  intro q hq
  obtain ⟨p, hp, rfl⟩ := List.mem_map.1 hq
  exact (kf122).key _ (callsL_in p hp)

theorem C_vfs_System_calls  : ACalls Tryz.prog 56 [.ptr 80 0] ([]) ([]) (fun r G => r = .map 500 ∧ G = [(500, .mapS callsE)]) := by
  refine acalls_of_body 56 [80] Tryz.func56 rfl (by kernel_rfl) Tryz.ntmps56 (Nat.le_of_ble_eq_true rfl) rfl ?_
  refine AW.seq ?_
  refine AW.region ?_
  refine AL.pure rfl rfl (by decide) (P_assign rfl) ?_
  refine AL.nil ?_
  refine Then.go ?_
  refine AW.seq ?_
  refine AO.start mixed ?_
  refine AO.take 1 rfl rfl rfl (by decide) (by kernel_rfl) (by kernel_rfl) (by kernel_rfl) (fun _ _ _ h => by obtain ⟨h1, _⟩ := h; rcases h1 with h1 | h1 <;> cases h1) (W_build ty122 tz122 tf121 rfl) ?_
  refine AO.take 2 rfl rfl rfl (by decide) (by kernel_rfl) (by kernel_rfl) (by kernel_rfl) (fun _ _ _ h => by obtain ⟨h1, _⟩ := h; rcases h1 with h1 | h1 <;> cases h1) (W_move rfl) ?_
  refine AO.take 3 rfl rfl rfl (by decide) (by kernel_rfl) (by kernel_rfl) (by kernel_rfl) (fun _ _ _ h => by obtain ⟨h1, _⟩ := h; rcases h1 with h1 | h1 <;> cases h1) (W_makeFunc rfl rfl) ?_
  refine AO.take 5 rfl rfl rfl (by decide) (by kernel_rfl) (by kernel_rfl) (by kernel_rfl) (fun _ _ _ h => by obtain ⟨h1, _⟩ := h; rcases h1 with h1 | h1 <;> cases h1) (W_build ty122 tz122 tf121 rfl) ?_
  refine AO.take 6 rfl rfl rfl (by decide) (by kernel_rfl) (by kernel_rfl) (by kernel_rfl) (fun _ _ _ h => by obtain ⟨h1, _⟩ := h; rcases h1 with h1 | h1 <;> cases h1) (W_move rfl) ?_
  refine AO.take 7 rfl rfl rfl (by decide) (by kernel_rfl) (by kernel_rfl) (by kernel_rfl) (fun _ _ _ h => by obtain ⟨h1, _⟩ := h; rcases h1 with h1 | h1 <;> cases h1) (W_makeFunc rfl rfl) ?_
  refine AO.take 9 rfl rfl rfl (by decide) (by kernel_rfl) (by kernel_rfl) (by kernel_rfl) (fun _ _ _ h => by obtain ⟨h1, _⟩ := h; rcases h1 with h1 | h1 <;> cases h1) (W_build ty122 tz122 tf121 rfl) ?_
  refine AO.take 10 rfl rfl rfl (by decide) (by kernel_rfl) (by kernel_rfl) (by kernel_rfl) (fun _ _ _ h => by obtain ⟨h1, _⟩ := h; rcases h1 with h1 | h1 <;> cases h1) (W_move rfl) ?_
  refine AO.take 11 rfl rfl rfl (by decide) (by kernel_rfl) (by kernel_rfl) (by kernel_rfl) (fun _ _ _ h => by obtain ⟨h1, _⟩ := h; rcases h1 with h1 | h1 <;> cases h1) (W_makeFunc rfl rfl) ?_
  refine AO.take 13 rfl rfl rfl (by decide) (by kernel_rfl) (by kernel_rfl) (by kernel_rfl) (fun _ _ _ h => by obtain ⟨h1, _⟩ := h; rcases h1 with h1 | h1 <;> cases h1) (W_build ty122 tz122 tf121 rfl) ?_
  refine AO.take 14 rfl rfl rfl (by decide) (by kernel_rfl) (by kernel_rfl) (by kernel_rfl) (fun _ _ _ h => by obtain ⟨h1, _⟩ := h; rcases h1 with h1 | h1 <;> cases h1) (W_move rfl) ?_
  refine AO.take 15 rfl rfl rfl (by decide) (by kernel_rfl) (by kernel_rfl) (by kernel_rfl) (fun _ _ _ h => by obtain ⟨h1, _⟩ := h; rcases h1 with h1 | h1 <;> cases h1) (W_makeFunc rfl rfl) ?_
  refine AO.take 17 rfl rfl rfl (by decide) (by kernel_rfl) (by kernel_rfl) (by kernel_rfl) (fun _ _ _ h => by obtain ⟨h1, _⟩ := h; rcases h1 with h1 | h1 <;> cases h1) (W_build ty122 tz122 tf121 rfl) ?_
  refine AO.take 18 rfl rfl rfl (by decide) (by kernel_rfl) (by kernel_rfl) (by kernel_rfl) (fun _ _ _ h => by obtain ⟨h1, _⟩ := h; rcases h1 with h1 | h1 <;> cases h1) (W_move rfl) ?_
  refine AO.take 19 rfl rfl rfl (by decide) (by kernel_rfl) (by kernel_rfl) (by kernel_rfl) (fun _ _ _ h => by obtain ⟨h1, _⟩ := h; rcases h1 with h1 | h1 <;> cases h1) (W_makeFunc rfl rfl) ?_
  refine AO.take 21 rfl rfl rfl (by decide) (by kernel_rfl) (by kernel_rfl) (by kernel_rfl) (fun _ _ _ h => by obtain ⟨h1, _⟩ := h; rcases h1 with h1 | h1 <;> cases h1) (W_build ty122 tz122 tf121 rfl) ?_
  refine AO.take 22 rfl rfl rfl (by decide) (by kernel_rfl) (by kernel_rfl) (by kernel_rfl) (fun _ _ _ h => by obtain ⟨h1, _⟩ := h; rcases h1 with h1 | h1 <;> cases h1) (W_move rfl) ?_
  refine AO.take 23 rfl rfl rfl (by decide) (by kernel_rfl) (by kernel_rfl) (by kernel_rfl) (fun _ _ _ h => by obtain ⟨h1, _⟩ := h; rcases h1 with h1 | h1 <;> cases h1) (W_makeFunc rfl rfl) ?_
  refine AO.take 25 rfl rfl rfl (by decide) (by kernel_rfl) (by kernel_rfl) (by kernel_rfl) (fun _ _ _ h => by obtain ⟨h1, _⟩ := h; rcases h1 with h1 | h1 <;> cases h1) (W_build ty122 tz122 tf121 rfl) ?_
  refine AO.take 26 rfl rfl rfl (by decide) (by kernel_rfl) (by kernel_rfl) (by kernel_rfl) (fun _ _ _ h => by obtain ⟨h1, _⟩ := h; rcases h1 with h1 | h1 <;> cases h1) (W_move rfl) ?_
  refine AO.take 27 rfl rfl rfl (by decide) (by kernel_rfl) (by kernel_rfl) (by kernel_rfl) (fun _ _ _ h => by obtain ⟨h1, _⟩ := h; rcases h1 with h1 | h1 <;> cases h1) (W_makeFunc rfl rfl) ?_
  refine AO.take 29 rfl rfl rfl (by decide) (by kernel_rfl) (by kernel_rfl) (by kernel_rfl) (fun _ _ _ h => by obtain ⟨h1, _⟩ := h; rcases h1 with h1 | h1 <;> cases h1) (W_build ty122 tz122 tf121 rfl) ?_
  refine AO.take 30 rfl rfl rfl (by decide) (by kernel_rfl) (by kernel_rfl) (by kernel_rfl) (fun _ _ _ h => by obtain ⟨h1, _⟩ := h; rcases h1 with h1 | h1 <;> cases h1) (W_move rfl) ?_
  refine AO.take 31 rfl rfl rfl (by decide) (by kernel_rfl) (by kernel_rfl) (by kernel_rfl) (fun _ _ _ h => by obtain ⟨h1, _⟩ := h; rcases h1 with h1 | h1 <;> cases h1) (W_makeFunc rfl rfl) ?_
  refine AO.take 33 rfl rfl rfl (by decide) (by kernel_rfl) (by kernel_rfl) (by kernel_rfl) (fun _ _ _ h => by obtain ⟨h1, _⟩ := h; rcases h1 with h1 | h1 <;> cases h1) (W_build ty122 tz122 tf121 rfl) ?_
  refine AO.take 34 rfl rfl rfl (by decide) (by kernel_rfl) (by kernel_rfl) (by kernel_rfl) (fun _ _ _ h => by obtain ⟨h1, _⟩ := h; rcases h1 with h1 | h1 <;> cases h1) (W_move rfl) ?_
  refine AO.take 35 rfl rfl rfl (by decide) (by kernel_rfl) (by kernel_rfl) (by kernel_rfl) (fun _ _ _ h => by obtain ⟨h1, _⟩ := h; rcases h1 with h1 | h1 <;> cases h1) (W_makeFunc rfl rfl) ?_
  refine AO.take 37 rfl rfl rfl (by decide) (by kernel_rfl) (by kernel_rfl) (by kernel_rfl) (fun _ _ _ h => by obtain ⟨h1, _⟩ := h; rcases h1 with h1 | h1 <;> cases h1) (W_build ty122 tz122 tf121 rfl) ?_
  refine AO.take 38 rfl rfl rfl (by decide) (by kernel_rfl) (by kernel_rfl) (by kernel_rfl) (fun _ _ _ h => by obtain ⟨h1, _⟩ := h; rcases h1 with h1 | h1 <;> cases h1) (W_move rfl) ?_
  refine AO.take 39 rfl rfl rfl (by decide) (by kernel_rfl) (by kernel_rfl) (by kernel_rfl) (fun _ _ _ h => by obtain ⟨h1, _⟩ := h; rcases h1 with h1 | h1 <;> cases h1) (W_makeFunc rfl rfl) ?_
  refine AO.take 41 rfl rfl rfl (by decide) (by kernel_rfl) (by kernel_rfl) (by kernel_rfl) (fun _ _ _ h => by obtain ⟨h1, _⟩ := h; rcases h1 with h1 | h1 <;> cases h1) (W_build ty122 tz122 tf121 rfl) ?_
  refine AO.take 42 rfl rfl rfl (by decide) (by kernel_rfl) (by kernel_rfl) (by kernel_rfl) (fun _ _ _ h => by obtain ⟨h1, _⟩ := h; rcases h1 with h1 | h1 <;> cases h1) (W_move rfl) ?_
  refine AO.take 43 rfl rfl rfl (by decide) (by kernel_rfl) (by kernel_rfl) (by kernel_rfl) (fun _ _ _ h => by obtain ⟨h1, _⟩ := h; rcases h1 with h1 | h1 <;> cases h1) (W_makeFunc rfl rfl) ?_
  refine AO.take 45 rfl rfl rfl (by decide) (by kernel_rfl) (by kernel_rfl) (by kernel_rfl) (fun _ _ _ h => by obtain ⟨h1, _⟩ := h; rcases h1 with h1 | h1 <;> cases h1) (W_build ty122 tz122 tf121 rfl) ?_
  refine AO.take 46 rfl rfl rfl (by decide) (by kernel_rfl) (by kernel_rfl) (by kernel_rfl) (fun _ _ _ h => by obtain ⟨h1, _⟩ := h; rcases h1 with h1 | h1 <;> cases h1) (W_move rfl) ?_
  refine AO.take 47 rfl rfl rfl (by decide) (by kernel_rfl) (by kernel_rfl) (by kernel_rfl) (fun _ _ _ h => by obtain ⟨h1, _⟩ := h; rcases h1 with h1 | h1 <;> cases h1) (W_makeFunc rfl rfl) ?_
  refine AO.take 49 rfl rfl rfl (by decide) (by kernel_rfl) (by kernel_rfl) (by kernel_rfl) (fun _ _ _ h => by obtain ⟨h1, _⟩ := h; rcases h1 with h1 | h1 <;> cases h1) (W_build ty122 tz122 tf121 rfl) ?_
  refine AO.take 50 rfl rfl rfl (by decide) (by kernel_rfl) (by kernel_rfl) (by kernel_rfl) (fun _ _ _ h => by obtain ⟨h1, _⟩ := h; rcases h1 with h1 | h1 <;> cases h1) (W_move rfl) ?_
  refine AO.take 51 rfl rfl rfl (by decide) (by kernel_rfl) (by kernel_rfl) (by kernel_rfl) (fun _ _ _ h => by obtain ⟨h1, _⟩ := h; rcases h1 with h1 | h1 <;> cases h1) (W_makeFunc rfl rfl) ?_
  refine AO.take 53 rfl rfl rfl (by decide) (by kernel_rfl) (by kernel_rfl) (by kernel_rfl) (fun _ _ _ h => by obtain ⟨h1, _⟩ := h; rcases h1 with h1 | h1 <;> cases h1) (W_build ty122 tz122 tf121 rfl) ?_
  refine AO.take 54 rfl rfl rfl (by decide) (by kernel_rfl) (by kernel_rfl) (by kernel_rfl) (fun _ _ _ h => by obtain ⟨h1, _⟩ := h; rcases h1 with h1 | h1 <;> cases h1) (W_move rfl) ?_
  refine AO.take 55 rfl rfl rfl (by decide) (by kernel_rfl) (by kernel_rfl) (by kernel_rfl) (fun _ _ _ h => by obtain ⟨h1, _⟩ := h; rcases h1 with h1 | h1 <;> cases h1) (W_makeFunc rfl rfl) ?_
  refine AO.take 57 rfl rfl rfl (by decide) (by kernel_rfl) (by kernel_rfl) (by kernel_rfl) (fun _ _ _ h => by obtain ⟨h1, _⟩ := h; rcases h1 with h1 | h1 <;> cases h1) (W_build ty122 tz122 tf121 rfl) ?_
  refine AO.take 58 rfl rfl rfl (by decide) (by kernel_rfl) (by kernel_rfl) (by kernel_rfl) (fun _ _ _ h => by obtain ⟨h1, _⟩ := h; rcases h1 with h1 | h1 <;> cases h1) (W_move rfl) ?_
  refine AO.take 59 rfl rfl rfl (by decide) (by kernel_rfl) (by kernel_rfl) (by kernel_rfl) (fun _ _ _ h => by obtain ⟨h1, _⟩ := h; rcases h1 with h1 | h1 <;> cases h1) (W_makeFunc rfl rfl) ?_
  refine AO.take 61 rfl rfl rfl (by decide) (by kernel_rfl) (by kernel_rfl) (by kernel_rfl) (fun _ _ _ h => by obtain ⟨h1, _⟩ := h; rcases h1 with h1 | h1 <;> cases h1) (W_build ty122 tz122 tf121 rfl) ?_
  refine AO.take 62 rfl rfl rfl (by decide) (by kernel_rfl) (by kernel_rfl) (by kernel_rfl) (fun _ _ _ h => by obtain ⟨h1, _⟩ := h; rcases h1 with h1 | h1 <;> cases h1) (W_move rfl) ?_
  refine AO.take 63 rfl rfl rfl (by decide) (by kernel_rfl) (by kernel_rfl) (by kernel_rfl) (fun _ _ _ h => by obtain ⟨h1, _⟩ := h; rcases h1 with h1 | h1 <;> cases h1) (W_makeFunc rfl rfl) ?_
  refine AO.take 65 rfl rfl rfl (by decide) (by kernel_rfl) (by kernel_rfl) (by kernel_rfl) (fun _ _ _ h => by obtain ⟨h1, _⟩ := h; rcases h1 with h1 | h1 <;> cases h1) (W_build ty122 tz122 tf121 rfl) ?_
  refine AO.take 66 rfl rfl rfl (by decide) (by kernel_rfl) (by kernel_rfl) (by kernel_rfl) (fun _ _ _ h => by obtain ⟨h1, _⟩ := h; rcases h1 with h1 | h1 <;> cases h1) (W_move rfl) ?_
  refine AO.take 67 rfl rfl rfl (by decide) (by kernel_rfl) (by kernel_rfl) (by kernel_rfl) (fun _ _ _ h => by obtain ⟨h1, _⟩ := h; rcases h1 with h1 | h1 <;> cases h1) (W_makeFunc rfl rfl) ?_
  refine AO.one 0 (by kernel_rfl) rfl ?_
  refine AL.eff rfl rfl (by decide) (E_makeMap 500 rfl rfl rfl) ?_
  refine AL.mapTS 500 rfl ?_
  refine AL.nil (AOK.go ?_)
  refine AO.inserts (f := 2) (lb := 500) (callsI) mi119 ⟨⟨_, _, _, _, _, _, rfl, rfl, rfl, fun S => evK1 S rfl⟩, ⟨_, _, _, _, _, _, rfl, rfl, rfl, fun S => evK1 S rfl⟩, ⟨_, _, _, _, _, _, rfl, rfl, rfl, fun S => evK1 S rfl⟩, ⟨_, _, _, _, _, _, rfl, rfl, rfl, fun S => evK1 S rfl⟩, ⟨_, _, _, _, _, _, rfl, rfl, rfl, fun S => evK1 S rfl⟩, ⟨_, _, _, _, _, _, rfl, rfl, rfl, fun S => evK1 S rfl⟩, ⟨_, _, _, _, _, _, rfl, rfl, rfl, fun S => evK1 S rfl⟩, ⟨_, _, _, _, _, _, rfl, rfl, rfl, fun S => evK1 S rfl⟩, ⟨_, _, _, _, _, _, rfl, rfl, rfl, fun S => evK1 S rfl⟩, ⟨_, _, _, _, _, _, rfl, rfl, rfl, fun S => evK1 S rfl⟩, ⟨_, _, _, _, _, _, rfl, rfl, rfl, fun S => evK1 S rfl⟩, ⟨_, _, _, _, _, _, rfl, rfl, rfl, fun S => evK1 S rfl⟩, ⟨_, _, _, _, _, _, rfl, rfl, rfl, fun S => evK1 S rfl⟩, ⟨_, _, _, _, _, _, rfl, rfl, rfl, fun S => evK1 S rfl⟩, ⟨_, _, _, _, _, _, rfl, rfl, rfl, fun S => evK1 S rfl⟩, ⟨_, _, _, _, _, _, rfl, rfl, rfl, fun S => evK1 S rfl⟩, ⟨_, _, _, _, _, _, rfl, rfl, rfl, fun S => evK1 S rfl⟩, trivial⟩ callsI_key callsI_nd (by decide) (by kernel_rfl) rfl ?_
  refine AO.one 69 (by kernel_rfl) rfl ?_
  refine AL.pure rfl rfl (by decide) (P_move rfl) ?_
  refine AL.nil (AOK.go ?_)
  refine AO.one 70 (by kernel_rfl) rfl ?_
  refine AL.pure rfl rfl (by decide) (P_assign rfl) ?_
  refine AL.nil (AOK.go ?_)
  refine AO.done_ (by kernel_rfl) ?_
  refine Then.go ?_
  refine AW.ret ?_
  refine ⟨(by exact .inr rfl), _, _, (.cons (.tmp rfl) .nil), (SubG.cons (l := 500) rfl SubG.nil), ?_, rfl, rfl⟩
  exact ⟨rfl, rfl⟩
end Go.Proofs.YtmakeajjgjnldaaGreatDoor
