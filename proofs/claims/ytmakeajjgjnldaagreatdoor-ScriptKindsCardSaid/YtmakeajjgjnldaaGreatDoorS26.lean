/- Walks, part 26: ScriptKinds. -/
import Derived.Test.YtmakeajjgjnldaaGreatDoorS25
set_option linter.unusedVariables false
set_option linter.unusedSimpArgs false
set_option maxRecDepth 100000
namespace Go.Proofs.YtmakeajjgjnldaaGreatDoor
open Go Go.Ab

def askB : List UInt8 := [13, 7, 0, 0, 0, 0]
def askC : Call := callN (ltrOf askB)
theorem ask_dec : decodeN askB = [askC] := rfl
theorem slash_split : splitN ⟨#[47]⟩ = some [] := by kernel_rfl
theorem ask_ok : AsksRoot askC := ⟨rfl, slash_split, by show (1 : Nat) ≤ _; decide, rfl⟩
theorem itoa_zero : Lib.itoa 0 = [48] := by
  have := Lib.itoa_nonneg 0
  rw [show ((0 : Nat) : Int) = 0 from rfl] at this
  rw [this, Lib.decDigits_one (by decide)]; rfl
theorem root_text : textT [rootA] = [48, 32, 48, 32, 48, 10] := by
  have e : headT rootA = [48, 32, 48, 32, 48] := by
    have h : headT rootA = Lib.itoa 0 ++ 32 :: Lib.itoa 0 ++ 32 :: Lib.itoa 0 := rfl
    rw [h, itoa_zero]; rfl
  show headT rootA ++ [] ++ [10] ++ [] = _
  rw [e]; rfl
theorem root_small : ∀ a ∈ [rootA], AnsSm a := by
  intro a ha
  rw [List.mem_singleton] at ha
  subst ha
  exact ⟨by decide, by decide, by decide, by decide⟩
/-- A call as bytes say it. -/
structure CallOk (x : Call) : Prop where
  k0 : 0 ≤ x.kind
  k1 : x.kind ≤ 17
  f0 : 0 ≤ x.fd
  f1 : x.fd ≤ 3
  n0 : 0 ≤ x.n
  n1 : x.n ≤ 2040
  a0 : 0 ≤ x.at_
  a1 : x.at_ ≤ 1020
  g0 : 0 ≤ x.flags
  g1 : x.flags ≤ 63
  d1 : x.data.length ≤ 39
  d2 : ∀ k, k < x.data.length → x.data.getD k 0 = x.data.getD 0 0
  p0 : -1 ≤ x.power
  p1 : x.power ≤ 255
  w0 : 1 ≤ x.path.size
  w1 : atB x.path 0 = 47
theorem ways_ok : ∀ w ∈ waysL, 1 ≤ w.size ∧ atB w 0 = 47 := by decide
theorem callN_ok (x : Ltr) : CallOk (callN x) := by
  have bp := x.p.toNat_lt; have bs_ := x.s.toNat_lt; have bt := x.t.toNat_lt; have bu := x.u.toNat_lt
  have hw : waysL.getD (x.q.toNat % 8) emS ∈ waysL := getD_mem emS (Nat.mod_lt _ (by decide))
  obtain ⟨w0, w1⟩ := ways_ok _ hw
  refine ⟨?_, ?_, ?_, ?_, ?_, ?_, ?_, ?_, ?_, ?_, ?_, ?_, ?_, ?_, w0, w1⟩
  all_goals simp only [callN]
  any_goals omega
  try any_goals (split <;> omega)
  · simp only [List.length_replicate]; omega
  · intro k hk
    rw [List.length_replicate] at hk
    simp [List.getD, hk, show 0 < x.u.toNat % 40 by omega]
theorem decodeL_ok : ∀ (k : Nat) (b : List UInt8), ∀ c ∈ decodeL k b, CallOk c
  | 0, b, c, h => by simp [decodeL] at h
  | k + 1, b, c, h => by
    rw [decodeL] at h
    split at h
    · simp at h
    · rcases List.mem_cons.1 h with rfl | h
      · exact callN_ok _
      · exact decodeL_ok k _ c h
theorem decodeL_length : ∀ (k : Nat) (b : List UInt8), (decodeL k b).length = min k ((b.length + 5) / 6)
  | 0, b => by simp [decodeL]
  | k + 1, b => by
    rw [decodeL]
    split
    · next h => subst h; simp
    · next h =>
      have : 0 < b.length := List.length_pos_iff.2 h
      rw [List.length_cons, decodeL_length k, List.length_drop]; omega



theorem C_garretlaw28_awake  : ACalls Tryz.prog 19 [] ([]) ([]) (fun r G => r = vB true ∧ G = []) := by
  refine acalls_of_body 43 [] Tryz.func19 rfl (by kernel_rfl) Tryz.ntmps19 (Nat.le_of_ble_eq_true rfl) rfl ?_
  refine AW.seq ?_
  refine AW.region ?_
  refine AL.pure rfl rfl (by decide) (P_assign rfl) ?_
  refine AL.nil ?_
  refine Then.go ?_
  refine AW.seq ?_
  refine AW.region ?_
  refine AL.mk rfl rfl (by decide) (E_lit ty26 ty5 tz5 rfl rfl) ?_
  refine AL.call (C_script_Decode askB (by decide) ) _ [] [] _ rfl (by decide) rfl rfl rfl SubG.nil ?_
  rintro _ _ ⟨rfl, rfl⟩
  refine ⟨rfl, rfl, ?_⟩
  refine AL.recast 5 (.tr (.sl 10 ([askC].map Call.t))) rfl (by rw [ask_dec]) ?_
  refine AL.pure rfl rfl (by decide) (P_assign rfl) ?_
  refine AL.nil ?_
  refine Then.go ?_
  refine AW.seq ?_
  refine AW.region ?_
  refine AL.call (C_garretplay_Wide ) _ [] [] _ rfl (by decide) rfl rfl rfl SubG.nil ?_
  rintro _ _ ⟨rfl, rfl⟩
  refine ⟨rfl, rfl, ?_⟩
  refine AL.pure rfl rfl (by decide) (P_move rfl) ?_
  refine AL.call (ACalls.argR (.same (.nilS (.same .nil))) (C_Run_root wideG wide_right [askC] (fun c hc => by rw [List.mem_singleton] at hc; rw [hc]; exact ask_ok) (by decide) ) ) _ [] [] _ rfl (by decide) rfl rfl rfl SubG.nil ?_
  rintro _ _ ⟨rfl, rfl⟩
  refine ⟨rfl, rfl, ?_⟩
  refine AL.recast 9 (.tup [.tr (.sl 12 ([rootA].map Ans.t)), vI .i64 0]) rfl rfl ?_
  refine AL.pure rfl rfl (by decide) (P_move rfl) ?_
  refine AL.pure rfl rfl (by decide) (P_extract rfl rfl) ?_
  refine AL.pure rfl rfl (by decide) (P_extract rfl rfl) ?_
  refine AL.pure rfl rfl (by decide) (P_assign rfl) ?_
  refine AL.pure rfl rfl (by decide) (P_assign rfl) ?_
  refine AL.nil ?_
  refine Then.go ?_
  refine AW.seq ?_
  refine AW.region ?_
  refine AL.pure rfl rfl (by decide) (P_move rfl) ?_
  refine AL_lenM rfl rfl (by decide) ty59 rfl fun h1 => ?_
  try simp only [bs_length, List.length_map, List.length_append, List.length_replicate, List.length_cons, List.length_nil, List.length_take, List.length_set] at h1
  refine AL.pure rfl rfl (by decide) (P_eql rfl rfl) ?_
  refine AL.pure rfl rfl (by decide) (P_move rfl) ?_
  refine AL.pure rfl rfl (by decide) (P_move rfl) ?_
  refine AL.pure rfl rfl (by decide) (P_indexSl (j := 0) ty59 ty42 rfl rfl (by rfl) (by rfl)) ?_
  refine AL.pure rfl rfl (by decide) (P_fieldAddrR ty42 rfl ty3 rfl) ?_
  refine AL.pure rfl rfl (by decide) (P_loadR ty3 rfl rfl rfl) ?_
  refine AL.pure rfl rfl (by decide) (P_eql rfl rfl) ?_
  refine AL.pure rfl rfl (by decide) (P_pickT rfl rfl) ?_
  refine AL.pure rfl rfl (by decide) (P_move rfl) ?_
  refine AL.pure rfl rfl (by decide) (P_move rfl) ?_
  refine AL.pure rfl rfl (by decide) (P_indexSl (j := 0) ty59 ty42 rfl rfl (by rfl) (by rfl)) ?_
  refine AL.pure rfl rfl (by decide) (P_fieldAddrR ty42 rfl ty9 rfl) ?_
  refine AL.pure rfl rfl (by decide) (P_loadR ty9 rfl rfl rfl) ?_
  refine AL.pure rfl rfl (by decide) (P_seqD rfl rfl) ?_
  refine AL.recast 27 (vB true) rfl (vB_congr (decide_eq_true rfl)) ?_
  refine AL.pure rfl rfl (by decide) (P_pickT rfl rfl) ?_
  refine AL.pure rfl rfl (by decide) (P_move rfl) ?_
  refine AL.pure rfl rfl (by decide) (P_move rfl) ?_
  refine AL.pure rfl rfl (by decide) (P_eql rfl rfl) ?_
  refine AL.pure rfl rfl (by decide) (P_pickT rfl rfl) ?_
  refine AL.pure rfl rfl (by decide) (P_move rfl) ?_
  refine AL.pure rfl rfl (by decide) (P_move rfl) ?_
  refine AL_lenM rfl rfl (by decide) ty64 rfl fun h2 => ?_
  try simp only [bs_length, List.length_map, List.length_append, List.length_replicate, List.length_cons, List.length_nil, List.length_take, List.length_set] at h2
  refine AL.pure rfl rfl (by decide) (P_eql rfl rfl) ?_
  refine AL.pure rfl rfl (by decide) (P_pickT rfl rfl) ?_
  refine AL.pure rfl rfl (by decide) (P_move rfl) ?_
  refine AL.pure rfl rfl (by decide) (P_move rfl) ?_
  refine AL.call (C_Text_small [rootA] (by simp) (by decide) (by rw [root_text]; decide) root_small ) _ [] [] _ rfl (by decide) rfl rfl rfl SubG.nil ?_
  rintro _ _ ⟨rfl, rfl⟩
  refine ⟨rfl, rfl, ?_⟩
  refine AL.pure rfl rfl (by decide) (P_seqD rfl rfl) ?_
  refine AL.recast 41 (vB true) rfl (vB_congr (decide_eq_true (by rw [root_text]; rfl))) ?_
  refine AL.pure rfl rfl (by decide) (P_pickT rfl rfl) ?_
  refine AL.pure rfl rfl (by decide) (P_assign rfl) ?_
  refine AL.nil ?_
  refine Then.go ?_
  refine AW.ret ?_
  refine ⟨(by exact .inr rfl), _, _, (.cons (.tmp rfl) .nil), SubG.nil, ?_, rfl, rfl⟩
  exact ⟨rfl, rfl⟩
theorem C_garretlaw28_ScriptKinds (b : List UInt8) : ACalls Tryz.prog 7 [sB b] ([]) ([]) (fun r G => r = vB true ∧ G = []) := by
  refine acalls_of_body 122 [] Tryz.func7 rfl (by kernel_rfl) Tryz.ntmps7 (Nat.le_of_ble_eq_true rfl) rfl ?_
  refine AW.seq ?_
  refine AW.region ?_
  refine AL.pure rfl rfl (by decide) (P_assign rfl) ?_
  refine AL.nil ?_
  refine Then.go ?_
  refine AW.seq ?_
  refine AW.seq ?_
  refine AW.region ?_
  refine AL.pure rfl rfl (by decide) (P_move rfl) ?_
  refine AL_lenM rfl rfl (by decide) ty26 rfl fun h1 => ?_
  try simp only [bs_length, List.length_map, List.length_append, List.length_replicate, List.length_cons, List.length_nil, List.length_take, List.length_set] at h1
  refine AL.pure rfl rfl (by decide) (P_gtr rfl rfl) ?_
  refine AL.nil ?_
  refine Then.go ?_
  refine AW.condD _ rfl ?_ ?_
  · intro h2
    refine AW.seq ?_
    refine AW.region ?_
    refine AL.call (C_garretlaw28_awake ) _ [] [] _ rfl (by decide) rfl rfl rfl SubG.nil ?_
    rintro _ _ ⟨rfl, rfl⟩
    refine ⟨rfl, rfl, ?_⟩
    refine AL.pure rfl rfl (by decide) (P_assign rfl) ?_
    refine AL.nil ?_
    refine Then.go ?_
    refine AW.ret ?_
    refine Then.r ?_
    refine ⟨(by exact .inr rfl), _, _, (.cons (.tmp rfl) .nil), SubG.nil, ?_, rfl, rfl⟩
    first
      | exact ⟨rfl, rfl⟩
      | (have e : (decodeN b).length = min 200 ((b.length + 5) / 6) := decodeL_length 200 b
         refine ⟨vB_congr (decide_eq_true ?_), rfl⟩
         split <;> omega)
  · intro h2
    refine AW.skip ?_
    refine Then.go ?_
    refine AW.seq ?_
    refine AW.region ?_
    refine AL.pure rfl rfl (by decide) (P_move rfl) ?_
    refine AL.call (C_script_Decode b (by omega) ) _ [] [] _ rfl (by decide) rfl rfl rfl SubG.nil ?_
    rintro _ _ ⟨rfl, rfl⟩
    refine ⟨rfl, rfl, ?_⟩
    refine AL.pure rfl rfl (by decide) (P_assign rfl) ?_
    refine AL.nil ?_
    refine Then.go ?_
    refine AW.seq ?_
    refine AW.seq ?_
    refine AW.region ?_
    refine AL.pure rfl rfl (by decide) (P_assign rfl) ?_
    refine AL.nil ?_
    refine Then.go ?_
    refine AW.block ?_
    refine AW.loopK (σ := Nat) [0, 3] [] (.cons rfl (.cons rfl .nil)) .nil rfl (fun i => [(4, vI .i64 (i : Nat))]) (fun i => []) (fun i => True) (fun i => (decodeN b).length - i) (0) ?_ ?_ ?_ ?_
    · skip
      trivial
    · skip
      refine SubT.cons' (by decide) rfl ?_ ?_
      · skip
        rfl
      exact SubT.nil
    · skip
      exact SubG.nil
    · rintro i hs
      try dsimp only at hs
      dsimp only [List.cons_append, List.nil_append]
      refine AW.seq ?_
      refine AW.seq ?_
      refine AW.region ?_
      refine AL.pure rfl rfl (by decide) (P_move rfl) ?_
      refine AL.pure rfl rfl (by decide) (P_move rfl) ?_
      refine AL_lenM rfl rfl (by decide) ty59 rfl fun h3 => ?_
      try simp only [bs_length, List.length_map, List.length_append, List.length_replicate, List.length_cons, List.length_nil, List.length_take, List.length_set] at h3
      refine AL.pure rfl rfl (by decide) (P_lss rfl rfl) ?_
      refine AL.nil ?_
      refine Then.go ?_
      refine AW.condD _ rfl ?_ ?_
      · intro h4
        have hi : i < (decodeN b).length := by omega
        refine AW.skip ?_
        refine Then.go ?_
        refine AW.seq ?_
        refine AW.block ?_
        refine AW.seq ?_
        refine AW.region ?_
        refine AL.pure rfl rfl (by decide) (P_move rfl) ?_
        refine AL.pure rfl rfl (by decide) (P_move rfl) ?_
        refine AL.pure rfl rfl (by decide) (P_indexSl ty59 ty42 rfl rfl (by exact map_at callz (by omega)) (by rfl)) ?_
        refine AL.pure rfl rfl (by decide) (P_loadAR ty42 rfl rfl (Nat.le_of_ble_eq_true rfl)) ?_
        have hok : CallOk ((decodeN b).getD i callz) := decodeL_ok 200 b _ (getD_mem callz hi)
        generalize hx : (decodeN b).getD i callz = x at hok ⊢
        obtain ⟨k0, k1, f0, f1, n0, n1, a0, a1, g0, g1, d1, d2, p0, p1, w0, w1⟩ := hok
        refine AL.eff rfl rfl (by decide) (E_alloc 105 tz42 rfl rfl rfl) ?_
        refine AL.eff0 rfl rfl (E_store ty42 rfl rfl rfl rfl rfl (Nat.le_of_ble_eq_true rfl)) ?_
        refine AL.recastO 105 (.row 42 (x.c.map AV.tr)) rfl rfl ?_
        refine AL.nil ?_
        refine Then.go ?_
        refine AW.seq ?_
        refine AW.seq ?_
        refine AW.region ?_
        refine AL.pure rfl rfl (by decide) (P_fieldAddr ty42 rfl ty3 rfl) ?_
        refine AL.pure rfl rfl (by decide) (P_load ty3 rfl rfl rfl rfl) ?_
        refine AL.pure rfl rfl (by decide) (P_lss rfl rfl) ?_
        refine AL.pure rfl rfl (by decide) (P_move rfl) ?_
        refine AL.caseD (t := 26) _ rfl (by decide) ?_ ?_
        · intro h5
          exfalso; omega
        · intro h5
          refine AL.pure rfl rfl (by decide) (P_fieldAddr ty42 rfl ty3 rfl) ?_
          refine AL.pure rfl rfl (by decide) (P_load ty3 rfl rfl rfl rfl) ?_
          refine AL.pure rfl rfl (by decide) (P_gtr rfl rfl) ?_
          refine AL.pure rfl rfl (by decide) (P_pickF rfl rfl) ?_
          refine AL.pure rfl rfl (by decide) (P_move rfl) ?_
          refine AL.caseD (t := 31) _ rfl (by decide) ?_ ?_
          · intro h6
            exfalso; omega
          · intro h6
            refine AL.pure rfl rfl (by decide) (P_fieldAddr ty42 rfl ty3 rfl) ?_
            refine AL.pure rfl rfl (by decide) (P_load ty3 rfl rfl rfl rfl) ?_
            refine AL.pure rfl rfl (by decide) (P_lss rfl rfl) ?_
            refine AL.pure rfl rfl (by decide) (P_pickF rfl rfl) ?_
            refine AL.pure rfl rfl (by decide) (P_move rfl) ?_
            refine AL.caseD (t := 36) _ rfl (by decide) ?_ ?_
            · intro h7
              exfalso; omega
            · intro h7
              refine AL.pure rfl rfl (by decide) (P_fieldAddr ty42 rfl ty3 rfl) ?_
              refine AL.pure rfl rfl (by decide) (P_load ty3 rfl rfl rfl rfl) ?_
              refine AL.pure rfl rfl (by decide) (P_gtr rfl rfl) ?_
              refine AL.pure rfl rfl (by decide) (P_pickF rfl rfl) ?_
              refine AL.pure rfl rfl (by decide) (P_move rfl) ?_
              refine AL.caseD (t := 41) _ rfl (by decide) ?_ ?_
              · intro h8
                exfalso; omega
              · intro h8
                refine AL.pure rfl rfl (by decide) (P_fieldAddr ty42 rfl ty3 rfl) ?_
                refine AL.pure rfl rfl (by decide) (P_load ty3 rfl rfl rfl rfl) ?_
                refine AL.pure rfl rfl (by decide) (P_lss rfl rfl) ?_
                refine AL.pure rfl rfl (by decide) (P_pickF rfl rfl) ?_
                refine AL.pure rfl rfl (by decide) (P_move rfl) ?_
                refine AL.caseD (t := 46) _ rfl (by decide) ?_ ?_
                · intro h9
                  exfalso; omega
                · intro h9
                  refine AL.pure rfl rfl (by decide) (P_fieldAddr ty42 rfl ty3 rfl) ?_
                  refine AL.pure rfl rfl (by decide) (P_load ty3 rfl rfl rfl rfl) ?_
                  refine AL.pure rfl rfl (by decide) (P_gtr rfl rfl) ?_
                  refine AL.pure rfl rfl (by decide) (P_pickF rfl rfl) ?_
                  refine AL.pure rfl rfl (by decide) (P_move rfl) ?_
                  refine AL.caseD (t := 51) _ rfl (by decide) ?_ ?_
                  · intro h10
                    exfalso; omega
                  · intro h10
                    refine AL.pure rfl rfl (by decide) (P_fieldAddr ty42 rfl ty3 rfl) ?_
                    refine AL.pure rfl rfl (by decide) (P_load ty3 rfl rfl rfl rfl) ?_
                    refine AL.pure rfl rfl (by decide) (P_gtr rfl rfl) ?_
                    refine AL.pure rfl rfl (by decide) (P_pickF rfl rfl) ?_
                    refine AL.pure rfl rfl (by decide) (P_move rfl) ?_
                    refine AL.caseD (t := 56) _ rfl (by decide) ?_ ?_
                    · intro h11
                      exfalso; omega
                    · intro h11
                      refine AL.pure rfl rfl (by decide) (P_fieldAddr ty42 rfl ty3 rfl) ?_
                      refine AL.pure rfl rfl (by decide) (P_load ty3 rfl rfl rfl rfl) ?_
                      refine AL.pure rfl rfl (by decide) (P_lss rfl rfl) ?_
                      refine AL.pure rfl rfl (by decide) (P_pickF rfl rfl) ?_
                      refine AL.pure rfl rfl (by decide) (P_move rfl) ?_
                      refine AL.caseD (t := 61) _ rfl (by decide) ?_ ?_
                      · intro h12
                        exfalso; omega
                      · intro h12
                        refine AL.pure rfl rfl (by decide) (P_fieldAddr ty42 rfl ty3 rfl) ?_
                        refine AL.pure rfl rfl (by decide) (P_load ty3 rfl rfl rfl rfl) ?_
                        refine AL.pure rfl rfl (by decide) (P_gtr rfl rfl) ?_
                        refine AL.pure rfl rfl (by decide) (P_pickF rfl rfl) ?_
                        refine AL.pure rfl rfl (by decide) (P_move rfl) ?_
                        refine AL.caseD (t := 66) _ rfl (by decide) ?_ ?_
                        · intro h13
                          exfalso; omega
                        · intro h13
                          refine AL.pure rfl rfl (by decide) (P_fieldAddr ty42 rfl ty26 rfl) ?_
                          refine AL.pure rfl rfl (by decide) (P_load ty26 rfl rfl rfl rfl) ?_
                          refine AL_lenM rfl rfl (by decide) ty26 rfl fun h14 => ?_
                          try simp only [bs_length, List.length_map, List.length_append, List.length_replicate, List.length_cons, List.length_nil, List.length_take, List.length_set] at h14
                          refine AL.pure rfl rfl (by decide) (P_gtr rfl rfl) ?_
                          refine AL.pure rfl rfl (by decide) (P_pickF rfl rfl) ?_
                          refine AL.pure rfl rfl (by decide) (P_move rfl) ?_
                          refine AL.caseD (t := 72) _ rfl (by decide) ?_ ?_
                          · intro h15
                            exfalso; omega
                          · intro h15
                            refine AL.pure rfl rfl (by decide) (P_fieldAddr ty42 rfl ty3 rfl) ?_
                            refine AL.pure rfl rfl (by decide) (P_load ty3 rfl rfl rfl rfl) ?_
                            refine AL.pure rfl rfl (by decide) (P_lss rfl rfl) ?_
                            refine AL.pure rfl rfl (by decide) (P_pickF rfl rfl) ?_
                            refine AL.pure rfl rfl (by decide) (P_move rfl) ?_
                            refine AL.caseD (t := 77) _ rfl (by decide) ?_ ?_
                            · intro h16
                              exfalso; omega
                            · intro h16
                              refine AL.pure rfl rfl (by decide) (P_fieldAddr ty42 rfl ty3 rfl) ?_
                              refine AL.pure rfl rfl (by decide) (P_load ty3 rfl rfl rfl rfl) ?_
                              refine AL.pure rfl rfl (by decide) (P_gtr rfl rfl) ?_
                              refine AL.pure rfl rfl (by decide) (P_pickF rfl rfl) ?_
                              refine AL.pure rfl rfl (by decide) (P_move rfl) ?_
                              refine AL.caseD (t := 82) _ rfl (by decide) ?_ ?_
                              · intro h17
                                exfalso; omega
                              · intro h17
                                refine AL.pure rfl rfl (by decide) (P_fieldAddr ty42 rfl ty9 rfl) ?_
                                refine AL.pure rfl rfl (by decide) (P_load ty9 rfl rfl rfl rfl) ?_
                                refine AL.pure rfl rfl (by decide) (P_lenStr ty9 rfl) ?_
                                refine AL.pure rfl rfl (by decide) (P_lss rfl rfl) ?_
                                refine AL.pure rfl rfl (by decide) (P_pickF rfl rfl) ?_
                                refine AL.pure rfl rfl (by decide) (P_move rfl) ?_
                                refine AL.caseD (t := 88) _ rfl (by decide) ?_ ?_
                                · intro h19
                                  exfalso; omega
                                · intro h19
                                  refine AL.pure rfl rfl (by decide) (P_fieldAddr ty42 rfl ty9 rfl) ?_
                                  refine AL.pure rfl rfl (by decide) (P_load ty9 rfl rfl rfl rfl) ?_
                                  refine AL.pure rfl rfl (by decide) (P_indexStrG (j := 0) ty9 rfl rfl (by omega)) ?_
                                  refine AL.pure rfl rfl (by decide) (P_neqU8 (b := 47) rfl rfl) ?_
                                  refine AL.pure rfl rfl (by decide) (P_pickF rfl rfl) ?_
                                  refine AL.nil ?_
                                  refine Then.go ?_
                                  refine AW.condN _ rfl ?_ ?_
                                  · intro h20
                                    exfalso; simp_all
                                  · intro h20
                                    refine AW.skip ?_
                                    refine Then.go ?_
                                    refine AW.seq ?_
                                    refine AW.region ?_
                                    refine AL.pure rfl rfl (by decide) (P_assign rfl) ?_
                                    refine AL.nil ?_
                                    refine Then.go ?_
                                    refine AW.block ?_
                                    refine AW.loopK (σ := Nat) [0, 3, 4, 5, 13, 14, 15, 16, 19, 20, 21, 22, 23, 24, 25, 26, 27, 28, 29, 30, 31, 32, 33, 34, 35, 36, 37, 38, 39, 40, 41, 42, 43, 44, 45, 46, 47, 48, 49, 50, 51, 52, 53, 54, 55, 56, 57, 58, 59, 60, 61, 62, 63, 64, 65, 66, 67, 68, 69, 70, 71, 72, 73, 74, 75, 76, 77, 78, 79, 80, 81, 82, 83, 84, 85, 86, 87, 88, 89, 90, 91, 92, 93] [105] (.cons rfl (.cons rfl (.cons rfl (.cons rfl (.cons rfl (.cons rfl (.cons rfl (.cons rfl (.cons rfl (.cons rfl (.cons rfl (.cons rfl (.cons rfl (.cons rfl (.cons rfl (.cons rfl (.cons rfl (.cons rfl (.cons rfl (.cons rfl (.cons rfl (.cons rfl (.cons rfl (.cons rfl (.cons rfl (.cons rfl (.cons rfl (.cons rfl (.cons rfl (.cons rfl (.cons rfl (.cons rfl (.cons rfl (.cons rfl (.cons rfl (.cons rfl (.cons rfl (.cons rfl (.cons rfl (.cons rfl (.cons rfl (.cons rfl (.cons rfl (.cons rfl (.cons rfl (.cons rfl (.cons rfl (.cons rfl (.cons rfl (.cons rfl (.cons rfl (.cons rfl (.cons rfl (.cons rfl (.cons rfl (.cons rfl (.cons rfl (.cons rfl (.cons rfl (.cons rfl (.cons rfl (.cons rfl (.cons rfl (.cons rfl (.cons rfl (.cons rfl (.cons rfl (.cons rfl (.cons rfl (.cons rfl (.cons rfl (.cons rfl (.cons rfl (.cons rfl (.cons rfl (.cons rfl (.cons rfl (.cons rfl (.cons rfl (.cons rfl (.cons rfl (.cons rfl (.cons rfl .nil))))))))))))))))))))))))))))))))))))))))))))))))))))))))))))))))))))))))))))))))))) (.cons rfl .nil) rfl (fun k => [(6, vI .i64 (k : Nat))]) (fun k => []) (fun k => True) (fun k => x.data.length - k) (1) ?_ ?_ ?_ ?_
                                    · skip
                                      trivial
                                    · skip
                                      refine SubT.cons' (by decide) rfl ?_ ?_
                                      · skip
                                        rfl
                                      exact SubT.nil
                                    · skip
                                      exact SubG.nil
                                    · rintro k hs
                                      try dsimp only at hs
                                      dsimp only [List.cons_append, List.nil_append]
                                      refine AW.seq ?_
                                      refine AW.seq ?_
                                      refine AW.region ?_
                                      refine AL.pure rfl rfl (by decide) (P_move rfl) ?_
                                      refine AL.pure rfl rfl (by decide) (P_fieldAddr ty42 rfl ty26 rfl) ?_
                                      refine AL.pure rfl rfl (by decide) (P_load ty26 rfl rfl rfl rfl) ?_
                                      refine AL_lenM rfl rfl (by decide) ty26 rfl fun h21 => ?_
                                      try simp only [bs_length, List.length_map, List.length_append, List.length_replicate, List.length_cons, List.length_nil, List.length_take, List.length_set] at h21
                                      refine AL.pure rfl rfl (by decide) (P_lss rfl rfl) ?_
                                      refine AL.nil ?_
                                      refine Then.go ?_
                                      refine AW.condD _ rfl ?_ ?_
                                      · intro h22
                                        refine AW.skip ?_
                                        refine Then.go ?_
                                        refine AW.seq ?_
                                        refine AW.block ?_
                                        refine AW.seq ?_
                                        refine AD.start ?_
                                        refine AD.op 0 101 [] _ rfl rfl rfl (B_pure (P_fieldAddr ty42 rfl ty26 rfl)) ?_
                                        refine AD.op 1 102 [0] _ rfl rfl rfl (B_pure (P_load ty26 rfl rfl rfl rfl)) ?_
                                        refine AD.op 2 103 [] _ rfl rfl rfl (B_pure (P_move rfl)) ?_
                                        refine AD.op 3 104 [0, 1, 2] _ rfl rfl rfl (B_pure (P_indexSl ty26 ty5 rfl rfl (by exact bs_at (by omega)) (by rfl))) ?_
                                        refine AD.op 4 105 [0, 1, 2, 3] _ rfl rfl rfl (B_pure (P_loadR ty5 rfl rfl rfl)) ?_
                                        refine AD.op 5 106 [] _ rfl rfl rfl (B_pure (P_fieldAddr ty42 rfl ty26 rfl)) ?_
                                        refine AD.op 6 107 [5] _ rfl rfl rfl (B_pure (P_load ty26 rfl rfl rfl rfl)) ?_
                                        refine AD.op 7 108 [5, 6] _ rfl rfl rfl (B_pure (P_indexSl (j := 0) ty26 ty5 rfl rfl (by exact bs_at (by omega)) (by rfl))) ?_
                                        refine AD.op 8 109 [5, 6, 7] _ rfl rfl rfl (B_pure (P_loadR ty5 rfl rfl rfl)) ?_
                                        refine AD.tail mixed rfl (by kernel_rfl) rfl ?_
                                        refine AL.pure rfl rfl (by decide) (P_neqU8 rfl rfl) ?_
                                        refine AL.nil ?_
                                        refine Then.go ?_
                                        refine AW.condN _ rfl ?_ ?_
                                        · intro h23
                                          exfalso; simp_all
                                        · intro h23
                                          refine AW.skip ?_
                                          refine InBlock.go ?_
                                          refine Then.go ?_
                                          refine AW.region ?_
                                          refine AL.pure rfl rfl (by decide) (P_move rfl) ?_
                                          refine AL.pure rfl rfl (by decide) (P_addN rfl rfl (by omega) (by omega)) ?_
                                          refine AL.pure rfl rfl (by decide) (P_assign rfl) ?_
                                          refine AL.nil ?_
                                          refine Round.go (k + 1) ?_ ?_ ?_ ?_
                                          · try dsimp only
                                            all_goals trivial
                                          · try dsimp only
                                            omega
                                          · skip
                                            refine SubT.cons' (by decide) rfl ?_ ?_
                                            · skip
                                              rfl
                                            exact (SubT.cons (by decide) rfl (SubT.cons (by decide) rfl (SubT.cons (by decide) rfl (SubT.cons (by decide) rfl (SubT.cons (by decide) rfl (SubT.cons (by decide) rfl (SubT.cons (by decide) rfl (SubT.cons (by decide) rfl (SubT.cons (by decide) rfl (SubT.cons (by decide) rfl (SubT.cons (by decide) rfl (SubT.cons (by decide) rfl (SubT.cons (by decide) rfl (SubT.cons (by decide) rfl (SubT.cons (by decide) rfl (SubT.cons (by decide) rfl (SubT.cons (by decide) rfl (SubT.cons (by decide) rfl (SubT.cons (by decide) rfl (SubT.cons (by decide) rfl (SubT.cons (by decide) rfl (SubT.cons (by decide) rfl (SubT.cons (by decide) rfl (SubT.cons (by decide) rfl (SubT.cons (by decide) rfl (SubT.cons (by decide) rfl (SubT.cons (by decide) rfl (SubT.cons (by decide) rfl (SubT.cons (by decide) rfl (SubT.cons (by decide) rfl (SubT.cons (by decide) rfl (SubT.cons (by decide) rfl (SubT.cons (by decide) rfl (SubT.cons (by decide) rfl (SubT.cons (by decide) rfl (SubT.cons (by decide) rfl (SubT.cons (by decide) rfl (SubT.cons (by decide) rfl (SubT.cons (by decide) rfl (SubT.cons (by decide) rfl (SubT.cons (by decide) rfl (SubT.cons (by decide) rfl (SubT.cons (by decide) rfl (SubT.cons (by decide) rfl (SubT.cons (by decide) rfl (SubT.cons (by decide) rfl (SubT.cons (by decide) rfl (SubT.cons (by decide) rfl (SubT.cons (by decide) rfl (SubT.cons (by decide) rfl (SubT.cons (by decide) rfl (SubT.cons (by decide) rfl (SubT.cons (by decide) rfl (SubT.cons (by decide) rfl (SubT.cons (by decide) rfl (SubT.cons (by decide) rfl (SubT.cons (by decide) rfl (SubT.cons (by decide) rfl (SubT.cons (by decide) rfl (SubT.cons (by decide) rfl (SubT.cons (by decide) rfl (SubT.cons (by decide) rfl (SubT.cons (by decide) rfl (SubT.cons (by decide) rfl (SubT.cons (by decide) rfl (SubT.cons (by decide) rfl (SubT.cons (by decide) rfl (SubT.cons (by decide) rfl (SubT.cons (by decide) rfl (SubT.cons (by decide) rfl (SubT.cons (by decide) rfl (SubT.cons (by decide) rfl (SubT.cons (by decide) rfl (SubT.cons (by decide) rfl (SubT.cons (by decide) rfl (SubT.cons (by decide) rfl (SubT.cons (by decide) rfl (SubT.cons (by decide) rfl (SubT.cons (by decide) rfl (SubT.cons (by decide) rfl (SubT.cons (by decide) rfl (SubT.cons (by decide) rfl (SubT.cons (by decide) rfl SubT.nil)))))))))))))))))))))))))))))))))))))))))))))))))))))))))))))))))))))))))))))))))))
                                          · skip
                                            exact (SubG.cons rfl SubG.nil)
                                      · intro h22
                                        refine AW.exit ?_
                                        refine Then.e ?_
                                        refine Round.e ?_
                                        refine InBlock.e ?_
                                        refine InBlock.go ?_
                                        refine Then.go ?_
                                        refine AW.region ?_
                                        refine AL.pure rfl rfl (by decide) (P_move rfl) ?_
                                        refine AL.pure rfl rfl (by decide) (P_addN rfl rfl (by omega) (by omega)) ?_
                                        refine AL.pure rfl rfl (by decide) (P_assign rfl) ?_
                                        refine AL.nil ?_
                                        refine Round.go (i + 1) ?_ ?_ ?_ ?_
                                        · try dsimp only
                                          all_goals trivial
                                        · try dsimp only
                                          omega
                                        · skip
                                          refine SubT.cons' (by decide) rfl ?_ ?_
                                          · skip
                                            rfl
                                          exact (SubT.cons (by decide) rfl (SubT.cons (by decide) rfl SubT.nil))
                                        · skip
                                          exact SubG.nil
      · intro h4
        refine AW.exit ?_
        refine Then.e ?_
        refine Round.e ?_
        refine InBlock.e ?_
        refine Then.go ?_
        refine AW.seq ?_
        refine AW.region ?_
        refine AL.call (C_garretlaw28_awake ) _ [] [] _ rfl (by decide) rfl rfl rfl SubG.nil ?_
        rintro _ _ ⟨rfl, rfl⟩
        refine ⟨rfl, rfl, ?_⟩
        refine AL.pure rfl rfl (by decide) (P_move rfl) ?_
        refine AL.pure rfl rfl (by decide) (P_move rfl) ?_
        refine AL_lenM rfl rfl (by decide) ty59 rfl fun h24 => ?_
        try simp only [bs_length, List.length_map, List.length_append, List.length_replicate, List.length_cons, List.length_nil, List.length_take, List.length_set] at h24
        refine AL.pure rfl rfl (by decide) (P_move rfl) ?_
        refine AL_lenM rfl rfl (by decide) ty26 rfl fun h25 => ?_
        try simp only [bs_length, List.length_map, List.length_append, List.length_replicate, List.length_cons, List.length_nil, List.length_take, List.length_set] at h25
        refine AL.pure rfl rfl (by decide) (P_addN rfl rfl (by omega) (by omega)) ?_
        refine AL.pure rfl rfl (by decide) (P_quoN rfl rfl (by omega) (by omega)) ?_
        refine AL.pure rfl rfl (by decide) (P_min rfl rfl) ?_
        refine AL.pure rfl rfl (by decide) (P_eql rfl rfl) ?_
        refine AL.pure rfl rfl (by decide) (P_pickT rfl rfl) ?_
        refine AL.pure rfl rfl (by decide) (P_assign rfl) ?_
        refine AL.nil ?_
        refine Then.go ?_
        refine AW.ret ?_
        refine ⟨(by exact .inr rfl), _, _, (.cons (.tmp rfl) .nil), SubG.nil, ?_, rfl, rfl⟩
        first
          | exact ⟨rfl, rfl⟩
          | (have e : (decodeN b).length = min 200 ((b.length + 5) / 6) := decodeL_length 200 b
             refine ⟨vB_congr (decide_eq_true ?_), rfl⟩
             split <;> omega)
end Go.Proofs.YtmakeajjgjnldaaGreatDoor
