/- Walks, part 18: answers told; files looked for. -/
import Derived.Test.YtmakeajjgjnldaaGreatDoorS17
set_option linter.unusedVariables false
set_option linter.unusedSimpArgs false
set_option maxRecDepth 100000
namespace Go.Proofs.YtmakeajjgjnldaaGreatDoor
open Go Go.Ab

/-- A call. -/
structure Call where
  kind : Int
  path : ByteArray
  other : ByteArray
  fd : Int
  n : Int
  at_ : Int
  flags : Int
  data : List UInt8
  power : Int
  mask : UInt8
def Call.c (c : Call) : List Tr := [i8 c.kind, sT c.path, sT c.other, i8 c.fd, i8 c.n, i8 c.at_, i8 c.flags, .sl 1 (bs c.data), i8 c.power, b8 c.mask]
def Call.t (c : Call) : Tr := .agg c.c
/-- How a file stands. -/
structure Stt where
  no : Int
  kind : Int
  links : Int
  size : Int
  pages : Int
def Stt.c (s : Stt) : List Tr := [i8 s.no, i8 s.kind, i8 s.links, i8 s.size, i8 s.pages]
def Stt.t (s : Stt) : Tr := .agg s.c
def Stt.z : Stt := ⟨0, 0, 0, 0, 0⟩
/-- An answer. -/
structure Ans where
  err : Int
  n : Int
  data : List UInt8
  names : List ByteArray
  st : Stt
  all : Int
  live : Int
  bad : Int
def Ans.c (a : Ans) : List Tr := [i8 a.err, i8 a.n, .sl 1 (bs a.data), .sl 1 (a.names.map sT), i8 a.st.no, i8 a.st.kind, i8 a.st.links, i8 a.st.size, i8 a.st.pages, i8 a.all, i8 a.live, i8 a.bad]
def Ans.t (a : Ans) : Tr := .agg a.c
def failA (e : Int) : Ans := ⟨e, 0, [], [], Stt.z, 0, 0, 0⟩
def statI (x : Ino) : Stt := ⟨x.no, x.kind, x.links, if (x.kind : Int) = 2 then x.ents.length else x.size, 0⟩

abbrev fs28 : Array Field := #[⟨ "No", 3, 0, false, "", "", 0⟩, ⟨ "Kind", 3, 1, false, "", "", 8⟩, ⟨ "Links", 3, 2, false, "", "", 16⟩, ⟨ "Size", 3, 3, false, "", "", 24⟩, ⟨ "Pages", 3, 4, false, "", "", 32⟩]
theorem tf28 : FldIs Tryz.prog fs28 [(0, 1), (1, 1), (2, 1), (3, 1), (4, 1)] := ⟨by kernel_rfl⟩
theorem ty29 : TyIs Tryz.prog 29 (.struct fs28) 5 := ⟨Tryz.underlying29, by kernel_rfl⟩
theorem tz29 : TyZ Tryz.prog 29 (.agg #[.int .i64 0, .int .i64 0, .int .i64 0, .int .i64 0, .int .i64 0]) := ⟨by kernel_rfl⟩
abbrev fs32 : Array Field := #[⟨ "Err", 25, 0, false, "", "", 0⟩, ⟨ "N", 3, 1, false, "", "", 8⟩, ⟨ "Data", 26, 2, false, "", "", 16⟩, ⟨ "Names", 27, 3, false, "", "", 40⟩, ⟨ "Stat", 29, 4, false, "", "", 64⟩, ⟨ "Room", 31, 9, false, "", "", 104⟩]
theorem tf32 : FldIs Tryz.prog fs32 [(0, 1), (1, 1), (2, 1), (3, 1), (4, 5), (9, 3)] := ⟨by kernel_rfl⟩
theorem ty33 : TyIs Tryz.prog 33 (.struct fs32) 12 := ⟨Tryz.underlying33, by kernel_rfl⟩
theorem tz33 : TyZ Tryz.prog 33 (.agg #[.int .i64 0, .int .i64 0, .slice none 0 0, .slice none 0 0, .int .i64 0, .int .i64 0, .int .i64 0, .int .i64 0, .int .i64 0, .int .i64 0, .int .i64 0, .int .i64 0]) := ⟨by kernel_rfl⟩

theorem C_runs_Right_nil  : ACalls Tryz.prog 164 [.tr (.sl 3 [])] ([]) ([]) (fun r G => r = vB true ∧ G = []) := by
  refine acalls_of_body 76 [] Tryz.func164 rfl (by kernel_rfl) Tryz.ntmps164 (Nat.le_of_ble_eq_true rfl) rfl ?_
  refine AW.seq ?_
  refine AW.region ?_
  refine AL.pure rfl rfl (by decide) (P_assign rfl) ?_
  refine AL.nil ?_
  refine Then.go ?_
  refine AW.seq ?_
  refine AW.seq ?_
  refine AW.region ?_
  refine AL.pure rfl rfl (by decide) (P_move rfl) ?_
  refine AL_lenSl rfl rfl (by decide) ty83 rfl fun h1 => ?_
  try simp only [bs_length, List.length_map, List.length_append, List.length_replicate, List.length_cons, List.length_nil, List.length_take, List.length_set] at h1
  refine AL.pure rfl rfl (by decide) (P_move rfl) ?_
  refine AL.nil ?_
  refine Then.go ?_
  refine AW.block ?_
  refine AW.loopK (σ := Unit) [0, 5, 6] [] (.cons rfl (.cons rfl (.cons rfl .nil))) .nil rfl (fun u => [(7, vI .i64 0)]) (fun u => []) (fun u => True) (fun u => 0) (()) ?_ ?_ ?_ ?_
  · skip
    trivial
  · skip
    refine SubT.cons' (by decide) rfl ?_ ?_
    · skip
      rfl
    exact SubT.nil
  · skip
    exact SubG.nil
  · rintro u hs
    try dsimp only at hs
    dsimp only [List.cons_append, List.nil_append]
    refine AW.seq ?_
    refine AW.region ?_
    refine AL.pure rfl rfl (by decide) (P_lss rfl rfl) ?_
    refine AL.nil ?_
    refine Then.go ?_
    refine AW.seq ?_
    refine AW.condD _ rfl ?_ ?_
    · intro h2
      exfalso; simp_all
    · intro h2
      refine AW.exit ?_
      refine Then.e ?_
      refine Round.e ?_
      refine InBlock.e ?_
      refine Then.go ?_
      refine AW.seq ?_
      refine AW.region ?_
      refine AL.pure rfl rfl (by decide) (P_assign rfl) ?_
      refine AL.nil ?_
      refine Then.go ?_
      refine AW.ret ?_
      refine ⟨(by exact .inr rfl), _, _, (.cons (.tmp rfl) .nil), SubG.nil, ?_, rfl, rfl⟩
      exact ⟨rfl, rfl⟩
theorem C_runs_Pages_nil  : ACalls Tryz.prog 107 [.tr (.sl 3 [])] ([]) ([]) (fun r G => r = .tr (.sl 1 []) ∧ G = []) := by
  refine acalls_of_body 31 [] Tryz.func107 rfl (by kernel_rfl) Tryz.ntmps107 (Nat.le_of_ble_eq_true rfl) rfl ?_
  refine AW.seq ?_
  refine AW.region ?_
  refine AL.pure rfl rfl (by decide) (P_assign rfl) ?_
  refine AL.nil ?_
  refine Then.go ?_
  refine AW.seq ?_
  refine AW.seq ?_
  refine AW.region ?_
  refine AL.pure rfl rfl (by decide) (P_move rfl) ?_
  refine AL.call (C_runs_Right_nil ) _ [] [] _ rfl (by decide) rfl rfl rfl SubG.nil ?_
  rintro _ _ ⟨rfl, rfl⟩
  refine ⟨rfl, rfl, ?_⟩
  refine AL.pure rfl rfl (by decide) (P_not rfl) ?_
  refine AL.nil ?_
  refine Then.go ?_
  refine AW.condF rfl ?_
  refine AW.skip ?_
  refine Then.go ?_
  refine AW.seq ?_
  refine AW.region ?_
  refine AL.pure rfl rfl (by decide) (P_assign rfl) ?_
  refine AL.nil ?_
  refine Then.go ?_
  refine AW.seq ?_
  refine AW.seq ?_
  refine AW.region ?_
  refine AL.pure rfl rfl (by decide) (P_move rfl) ?_
  refine AL_lenSl rfl rfl (by decide) ty83 rfl fun h1 => ?_
  try simp only [bs_length, List.length_map, List.length_append, List.length_replicate, List.length_cons, List.length_nil, List.length_take, List.length_set] at h1
  refine AL.pure rfl rfl (by decide) (P_move rfl) ?_
  refine AL.nil ?_
  refine Then.go ?_
  refine AW.block ?_
  refine AW.loopK (σ := Unit) [2, 10, 11] [] (.cons rfl (.cons rfl (.cons rfl .nil))) .nil rfl (fun u => [(12, vI .i64 0), (3, .tr (.val (.slice none 0 0)))]) (fun u => []) (fun u => True) (fun u => 0) (()) ?_ ?_ ?_ ?_
  · skip
    trivial
  · skip
    refine SubT.cons' (by decide) rfl ?_ ?_
    · skip
      rfl
    refine SubT.cons' (by decide) rfl ?_ ?_
    · skip
      rfl
    exact SubT.nil
  · skip
    exact SubG.nil
  · rintro u hs
    try dsimp only at hs
    dsimp only [List.cons_append, List.nil_append]
    refine AW.seq ?_
    refine AW.region ?_
    refine AL.pure rfl rfl (by decide) (P_lss rfl rfl) ?_
    refine AL.nil ?_
    refine Then.go ?_
    refine AW.seq ?_
    refine AW.condD _ rfl ?_ ?_
    · intro h2
      exfalso; simp_all
    · intro h2
      refine AW.exit ?_
      refine Then.e ?_
      refine Round.e ?_
      refine InBlock.e ?_
      refine Then.go ?_
      refine AW.seq ?_
      refine AW.region ?_
      refine AL.pure rfl rfl (by decide) (P_move rfl) ?_
      refine AL.pure rfl rfl (by decide) (P_assign rfl) ?_
      refine AL.nilS 2 1 rfl ?_
      refine AL.nil ?_
      refine Then.go ?_
      refine AW.ret ?_
      refine ⟨(by exact .inr rfl), _, _, (.cons (.tmp rfl) .nil), SubG.nil, ?_, rfl, rfl⟩
      exact ⟨rfl, rfl⟩
theorem C_runs_Count_nil  : ACalls Tryz.prog 154 [.tr (.sl 3 [])] ([]) ([]) (fun r G => r = vI .i64 0 ∧ G = []) := by
  refine acalls_of_body 6 [] Tryz.func154 rfl (by kernel_rfl) Tryz.ntmps154 (Nat.le_of_ble_eq_true rfl) rfl ?_
  refine AW.seq ?_
  refine AW.region ?_
  refine AL.pure rfl rfl (by decide) (P_assign rfl) ?_
  refine AL.nil ?_
  refine Then.go ?_
  refine AW.seq ?_
  refine AW.region ?_
  refine AL.pure rfl rfl (by decide) (P_move rfl) ?_
  refine AL.call (C_runs_Pages_nil ) _ [] [] _ rfl (by decide) rfl rfl rfl SubG.nil ?_
  rintro _ _ ⟨rfl, rfl⟩
  refine ⟨rfl, rfl, ?_⟩
  refine AL_lenSl rfl rfl (by decide) ty36 rfl fun h1 => ?_
  try simp only [bs_length, List.length_map, List.length_append, List.length_replicate, List.length_cons, List.length_nil, List.length_take, List.length_set] at h1
  refine AL.pure rfl rfl (by decide) (P_assign rfl) ?_
  refine AL.nil ?_
  refine Then.go ?_
  refine AW.ret ?_
  refine ⟨(by exact .inr rfl), _, _, (.cons (.tmp rfl) .nil), SubG.nil, ?_, rfl, rfl⟩
  exact ⟨rfl, rfl⟩
theorem C_Stat_nil (x : Ino) (hr : x.runs = []) : ACalls Tryz.prog 216 [.tr x.t] ([]) ([]) (fun r G => r = .tr (statI x).t ∧ G = []) := by
  obtain ⟨no, kind, links, size, tgt, ents, runs⟩ := x
  simp only at hr; subst hr
  refine acalls_of_body 24 [] Tryz.func216 rfl (by kernel_rfl) Tryz.ntmps216 (Nat.le_of_ble_eq_true rfl) rfl ?_
  refine AW.seq ?_
  refine AW.region ?_
  refine AL.eff rfl rfl (by decide) (E_box 101 rfl rfl rfl rfl rfl rfl) ?_
  refine AL.eff rfl rfl (by decide) (E_alloc 102 tz29 rfl rfl rfl) ?_
  refine AL.nil ?_
  refine Then.go ?_
  refine AW.seq ?_
  refine AD.start ?_
  refine AD.op 0 4 [] _ rfl rfl rfl (B_pure (P_fieldAddr ty85 rfl ty3 rfl)) ?_
  refine AD.op 1 5 [0] _ rfl rfl rfl (B_pure (P_load ty3 rfl rfl rfl rfl)) ?_
  refine AD.op 2 6 [] _ rfl rfl rfl (B_pure (P_fieldAddr ty85 rfl ty3 rfl)) ?_
  refine AD.op 3 7 [2] _ rfl rfl rfl (B_pure (P_load ty3 rfl rfl rfl rfl)) ?_
  refine AD.op 4 8 [] _ rfl rfl rfl (B_pure (P_fieldAddr ty85 rfl ty3 rfl)) ?_
  refine AD.op 5 9 [4] _ rfl rfl rfl (B_pure (P_load ty3 rfl rfl rfl rfl)) ?_
  refine AD.op 6 10 [] _ rfl rfl rfl (B_pure (P_fieldAddr ty85 rfl ty3 rfl)) ?_
  refine AD.op 7 11 [6] _ rfl rfl rfl (B_pure (P_load ty3 rfl rfl rfl rfl)) ?_
  refine AD.op 8 12 [] _ rfl rfl rfl (B_pure (P_fieldAddr ty85 rfl ty83 rfl)) ?_
  refine AD.op 9 13 [8] _ rfl rfl rfl (B_pure (P_load ty83 rfl rfl rfl rfl)) ?_
  refine AD.op 10 14 [8, 9] _ rfl rfl rfl (B_call0 (C_runs_Count_nil ) _ rfl rfl (by rintro _ _ ⟨rfl, rfl⟩; exact ⟨rfl, rfl⟩)) ?_
  refine AD.op 11 15 [0, 1, 2, 3, 4, 5, 6, 7, 8, 9, 10] _ rfl rfl rfl (B_pure (P_build ty29 tz29 tf28 rfl)) ?_
  refine AD.op 12 3 [] _ rfl rfl rfl (B_alloc 103 tz29) ?_
  refine AD.tail mixed rfl (by kernel_rfl) rfl ?_
  refine AL.eff0 rfl rfl (E_store ty29 rfl rfl rfl rfl rfl (Nat.le_of_ble_eq_true rfl)) ?_
  refine AL.recastO 103 (.row 29 [vI .i64 (no : Nat), vI .i64 (kind : Nat), vI .i64 (links : Nat), vI .i64 (size : Nat), vI .i64 0]) rfl rfl ?_
  refine AL.nil ?_
  refine Then.go ?_
  refine AW.seq ?_
  refine AW.seq ?_
  refine AW.region ?_
  refine AL.pure rfl rfl (by decide) (P_fieldAddr ty85 rfl ty3 rfl) ?_
  refine AL.pure rfl rfl (by decide) (P_load ty3 rfl rfl rfl rfl) ?_
  refine AL.pure rfl rfl (by decide) (P_eql rfl rfl) ?_
  refine AL.nil ?_
  refine Then.go ?_
  refine AW.condD _ rfl ?_ ?_
  · intro h1
    refine AW.region ?_
    refine AL.pure rfl rfl (by decide) (P_fieldAddr ty85 rfl ty82 rfl) ?_
    refine AL.pure rfl rfl (by decide) (P_load ty82 rfl rfl rfl rfl) ?_
    refine AL_lenM rfl rfl (by decide) ty82 rfl fun h2 => ?_
    try simp only [bs_length, List.length_map, List.length_append, List.length_replicate, List.length_cons, List.length_nil, List.length_take, List.length_set] at h2
    refine AL.pure rfl rfl (by decide) (P_fieldAddr ty29 rfl ty3 rfl) ?_
    refine AL.eff0 rfl rfl (E_store ty3 rfl rfl rfl rfl rfl (Nat.le_of_ble_eq_true rfl)) ?_
    refine AL.recastO 103 (.row 29 [vI .i64 (no : Nat), vI .i64 (kind : Nat), vI .i64 (links : Nat), vI .i64 (ents.length : Nat), vI .i64 0]) rfl rfl ?_
    refine AL.nil ?_
    refine Then.go ?_
    refine AW.seq ?_
    refine AW.region ?_
    refine AL.pure rfl rfl (by decide) (P_loadA ty29 rfl rfl rfl (Nat.le_of_ble_eq_true rfl)) ?_
    refine AL.eff0 rfl rfl (E_store ty29 rfl rfl rfl rfl rfl (Nat.le_of_ble_eq_true rfl)) ?_
    refine AL.recastO 102 (.row 29 ((statI ⟨no, kind, links, size, tgt, ents, []⟩).c.map AV.tr)) rfl (by (simp only [statI, Stt.c, if_pos h1]; rfl)) ?_
    refine AL.nil ?_
    refine Then.go ?_
    refine AW.ret ?_
    refine ⟨(by exact .inr rfl), _, _, (.cons (.cellA rfl rfl ty29 rfl (Nat.le_of_ble_eq_true rfl)) .nil), SubG.nil, ?_, rfl, rfl⟩
    exact ⟨rfl, rfl⟩
  · intro h1
    refine AW.skip ?_
    refine Then.go ?_
    refine AW.seq ?_
    refine AW.region ?_
    refine AL.pure rfl rfl (by decide) (P_loadA ty29 rfl rfl rfl (Nat.le_of_ble_eq_true rfl)) ?_
    refine AL.eff0 rfl rfl (E_store ty29 rfl rfl rfl rfl rfl (Nat.le_of_ble_eq_true rfl)) ?_
    refine AL.recastO 102 (.row 29 ((statI ⟨no, kind, links, size, tgt, ents, []⟩).c.map AV.tr)) rfl (by (simp only [statI, Stt.c, if_neg h1]; rfl)) ?_
    refine AL.nil ?_
    refine Then.go ?_
    refine AW.ret ?_
    refine ⟨(by exact .inr rfl), _, _, (.cons (.cellA rfl rfl ty29 rfl (Nat.le_of_ble_eq_true rfl)) .nil), SubG.nil, ?_, rfl, rfl⟩
    exact ⟨rfl, rfl⟩
theorem C_vfs_failed (e : Int) : ACalls Tryz.prog 31 [vI .i64 e] ([]) ([]) (fun r G => r = .tr (failA e).t ∧ G = []) := by
  refine acalls_of_body 5 [] Tryz.func31 rfl (by kernel_rfl) Tryz.ntmps31 (Nat.le_of_ble_eq_true rfl) rfl ?_
  refine AW.seq ?_
  refine AW.region ?_
  refine AL.eff rfl rfl (by decide) (E_alloc 102 tz33 rfl rfl rfl) ?_
  refine AL.nil ?_
  refine Then.go ?_
  refine AW.seq ?_
  refine AW.region ?_
  refine AL.pure rfl rfl (by decide) (P_move rfl) ?_
  refine AL.pure rfl rfl (by decide) (P_build ty33 tz33 tf32 rfl) ?_
  refine AL.eff0 rfl rfl (E_store ty33 rfl rfl rfl rfl rfl (Nat.le_of_ble_eq_true rfl)) ?_
  refine AL.nilO 102 2 1 rfl rfl ?_
  refine AL.nilO 102 3 1 rfl rfl ?_
  refine AL.nil ?_
  refine Then.go ?_
  refine AW.ret ?_
  refine ⟨(by exact .inr rfl), _, _, (.cons (.cellA rfl rfl ty33 rfl (Nat.le_of_ble_eq_true rfl)) .nil), SubG.nil, ?_, rfl, rfl⟩
  exact ⟨rfl, rfl⟩
theorem C_volume_Volume_State (g : Geo) (j : Jr) (h : StaOk j.s) : ACalls Tryz.prog 30 [.ptr 50 0] ([(50, volO g), (30, jrO j)]) ([]) (fun r G => r = .tr j.s.t ∧ G = [(50, volO g), (30, jrO j)]) := by
  refine acalls_of_body 11 [50, 30, 10, 40] Tryz.func30 rfl (by kernel_rfl) Tryz.ntmps30 (Nat.le_of_ble_eq_true rfl) rfl ?_
  refine AW.seq ?_
  refine AW.region ?_
  refine AL.eff rfl rfl (by decide) (E_alloc 102 tz38 rfl rfl rfl) ?_
  refine AL.nil ?_
  refine Then.go ?_
  refine AW.seq ?_
  refine AW.seq ?_
  refine AW.region ?_
  refine AL.pure rfl rfl (by decide) (P_move rfl) ?_
  refine AL.pure rfl rfl (by decide) (P_eqlPN ty71 rfl rfl) ?_
  refine AL.nil ?_
  refine Then.go ?_
  refine AW.condF rfl ?_
  refine AW.skip ?_
  refine Then.go ?_
  refine AW.seq ?_
  refine AW.region ?_
  refine AL.pure rfl rfl (by decide) (P_move rfl) ?_
  refine AL.pure rfl rfl (by decide) (P_nilCheck rfl) ?_
  refine AL.pure rfl rfl (by decide) (P_fieldAddr ty114 rfl ty111 rfl) ?_
  refine AL.pure rfl rfl (by decide) (P_load ty111 rfl rfl rfl rfl) ?_
  refine AL.call (C_journal_Journal_State j h ) _ [] [] _ rfl (by decide) rfl rfl rfl (SubG.cons rfl SubG.nil) ?_
  rintro _ _ ⟨rfl, rfl⟩
  refine ⟨rfl, rfl, ?_⟩
  refine AL.eff0 rfl rfl (E_store ty38 rfl rfl rfl rfl rfl (Nat.le_of_ble_eq_true rfl)) ?_
  refine AL.nil ?_
  refine Then.go ?_
  refine AW.ret ?_
  refine ⟨(by exact .inr rfl), _, _, (.cons (.cellA rfl rfl ty38 rfl (Nat.le_of_ble_eq_true rfl)) .nil), (SubG.cons (l := 50) rfl (SubG.cons (l := 30) rfl SubG.nil)), ?_, rfl, rfl⟩
  exact ⟨rfl, rfl⟩
theorem C_files_Files_none  : ACalls Tryz.prog 196 [.ptr 60 0] ([(60, filesO)]) ([]) (fun r G => r = vB false ∧ G = [(60, filesO)]) := by
  refine acalls_of_body 12 [60, 50] Tryz.func196 rfl (by kernel_rfl) Tryz.ntmps196 (Nat.le_of_ble_eq_true rfl) rfl ?_
  refine AW.seq ?_
  refine AW.region ?_
  refine AL.pure rfl rfl (by decide) (P_assign rfl) ?_
  refine AL.nil ?_
  refine Then.go ?_
  refine AW.seq ?_
  refine AW.region ?_
  refine AL.pure rfl rfl (by decide) (P_move rfl) ?_
  refine AL.pure rfl rfl (by decide) (P_eqlPN ty72 rfl rfl) ?_
  refine AL.pure rfl rfl (by decide) (P_move rfl) ?_
  refine AL.pure rfl rfl (by decide) (P_move rfl) ?_
  refine AL.pure rfl rfl (by decide) (P_nilCheck rfl) ?_
  refine AL.pure rfl rfl (by decide) (P_fieldAddr ty167 rfl ty71 rfl) ?_
  refine AL.pure rfl rfl (by decide) (P_load ty71 rfl rfl rfl rfl) ?_
  refine AL.pure rfl rfl (by decide) (P_eqlPN ty71 rfl rfl) ?_
  refine AL.pure rfl rfl (by decide) (P_pickF rfl rfl) ?_
  refine AL.pure rfl rfl (by decide) (P_assign rfl) ?_
  refine AL.nil ?_
  refine Then.go ?_
  refine AW.ret ?_
  refine ⟨(by exact .inr rfl), _, _, (.cons (.tmp rfl) .nil), (SubG.cons (l := 60) rfl SubG.nil), ?_, rfl, rfl⟩
  exact ⟨rfl, rfl⟩
theorem C_find_root (g : Geo) (j : Jr) (h : StaOk j.s) (t : ByteArray) (ht : t.size ≤ 1000000000) (hr : splitN t = some []) (f : Bool) (x : Ino) (hx : findI j.s.inos 1 = some x) : ACalls Tryz.prog 215 [.ptr 60 0, vS t, vB f] ([(60, filesO), (50, volO g), (30, jrO j)]) ([]) (fun r G => r = .tup [.tr x.t, vI .i64 0] ∧ G = [(60, filesO), (50, volO g), (30, jrO j)]) := by
  refine acalls_of_body 42 [60, 50, 30, 10, 40] Tryz.func215 rfl (by kernel_rfl) Tryz.ntmps215 (Nat.le_of_ble_eq_true rfl) rfl ?_
  refine AW.seq ?_
  refine AW.region ?_
  refine AL.eff rfl rfl (by decide) (E_alloc 106 tz85 rfl rfl rfl) ?_
  refine AL.pure rfl rfl (by decide) (P_assign rfl) ?_
  refine AL.nil ?_
  refine Then.go ?_
  refine AW.seq ?_
  refine AW.seq ?_
  refine AW.region ?_
  refine AL.pure rfl rfl (by decide) (P_move rfl) ?_
  refine AL.call (C_files_Files_none ) _ [] [] _ rfl (by decide) rfl rfl rfl (SubG.cons rfl SubG.nil) ?_
  rintro _ _ ⟨rfl, rfl⟩
  refine ⟨rfl, rfl, ?_⟩
  refine AL.nil ?_
  refine Then.go ?_
  refine AW.condF rfl ?_
  refine AW.skip ?_
  refine Then.go ?_
  refine AW.seq ?_
  refine AW.region ?_
  refine AL.pure rfl rfl (by decide) (P_move rfl) ?_
  refine AL.pure rfl rfl (by decide) (P_nilCheck rfl) ?_
  refine AL.pure rfl rfl (by decide) (P_fieldAddr ty167 rfl ty71 rfl) ?_
  refine AL.pure rfl rfl (by decide) (P_load ty71 rfl rfl rfl rfl) ?_
  refine AL.call (C_volume_Volume_State g j h ) _ [] [] _ rfl (by decide) rfl rfl rfl (SubG.cons rfl (SubG.cons rfl SubG.nil)) ?_
  rintro _ _ ⟨rfl, rfl⟩
  refine ⟨rfl, rfl, ?_⟩
  refine AL.eff rfl rfl (by decide) (E_alloc 108 tz38 rfl rfl rfl) ?_
  refine AL.eff0 rfl rfl (E_store ty38 rfl rfl rfl rfl rfl (Nat.le_of_ble_eq_true rfl)) ?_
  refine AL.nil ?_
  refine Then.go ?_
  refine AW.seq ?_
  refine AW.region ?_
  refine AL.pure rfl rfl (by decide) (P_loadA ty38 rfl rfl rfl (Nat.le_of_ble_eq_true rfl)) ?_
  refine AL.pure rfl rfl (by decide) (P_move rfl) ?_
  refine AL.pure rfl rfl (by decide) (P_move rfl) ?_
  refine AL.call (C_Resolve_root j.s h t ht hr f ) _ [] [] _ rfl (by decide) rfl rfl rfl SubG.nil ?_
  rintro _ _ ⟨rfl, rfl⟩
  refine ⟨rfl, rfl, ?_⟩
  refine AL.pure rfl rfl (by decide) (P_move rfl) ?_
  refine AL.pure rfl rfl (by decide) (P_extract rfl rfl) ?_
  refine AL.pure rfl rfl (by decide) (P_extract rfl rfl) ?_
  refine AL.pure rfl rfl (by decide) (P_assign rfl) ?_
  refine AL.pure rfl rfl (by decide) (P_assign rfl) ?_
  refine AL.nil ?_
  refine Then.go ?_
  refine AW.seq ?_
  refine AW.seq ?_
  refine AW.region ?_
  refine AL.pure rfl rfl (by decide) (P_move rfl) ?_
  refine AL.pure rfl rfl (by decide) (P_neq rfl rfl) ?_
  refine AL.nil ?_
  refine Then.go ?_
  refine AW.condF rfl ?_
  refine AW.skip ?_
  refine Then.go ?_
  refine AW.seq ?_
  refine AW.region ?_
  refine AL.pure rfl rfl (by decide) (P_loadA ty38 rfl rfl rfl (Nat.le_of_ble_eq_true rfl)) ?_
  refine AL.pure rfl rfl (by decide) (P_move rfl) ?_
  refine AL.call (C_state_Find j.s 1 h ) _ [] [] _ rfl (by decide) rfl rfl rfl SubG.nil ?_
  rintro _ _ ⟨rfl, rfl⟩
  refine ⟨rfl, rfl, ?_⟩
  rw [hx]
  refine AL.pure rfl rfl (by decide) (P_move rfl) ?_
  refine AL.pure rfl rfl (by decide) (P_extract rfl rfl) ?_
  refine AL.pure rfl rfl (by decide) (P_extract rfl rfl) ?_
  refine AL.eff rfl rfl (by decide) (E_alloc 111 tz85 rfl rfl rfl) ?_
  refine AL.eff0 rfl rfl (E_store ty85 rfl rfl rfl rfl rfl (Nat.le_of_ble_eq_true rfl)) ?_
  refine AL.pure rfl rfl (by decide) (P_assign rfl) ?_
  refine AL.nil ?_
  refine Then.go ?_
  refine AW.seq ?_
  refine AW.seq ?_
  refine AW.region ?_
  refine AL.pure rfl rfl (by decide) (P_move rfl) ?_
  refine AL.pure rfl rfl (by decide) (P_not rfl) ?_
  refine AL.nil ?_
  refine Then.go ?_
  refine AW.condF rfl ?_
  refine AW.skip ?_
  refine Then.go ?_
  refine AW.seq ?_
  refine AW.region ?_
  refine AL.pure rfl rfl (by decide) (P_loadA ty85 rfl rfl rfl (Nat.le_of_ble_eq_true rfl)) ?_
  refine AL.eff0 rfl rfl (E_store ty85 rfl rfl rfl rfl rfl (Nat.le_of_ble_eq_true rfl)) ?_
  refine AL.pure rfl rfl (by decide) (P_assign rfl) ?_
  refine AL.nil ?_
  refine Then.go ?_
  refine AW.ret ?_
  refine ⟨(by exact .inr rfl), _, _, (.cons (.cellA rfl rfl ty85 rfl (Nat.le_of_ble_eq_true rfl)) (.cons (.tmp rfl) .nil)), (SubG.cons (l := 60) rfl (SubG.cons (l := 50) rfl (SubG.cons (l := 30) rfl SubG.nil))), ?_, rfl, rfl⟩
  exact ⟨rfl, rfl⟩
theorem C_Stat_root (g : Geo) (j : Jr) (h : StaOk j.s) (t : ByteArray) (ht : t.size ≤ 1000000000) (hr : splitN t = some []) (f : Bool) (x : Ino) (hx : findI j.s.inos 1 = some x) (hn : x.runs = []) : ACalls Tryz.prog 151 [.ptr 60 0, vS t, vB f] ([(60, filesO), (50, volO g), (30, jrO j)]) ([]) (fun r G => r = .tup [.tr (statI x).t, vI .i64 0] ∧ G = [(60, filesO), (50, volO g), (30, jrO j)]) := by
  refine acalls_of_body 23 [60, 50, 30, 10, 40] Tryz.func151 rfl (by kernel_rfl) Tryz.ntmps151 (Nat.le_of_ble_eq_true rfl) rfl ?_
  refine AW.seq ?_
  refine AW.region ?_
  refine AL.eff rfl rfl (by decide) (E_alloc 106 tz29 rfl rfl rfl) ?_
  refine AL.pure rfl rfl (by decide) (P_assign rfl) ?_
  refine AL.nil ?_
  refine Then.go ?_
  refine AW.seq ?_
  refine AW.region ?_
  refine AL.pure rfl rfl (by decide) (P_move rfl) ?_
  refine AL.pure rfl rfl (by decide) (P_move rfl) ?_
  refine AL.pure rfl rfl (by decide) (P_move rfl) ?_
  refine AL.call (C_find_root g j h t ht hr f x hx ) _ [] [] _ rfl (by decide) rfl rfl rfl (SubG.cons rfl (SubG.cons rfl (SubG.cons rfl SubG.nil))) ?_
  rintro _ _ ⟨rfl, rfl⟩
  refine ⟨rfl, rfl, ?_⟩
  refine AL.pure rfl rfl (by decide) (P_move rfl) ?_
  refine AL.pure rfl rfl (by decide) (P_extract rfl rfl) ?_
  refine AL.pure rfl rfl (by decide) (P_extract rfl rfl) ?_
  refine AL.eff rfl rfl (by decide) (E_alloc 108 tz85 rfl rfl rfl) ?_
  refine AL.eff0 rfl rfl (E_store ty85 rfl rfl rfl rfl rfl (Nat.le_of_ble_eq_true rfl)) ?_
  refine AL.pure rfl rfl (by decide) (P_assign rfl) ?_
  refine AL.nil ?_
  refine Then.go ?_
  refine AW.seq ?_
  refine AW.seq ?_
  refine AW.region ?_
  refine AL.pure rfl rfl (by decide) (P_move rfl) ?_
  refine AL.pure rfl rfl (by decide) (P_neq rfl rfl) ?_
  refine AL.nil ?_
  refine Then.go ?_
  refine AW.condF rfl ?_
  refine AW.skip ?_
  refine Then.go ?_
  refine AW.seq ?_
  refine AW.region ?_
  refine AL.pure rfl rfl (by decide) (P_loadA ty85 rfl rfl rfl (Nat.le_of_ble_eq_true rfl)) ?_
  refine AL.call (C_Stat_nil _ (by assumption)) _ [] [] _ rfl (by decide) rfl rfl rfl SubG.nil ?_
  rintro _ _ ⟨rfl, rfl⟩
  refine ⟨rfl, rfl, ?_⟩
  refine AL.eff0 rfl rfl (E_store ty29 rfl rfl rfl rfl rfl (Nat.le_of_ble_eq_true rfl)) ?_
  refine AL.pure rfl rfl (by decide) (P_assign rfl) ?_
  refine AL.nil ?_
  refine Then.go ?_
  refine AW.ret ?_
  refine ⟨(by exact .inr rfl), _, _, (.cons (.cellA rfl rfl ty29 rfl (Nat.le_of_ble_eq_true rfl)) (.cons (.tmp rfl) .nil)), (SubG.cons (l := 60) rfl (SubG.cons (l := 50) rfl (SubG.cons (l := 30) rfl SubG.nil))), ?_, rfl, rfl⟩
  exact ⟨rfl, rfl⟩
end Go.Proofs.YtmakeajjgjnldaaGreatDoor
