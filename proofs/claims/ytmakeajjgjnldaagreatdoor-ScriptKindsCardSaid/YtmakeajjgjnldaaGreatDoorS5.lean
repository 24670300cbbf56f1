/- Walks, part 5: the state as data; deeds as bytes. -/
import Derived.Test.YtmakeajjgjnldaaGreatDoorS4
set_option linter.unusedVariables false
set_option linter.unusedSimpArgs false
set_option maxRecDepth 100000
namespace Go.Proofs.YtmakeajjgjnldaaGreatDoor
open Go Go.Ab

structure Rn where
  fr : Nat
  at_ : Nat
  ct : Nat
  deriving DecidableEq
structure En where
  name : ByteArray
  no : Nat
structure Ino where
  no : Nat
  kind : Nat
  links : Nat
  size : Nat
  target : ByteArray
  ents : List En
  runs : List Rn
structure Sta where
  next : Nat
  inos : List Ino
  bad : List Nat
structure Dd where
  kind : Nat
  no : Nat
  ino : Ino
abbrev iN (n : Nat) : Tr := .val (.int .i64 (n : Int))
def Rn.t (r : Rn) : Tr := .agg [iN r.fr, iN r.at_, iN r.ct]
def En.t (e : En) : Tr := .agg [.val (.string e.name), iN e.no]
abbrev Ino.c (x : Ino) : List Tr := [iN x.no, iN x.kind, iN x.links, iN x.size, .val (.string x.target), .sl 2 (x.ents.map En.t), .sl 3 (x.runs.map Rn.t)]
def Ino.t (x : Ino) : Tr := .agg x.c
abbrev Sta.c (s : Sta) : List Tr := [iN s.next, .sl 7 (s.inos.map Ino.t), .sl 1 (s.bad.map iN)]
abbrev Dd.c (d : Dd) : List Tr := iN d.kind :: iN d.no :: d.ino.c
def Dd.t (d : Dd) : Tr := .agg d.c
def Ino.z : Ino := ⟨0, 0, 0, 0, ⟨#[]⟩, [], []⟩

def txtB (s : ByteArray) : List UInt8 := leBytes 4 s.size ++ s.data.toList
def entB (e : En) : List UInt8 := txtB e.name ++ leBytes 8 e.no
def runB (r : Rn) : List UInt8 := leBytes 8 r.fr ++ (leBytes 8 r.at_ ++ leBytes 8 r.ct)
def inoB (x : Ino) : List UInt8 := leBytes 8 x.no ++ (leBytes 8 x.kind ++ (leBytes 8 x.links ++ (leBytes 8 x.size ++ (txtB x.target ++ (leBytes 4 x.ents.length ++ (x.ents.flatMap entB ++ (leBytes 4 x.runs.length ++ x.runs.flatMap runB)))))))
def ddB (d : Dd) : List UInt8 := leBytes 1 d.kind ++ (if d.kind = 1 ∨ d.kind = 3 ∨ d.kind = 4 then leBytes 8 d.no else if d.kind = 2 then inoB d.ino else [])

theorem map_at {α : Type} {f : α → Tr} {l : List α} {j : Nat} (d : α) (h : j < l.length) : (l.map f)[j]? = some (f (l.getD j d)) := by
  simp [List.getElem?_eq_getElem h, List.getD, h]
theorem take_succ_flatMap {α β : Type} (f : α → List β) {l : List α} {i : Nat} (d : α) (h : i < l.length) : (l.take (i + 1)).flatMap f = (l.take i).flatMap f ++ f (l.getD i d) := by
  rw [List.take_add_one, List.flatMap_append]; simp [List.getElem?_eq_getElem h, List.getD, h]
theorem getD_mem {α : Type} {l : List α} {i : Nat} (d : α) (h : i < l.length) : l.getD i d ∈ l := by
  simp [List.getD, h]
abbrev maxI : Nat := 9223372036854775807

theorem ty36 : TyIs Tryz.prog 36 (.slice 3) 1 := ⟨Tryz.underlying36, by kernel_rfl⟩

theorem C_pack_ints (acc : List UInt8) (l : List Nat) (hl : l.length ≤ 1000) (hv : ∀ v ∈ l, v ≤ 9223372036854775807) (ha : acc.length ≤ 100000000000000) : ACalls Tryz.prog 280 [sB acc, .tr (.sl 1 (l.map iN))] ([]) ([]) (fun r G => r = sB (acc ++ l.flatMap (leBytes 8)) ∧ G = []) := by
  refine acalls_of_body 18 [] Tryz.func280 rfl (by kernel_rfl) Tryz.ntmps280 (Nat.le_of_ble_eq_true rfl) rfl ?_
  refine AW.seq ?_
  refine AW.region ?_
  refine AL.pure rfl rfl (by decide) (P_assign rfl) ?_
  refine AL.nil ?_
  refine Then.go ?_
  refine AW.seq ?_
  refine AW.seq ?_
  refine AW.region ?_
  refine AL.pure rfl rfl (by decide) (P_move rfl) ?_
  refine AL_lenM rfl rfl (by decide) ty36 rfl fun h1 => ?_
  try simp only [bs_length, List.length_map, List.length_append, List.length_replicate, List.length_cons, List.length_nil, List.length_take, List.length_set] at h1
  refine AL.pure rfl rfl (by decide) (P_move rfl) ?_
  refine AL.nil ?_
  refine Then.go ?_
  refine AW.block ?_
  refine AW.loopK (σ := Nat × List UInt8) [4] [] (.cons rfl .nil) .nil rfl (fun (i, a) => [(7, .tr (.sl 1 (l.map iN))), (8, vI .i64 (l.length : Nat)), (9, vI .i64 (i : Nat)), (0, sB a)]) (fun (i, a) => []) (fun (i, a) => i ≤ l.length ∧ a.length ≤ 100000000000000 + 8 * i ∧ a = acc ++ (l.take i).flatMap (leBytes 8)) (fun (i, a) => l.length - i) ((0, acc)) ?_ ?_ ?_ ?_
  · skip
    simp [ha]
  · skip
    refine SubT.cons' (by decide) rfl ?_ ?_
    · skip
      rfl
    refine SubT.cons' (by decide) rfl ?_ ?_
    · skip
      rfl
    refine SubT.cons' (by decide) rfl ?_ ?_
    · skip
      rfl
    refine SubT.cons' (by decide) rfl ?_ ?_
    · skip
      rfl
    exact SubT.nil
  · skip
    exact SubG.nil
  · rintro ⟨i, a⟩ hs
    try dsimp only at hs
    dsimp only [List.cons_append, List.nil_append]
    obtain ⟨i0, i1, i2⟩ := hs
    refine AW.seq ?_
    refine AW.region ?_
    refine AL.pure rfl rfl (by decide) (P_lss rfl rfl) ?_
    refine AL.nil ?_
    refine Then.go ?_
    refine AW.seq ?_
    refine AW.condD _ rfl ?_ ?_
    · intro h2
      have hm := hv _ (getD_mem 0 (show i < l.length by omega))
      refine AW.skip ?_
      refine Then.go ?_
      refine AW.seq ?_
      refine AW.block ?_
      refine AW.seq ?_
      refine AW.region ?_
      refine AL.pure rfl rfl (by decide) (P_indexSl ty36 ty3 rfl rfl (by exact map_at 0 (by omega)) (by rfl)) ?_
      refine AL.pure rfl rfl (by decide) (P_loadR ty3 rfl rfl rfl) ?_
      refine AL.pure rfl rfl (by decide) (P_assign rfl) ?_
      refine AL.nil ?_
      refine Then.go ?_
      refine AW.region ?_
      refine AL.pure rfl rfl (by decide) (P_move rfl) ?_
      refine AL.pure rfl rfl (by decide) (P_move rfl) ?_
      refine AL.call (C_codec_PutInt _ _ (by omega) (by (simp only [bs_length, List.length_map, List.length_append, List.length_replicate, List.length_set, List.length_take, List.length_nil, List.length_cons]; omega))) _ [] [] _ rfl (by decide) rfl rfl rfl SubG.nil ?_
      rintro _ _ ⟨rfl, rfl⟩
      refine ⟨rfl, rfl, ?_⟩
      refine AL.pure rfl rfl (by decide) (P_assign rfl) ?_
      refine AL.nil ?_
      refine InBlock.go ?_
      refine Then.go ?_
      refine AW.region ?_
      refine AL.pure rfl rfl (by decide) (P_addN rfl rfl (by omega) (by omega)) ?_
      refine AL.pure rfl rfl (by decide) (P_move rfl) ?_
      refine AL.nil ?_
      refine Round.go ((i + 1, a ++ leBytes 8 (l.getD i 0))) ?_ ?_ ?_ ?_
      · try dsimp only
        refine ⟨by omega, by simp [leBytes_length]; omega, ?_⟩
        rw [take_succ_flatMap _ 0 (by omega), i2, List.append_assoc]
      · try dsimp only
        omega
      · skip
        refine SubT.cons' (by decide) rfl ?_ ?_
        · skip
          rfl
        refine SubT.cons' (by decide) rfl ?_ ?_
        · skip
          rfl
        refine SubT.cons' (by decide) rfl ?_ ?_
        · skip
          rfl
        refine SubT.cons' (by decide) rfl ?_ ?_
        · skip
          exact sl_congr (by simp [bs])
        exact (SubT.cons (by decide) rfl SubT.nil)
      · skip
        exact SubG.nil
    · intro h2
      refine AW.exit ?_
      refine Then.e ?_
      refine Round.e ?_
      refine InBlock.e ?_
      refine Then.go ?_
      refine AW.seq ?_
      refine AW.region ?_
      refine AL.pure rfl rfl (by decide) (P_move rfl) ?_
      refine AL.pure rfl rfl (by decide) (P_assign rfl) ?_
      refine AL.nil ?_
      refine Then.go ?_
      refine AW.ret ?_
      refine ⟨(by exact .inr rfl), _, _, (.cons (.tmp rfl) .nil), SubG.nil, ?_, rfl, rfl⟩
      refine ⟨sl_congr ?_, rfl⟩
      have hi : i = l.length := by omega
      rw [i2, hi, List.take_length]
end Go.Proofs.YtmakeajjgjnldaaGreatDoor
