/- The abstract machine, texts 16 to 26: laws of its own over the model, with no program in sight. -/
import Derived.Test.YtmakeajjgjnldaaGreatDoorM2
import Derived.DeepKeys5
import Derived.Laws.Externs
import Derived.Laws.LoneSync
import Derived.Laws.StructEq
import Derived.Lib.AppendStr
import Derived.Lib.MakeNoZero
import Derived.Lib.UnsafeStr
import Derived.Sort.Grow
import Derived.WideKeyMaps
set_option linter.unusedVariables false
set_option linter.unusedSimpArgs false
namespace Go.Ab
open Go
/-- The arguments as they are, and as a contract names them. -/
inductive ArgR : List AV → List AV → Prop
  | nil : ArgR [] []
  | same {x : AV} {l l' : List AV} (h : ArgR l l') : ArgR (x :: l) (x :: l')
  | nilS {sz : Nat} {l l' : List AV} (h : ArgR l l') : ArgR (.tr (.val (.slice none 0 0)) :: l) (.tr (.sl sz []) :: l')
theorem ArgR.ras {M : BSet} {ι : LMap} {w : World} {l l' : List AV} (h : ArgR l l') : ∀ {us : List Value}, RAs M ι w l us → RAs M ι w l' us := by
  induction h with
  | nil => intro us h; exact h
  | same _ ih =>
    intro us h
    simp only [RAs] at h ⊢
    obtain ⟨u, us', rfl, h1, h2⟩ := h
    exact ⟨u, us', rfl, h1, ih h2⟩
  | nilS _ ih =>
    intro us h
    simp only [RAs] at h ⊢
    obtain ⟨u, us', rfl, h1, h2⟩ := h
    simp only [RA, RT] at h1
    subst h1
    refine ⟨_, us', rfl, ?_, ih h2⟩
    simp only [RA, RT]
    exact ⟨none, 0, [], rfl, ⟨by simp, by simp, by simp, by simp, by simp⟩, by simp [RTe]⟩
theorem ACalls.argR {P : Program} {f : FuncId} {args args' : List AV} {G : GS} {B : List Nat} {R : AV → GS → Prop} (h : ArgR args' args) (c : ACalls P f args G B R) : ACalls P f args' G B R :=
  fun X ι w vs hs ha => c X ι w vs hs (h.ras ha)
section
variable {P : Program} {n : Nat} {ds : Fx} {G : GS} {ts : TS}
/-- A temporary's content in other words. -/
theorem AL.recast {ops : Array Oper} {rest : List Oper} {Q : Exit → TS → GS → Prop} (t : Nat) (y : AV) {x : AV} (h : look ts t = some x) (e : x = y) (next : AL P n ds ops rest Q ((t, y) :: ts) G) : AL P n ds ops rest Q ts G :=
  fun E ι a w S => next E ι a w (S.again (e ▸ h))
theorem AW.recast {c : Code} {Q : Exit → TS → GS → Prop} (t : Nat) (y : AV) {x : AV} (h : look ts t = some x) (e : x = y) (next : AW P n ds c Q ((t, y) :: ts) G) : AW P n ds c Q ts G :=
  fun E ι a w S => next E ι a w (S.again (e ▸ h))
/-- An object in other words. -/
theorem AL.recastO {ops : Array Oper} {rest : List Oper} {Q : Exit → TS → GS → Prop} (l : Nat) (o : AObj) {q : AObj} (h : look G l = some q) (e : q = o) (next : AL P n ds ops rest Q ts ((l, o) :: dropL l G)) : AL P n ds ops rest Q ts G :=
  fun E ι a w S => next E ι a w (S.reO ⟨_, h⟩ (e ▸ S.hp.obj l q h))
theorem AW.recastO {c : Code} {Q : Exit → TS → GS → Prop} (l : Nat) (o : AObj) {q : AObj} (h : look G l = some q) (e : q = o) (next : AW P n ds c Q ts ((l, o) :: dropL l G)) : AW P n ds c Q ts G :=
  fun E ι a w S => next E ι a w (S.reO ⟨_, h⟩ (e ▸ S.hp.obj l q h))
/-- nil as data. -/
theorem Sat.nilS {E : Env} {ι : LMap} {a : Act} {w : World} (S : Sat E n ds ι G ts a w) (t sz : Nat) (h : look ts t = some (.tr (.val (.slice none 0 0)))) : Sat E n ds ι G ((t, .tr (.sl sz [])) :: ts) a w where
  dfs := S.dfs
  sz := S.sz
  tm := by
    intro t' y hy
    rcases look_cons hy with ⟨rfl, rfl⟩ | ⟨hne, hy⟩
    · obtain ⟨u, hu, hr⟩ := S.tm _ _ h
      simp only [RA, RT] at hr
      subst hr
      refine ⟨_, hu, ?_⟩
      simp only [RA, RT]
      exact ⟨none, 0, [], rfl, ⟨by simp, by simp, by simp, by simp, by simp⟩, by simp [RTe]⟩
    · exact S.tm _ _ hy
  hp := S.hp
  fr := S.fr
  wr := S.wr
  fx := S.fx
theorem AL.nilS {ops : Array Oper} {rest : List Oper} {Q : Exit → TS → GS → Prop} (t sz : Nat) (h : look ts t = some (.tr (.val (.slice none 0 0)))) (next : AL P n ds ops rest Q ((t, .tr (.sl sz [])) :: ts) G) : AL P n ds ops rest Q ts G :=
  fun E ι a w S => next E ι a w (S.nilS t sz h)
theorem AW.nilS {c : Code} {Q : Exit → TS → GS → Prop} (t sz : Nat) (h : look ts t = some (.tr (.val (.slice none 0 0)))) (next : AW P n ds c Q ((t, .tr (.sl sz [])) :: ts) G) : AW P n ds c Q ts G :=
  fun E ι a w S => next E ι a w (S.nilS t sz h)
theorem RAs.nilAt {M : BSet} {ι : LMap} {w : World} (sz : Nat) : ∀ {cs : List AV} {us : List Value} {i : Nat}, cs[i]? = some (.tr (.val (.slice none 0 0))) → RAs M ι w cs us → RAs M ι w (cs.set i (.tr (.sl sz []))) us
  | [], us, i, h, r => by simp at h
  | c :: cs, us, 0, h, r => by
    simp at h; subst h
    simp only [RAs, List.set_cons_zero] at r ⊢
    obtain ⟨u, us', rfl, h1, h2⟩ := r
    refine ⟨u, us', rfl, ?_, h2⟩
    simp only [RA, RT] at h1 ⊢
    subst h1
    exact ⟨none, 0, [], rfl, ⟨by simp, by simp, by simp, by simp, by simp⟩, by simp [RTe]⟩
  | c :: cs, us, i + 1, h, r => by
    simp only [RAs, List.set_cons_succ] at r ⊢
    obtain ⟨u, us', rfl, h1, h2⟩ := r
    exact ⟨u, us', rfl, h1, RAs.nilAt sz (by simpa using h) h2⟩
/-- nil in an object as data. -/
theorem AL.nilO {ops : Array Oper} {rest : List Oper} {Q : Exit → TS → GS → Prop} (l i sz : Nat) {e : TypeId} {cs : List AV} (h : look G l = some (.row e cs)) (hi : cs[i]? = some (.tr (.val (.slice none 0 0)))) (next : AL P n ds ops rest Q ts ((l, .row e (cs.set i (.tr (.sl sz [])))) :: dropL l G)) : AL P n ds ops rest Q ts G :=
  fun E ι a w S => next E ι a w (S.reO ⟨_, h⟩ (by
    rcases S.hp.obj l _ h with ⟨h1, h2⟩ | ⟨b', arr, us, h1, h2, h3, h4⟩
    · subst h2; simp at hi
    · exact .inr ⟨b', arr, us, h1, h2, RAs.nilAt sz hi h3, h4⟩))
/-- nil among the cells of a temporary as data. -/
theorem AL.nilT {ops : Array Oper} {rest : List Oper} {Q : Exit → TS → GS → Prop} (t i sz : Nat) {cs : List Tr} (h : look ts t = some (.tr (.agg cs))) (hi : cs[i]? = some (.val (.slice none 0 0))) (next : AL P n ds ops rest Q ((t, .tr (.agg (cs.set i (.sl sz [])))) :: ts) G) : AL P n ds ops rest Q ts G := by
  intro E ι a w S
  refine next E ι a w { dfs := S.dfs, sz := S.sz, tm := ?_, hp := S.hp, fr := S.fr, wr := S.wr, fx := S.fx }
  intro t' y hy
  rcases look_cons hy with ⟨rfl, rfl⟩ | ⟨hne, hy⟩
  · obtain ⟨u, hu, hr⟩ := S.tm _ _ h
    refine ⟨u, hu, ?_⟩
    simp only [RA, RT] at hr ⊢
    obtain ⟨us, rfl, hr⟩ := hr
    refine ⟨us, rfl, ?_⟩
    have key : ∀ (cs : List Tr) (us : List Value) (i : Nat), cs[i]? = some (.val (.slice none 0 0)) → RTs (Mut E.X ι G) w cs us → RTs (Mut E.X ι G) w (cs.set i (.sl sz [])) us := by
      intro cs
      induction cs with
      | nil => intro us i h r; simp at h
      | cons c cs ih =>
        intro us i h r
        simp only [RTs] at r
        obtain ⟨u, us', rfl, h1, h2⟩ := r
        cases i with
        | zero =>
          simp at h; subst h
          simp only [List.set_cons_zero, RTs, RT] at h1 ⊢
          subst h1
          exact ⟨_, us', rfl, ⟨none, 0, [], rfl, ⟨by simp, by simp, by simp, by simp, by simp⟩, by simp [RTe]⟩, h2⟩
        | succ i =>
          simp only [List.set_cons_succ, RTs]
          exact ⟨u, us', rfl, h1, ih us' i (by simpa using h) h2⟩
    exact key cs us i hi hr
  · exact S.tm _ _ hy
variable {ty : TypeId} {pos : String} {after : Array Edge} {gd : Option (Nat × Bool)} {dst : Option Tmp}
theorem P_lenM {α : Type} {f : α → Tr} {l : List α} {x : Operand} {st e : TypeId} {s1 sz : Nat} (ht : TyIs P st (.slice e) s1) (h : evA ts x = some (.tr (.sl sz (l.map f)))) :
    Pure1 P ⟨dst, .call { callee := .builtin .len, args := #[x], argTypes := #[st] }, ty, pos, after, gd⟩ ts G (vI .i64 (l.length : Nat)) :=
  Pure1.cast (P_lenSl ht h) (by rw [List.length_map])
theorem AL_lenM {α : Type} {f : α → Tr} {l : List α} {ops : Array Oper} {rest : List Oper} {Q : Exit → TS → GS → Prop} {x : Operand} {st e : TypeId} {s1 sz : Nat} {d : Tmp}
    (hg : wantB ops ts ⟨some d, .call { callee := .builtin .len, args := #[x], argTypes := #[st] }, ty, pos, after, gd⟩ = some true) (hd : (⟨some d, .call { callee := .builtin .len, args := #[x], argTypes := #[st] }, ty, pos, after, gd⟩ : Oper).dst = some d) (hn : d < n) (ht : TyIs P st (.slice e) s1) (h : evA ts x = some (.tr (.sl sz (l.map f))))
    (next : (l.length : Int) ≤ 9223372036854775807 → AL P n ds ops rest Q ((d, vI .i64 (l.length : Nat)) :: ts) G) :
    AL P n ds ops (⟨some d, .call { callee := .builtin .len, args := #[x], argTypes := #[st] }, ty, pos, after, gd⟩ :: rest) Q ts G :=
  AL_lenSl hg hd hn ht h fun hh => by rw [List.length_map] at hh ⊢; exact next hh
theorem B_call0 {f : FuncId} {xs : Array Operand} {d : Tmp} {ats : Array TypeId} {args : List AV} {R : AV → GS → Prop} {tsm : TS} {Gm : GS} {x : AV} {g : GS} {ty : TypeId} {pos : String} {after : Array Edge} {gd : Option (Nat × Bool)}
    (c : ACalls P f args [] [] R) (fv : Operand) (hfv : evA tsm fv = some (.fn f [] [])) (hargs : evs tsm xs.toList = some args) (hR : ∀ r G', R r G' → r = x ∧ G' = g) :
    Bth P ⟨some d, .call { callee := .value fv, args := xs, argTypes := ats }, ty, pos, after, gd⟩ tsm Gm x g :=
  B_call c fv hfv hargs SubG.nil fun r G' h => ⟨(hR r G' h).1, by rw [List.append_nil]; exact (hR r G' h).2⟩
theorem B_callR {f : FuncId} {xs : Array Operand} {d : Tmp} {ats : Array TypeId} {args : List AV} {G0 : GS} {R : AV → GS → Prop} {tsm : TS} {Gm : GS} {x : AV} {ty : TypeId} {pos : String} {after : Array Edge} {gd : Option (Nat × Bool)}
    (c : ACalls P f args G0 [] R) (fv : Operand) (hfv : evA tsm fv = some (.fn f [] [])) (hargs : evs tsm xs.toList = some args) (hsub : SubG G0 Gm) (hR : ∀ r G', R r G' → r = x ∧ G' = G0) :
    Bth P ⟨some d, .call { callee := .value fv, args := xs, argTypes := ats }, ty, pos, after, gd⟩ tsm Gm x [] :=
  B_call c fv hfv hargs hsub fun r G' h => hR r G' h
end
end Go.Ab

namespace Go.Ab
open Go

/-- A map's type, and its keys'. -/
structure MapIs (P : Program) (t k e : TypeId) : Prop where
  und : P.underlying t = some (.map k e)
  law : WideMaps.KeyLaw P k
/-- Keys of a type. -/
structure KeyF (P : Program) (k : TypeId) {K : Type} (kf : K → Value) (ok : K → Prop) : Prop where
  inj : ∀ a b, kf a = kf b → a = b
  key : ∀ a, ok a → ∃ l, keyOf P k (kf a) = some l

section
variable {K V : Type} [DecidableEq K]
def ents (kf : K → Value) (vf : V → Tr) (l : List (K × V)) : List (Value × Tr) := l.map fun p => (kf p.1, vf p.2)
def entsA (kf : K → Value) (vf : V → Tr) (l : List (K × V)) : List (Value × AV) := (ents kf vf l).map fun p => (p.1, .tr p.2)
def getL (l : List (K × V)) (k : K) : Option V := match l with
  | [] => none
  | p :: r => if p.1 = k then some p.2 else getL r k
def setL (l : List (K × V)) (k : K) (v : V) : List (K × V) := match l with
  | [] => [(k, v)]
  | p :: r => if p.1 = k then (k, v) :: r else p :: setL r k v
def delL (l : List (K × V)) (k : K) : List (K × V) := match l with
  | [] => []
  | p :: r => if p.1 = k then r else p :: delL r k
def okL (ok : K → Prop) (l : List (K × V)) : Prop := (l.map (·.1)).Nodup ∧ ∀ p ∈ l, ok p.1

theorem getL_none {l : List (K × V)} {k : K} (h : getL l k = none) : ∀ p ∈ l, p.1 ≠ k := by
  induction l with
  | nil => intro p hp; cases hp
  | cons q r ih =>
    intro p hp
    simp only [getL] at h
    split at h
    · cases h
    · rcases List.mem_cons.1 hp with rfl | hp
      · assumption
      · exact ih h p hp
theorem getL_at {l : List (K × V)} {k : K} {v : V} (h : getL l k = some v) : ∃ j, l[j]? = some (k, v) ∧ setL l k = (fun u => l.set j (k, u)) ∧ delL l k = l.eraseIdx j ∧ ∀ i, i < j → ∀ p, l[i]? = some p → p.1 ≠ k := by
  induction l with
  | nil => cases h
  | cons q r ih =>
    simp only [getL] at h
    split at h
    · rename_i e
      injection h with h
      refine ⟨0, by rw [← e, ← h]; rfl, by funext u; simp [setL, e], by simp [delL, e], fun i hi => by omega⟩
    · rename_i e
      obtain ⟨j, h1, h2, h3, h4⟩ := ih h
      refine ⟨j + 1, by simpa using h1, by funext u; simp only [setL, if_neg e, h2]; rfl, by simp only [delL, if_neg e, h3]; rfl, fun i hi p hp => ?_⟩
      cases i with
      | zero => simp at hp; rw [← hp]; exact e
      | succ i => exact h4 i (by omega) p (by simpa using hp)
theorem setL_none {l : List (K × V)} {k : K} (v : V) (h : getL l k = none) : setL l k v = l ++ [(k, v)] := by
  induction l with
  | nil => rfl
  | cons q r ih =>
    simp only [getL] at h
    split at h
    · cases h
    · rename_i e; simp only [setL, if_neg e, ih h]; rfl
theorem delL_none {l : List (K × V)} {k : K} (h : getL l k = none) : delL l k = l := by
  induction l with
  | nil => rfl
  | cons q r ih =>
    simp only [getL] at h
    split at h
    · cases h
    · rename_i e; simp only [delL, if_neg e, ih h]
theorem getL_setL {l : List (K × V)} {k k' : K} {v : V} : getL (setL l k v) k' = if k = k' then some v else getL l k' := by
  induction l with
  | nil => simp [setL, getL]
  | cons p r ih =>
    simp only [setL]
    by_cases e : p.1 = k
    · rw [if_pos e]
      by_cases e2 : k = k'
      · simp [getL, e2]
      · simp [getL, e2, e]
    · rw [if_neg e]
      by_cases e2 : p.1 = k'
      · have : k ≠ k' := fun h => e (e2.trans h.symm)
        simp [getL, e2, this]
      · simp only [getL, if_neg e2, ih]
end

section
variable {P : Program} {n : Nat} {ds : Fx} {E : Env} {ι : LMap} {G : GS} {ts : TS} {a : Act} {w w' : World} {ty : TypeId} {pos : String} {after : Array Edge} {gd : Option (Nat × Bool)} {dst : Option Tmp}
variable {K V : Type} [DecidableEq K] {kf : K → Value} {vf : V → Tr} {ok : K → Prop}

theorem getMap {b : Nat} {arr : Array MapEntry} {clock : Nat} (h : w.heap[b]? = some (.map arr clock)) : (getObj b).run P w = .ok (.map arr clock) w := by simp [getObj, Sem.run, h]
theorem E_makeMap {t : TypeId} (l : Nat) (hF : ds.fx.contains l = false) (hT : freshT l ts = true) (hG : freshG l G = true) : Eff1 P ds ⟨dst, .makeMap t none, ty, pos, after, gd⟩ ts G (.map l) ts ((l, .mapT []) :: G) :=
  fun {E n ι a w} S => by
    refine ⟨.map (some w.heap.size), w.alloc (.map #[] 0), _, ?_, S.born l _ _ hF hT hG (fun M' ι' k hι => ?_), ?_⟩
    · simp only [execOp, Instr.makeMap, Option.map_none, Sem.run_bind, Result.andThen_ok, run_newObj, Sem.run_pure, pure_bind]; rfl
    · exact ⟨w.heap.size, #[], 0, rfl, heap_alloc_at _ _, rfl, by simp, by simp⟩
    · simp [RA]
theorem B_makeMap {t : TypeId} {tsm : TS} {Gm : GS} (l : Nat) : Bth P ⟨dst, .makeMap t none, ty, pos, after, gd⟩ tsm Gm (.map l) [(l, .mapT [])] :=
  fun ts G hT hG hf => EffR.b fun {E n ds ι a w} hx S => E_makeMap l (hx _ (.head _)) (hf _ (.head _)).1 (hf _ (.head _)).2 S

theorem REnts.at_ {M : BSet} : ∀ {es : List (Value × AV)} {arr : List MapEntry}, REnts M ι w es arr → arr.length = es.length ∧ ∀ (j : Nat) (p : Value × AV), es[j]? = some p → ∃ e : MapEntry, arr[j]? = some e ∧ e.key = p.1 ∧ RA M ι w p.2 e.val
  | [], arr, h => by simp only [REnts] at h; subst h; simp
  | q :: es, arr, h => by
    simp only [REnts] at h
    obtain ⟨e, r, rfl, h1, h2, h3⟩ := h
    obtain ⟨i1, i2⟩ := REnts.at_ h3
    refine ⟨by simp [i1], fun j p hp => ?_⟩
    cases j with
    | zero => simp at hp; subst hp; exact ⟨e, rfl, h1, h2⟩
    | succ j => obtain ⟨e', g1, g2⟩ := i2 j p (by simpa using hp); exact ⟨e', by simpa using g1, g2⟩

/-- A map's block, and what a look for a key finds. -/
theorem map_blk (S : Sat E n ds ι G ts a w) {l : Nat} {es : List (Value × Tr)} (hl : look G l = some (.mapT es)) : ∃ b, ι l = some b := by
  obtain ⟨b, arr, clock, h1, _⟩ := S.hp.obj _ _ hl
  exact ⟨b, h1⟩
theorem S_map (S : Sat E n ds ι G ts a w) {l b : Nat} {es : List (Value × Tr)} (hl : look G l = some (.mapT es)) (hb : ι l = some b) : ∃ arr clock, w.heap[b]? = some (.map arr clock) ∧ REnts (Mut E.X ι G) ι w (es.map fun p => (p.1, .tr p.2)) arr.toList ∧ arr.toList.Pairwise (fun x y => x.born < y.born) ∧ ∀ e ∈ arr.toList, e.born < clock := by
  obtain ⟨b', arr, clock, h1, h2, h3, h4, h5⟩ := S.hp.obj l _ hl
  rw [hb] at h1; injection h1 with h1; subst h1
  exact ⟨arr, clock, h2, h3, h4, h5⟩

theorem find_ents {M : BSet} {k : TypeId} (law : WideMaps.KeyLaw P k) (F : KeyF P k kf ok) {l : List (K × V)} (hok : okL ok l) {arr : List MapEntry} (hr : REnts M ι w (entsA kf vf l) arr) (x : K) (hx : ok x) :
    (getL l x = none ∧ (Instr.findKey k (kf x) arr).run P w = .ok none w) ∨ ∃ v j e, getL l x = some v ∧ (Instr.findKey k (kf x) arr).run P w = .ok (some (j, e.val)) w ∧ arr[j]? = some e ∧ e.key = kf x ∧ RA M ι w (.tr (vf v)) e.val ∧ l[j]? = some (x, v) ∧ (∀ u, setL l x u = l.set j (x, u)) ∧ delL l x = l.eraseIdx j := by
  obtain ⟨hlen, hat⟩ := REnts.at_ hr
  obtain ⟨lx, hlx⟩ := F.key x hx
  have hkeys : ∀ e ∈ arr, ∃ q, keyOf P k e.key = some q := by
    intro e he
    obtain ⟨j, hj, rfl⟩ := List.getElem_of_mem he
    have hj' : j < l.length := by rw [hlen] at hj; simpa [entsA, ents] using hj
    obtain ⟨e', g1, g2, _⟩ := hat j (kf l[j].1, .tr (vf l[j].2)) (by simp [entsA, ents, List.getElem?_eq_getElem hj'])
    rw [List.getElem?_eq_getElem hj] at g1
    injection g1 with g1
    rw [g1, g2]
    exact F.key _ (hok.2 _ (List.getElem_mem hj'))
  rcases law.find w hlx arr hkeys with ⟨h1, h2⟩ | ⟨j, e, h1, h2, h3⟩
  · left
    refine ⟨?_, h1⟩
    cases hg : getL l x with
    | none => rfl
    | some v =>
      obtain ⟨j, hj, _⟩ := getL_at hg
      obtain ⟨e, g1, g2, _⟩ := hat j (kf x, .tr (vf v)) (by simp [entsA, ents, hj])
      exact absurd g2 (h2 e (List.mem_of_getElem? g1))
  · right
    have hj : j < arr.length := (List.getElem?_eq_some_iff.1 h2).1
    have hj' : j < l.length := by rw [hlen] at hj; simpa [entsA, ents] using hj
    obtain ⟨e', g1, g2, g3⟩ := hat j (kf l[j].1, .tr (vf l[j].2)) (by simp [entsA, ents, List.getElem?_eq_getElem hj'])
    rw [h2] at g1
    injection g1 with g1
    subst g1
    have hk : l[j].1 = x := F.inj _ _ (g2.symm.trans h3)
    cases hg : getL l x with
    | none => exact absurd hk (getL_none hg _ (List.getElem_mem hj'))
    | some v =>
      obtain ⟨i, q1, q2, q3, q4⟩ := getL_at hg
      have hi : i < l.length := (List.getElem?_eq_some_iff.1 q1).1
      have hij : i = j := by
        have hnd := hok.1
        have e1 : (l.map (·.1))[i]? = some x := by simp [q1]
        have e2 : (l.map (·.1))[j]? = some x := by simp [List.getElem?_eq_getElem hj', hk]
        exact (List.getElem?_inj (by simpa using hi) hnd).1 (e1.trans e2.symm)
      subst hij
      rw [List.getElem?_eq_getElem hj'] at q1
      injection q1 with q1
      have hv : l[i].2 = v := by rw [q1]
      exact ⟨v, i, e, rfl, h1, h2, h3, hv ▸ g3, by rw [List.getElem?_eq_getElem hj', q1], fun u => by rw [q2], q3⟩

/-- A look-up that says whether it found. -/
theorem AL_lookupOk {ops : Array Oper} {rest : List Oper} {Q : Exit → TS → GS → Prop} {x i : Operand} {t k e : TypeId} {lb : Nat} {l : List (K × V)} {key : K} {z : Value} {d : Tmp}
    (M : MapIs P t k e) (F : KeyF P k kf ok) (hz : TyZ P e z) (hg : wantB ops ts ⟨some d, .lookup t x i true, ty, pos, after, gd⟩ = some true) (hn : d < n) (hx : evA ts x = some (.map lb)) (hi : ∀ {E : Env} {n : Nat} {ds : Fx} {ι : LMap} {a : Act} {w : World}, Sat E n ds ι G ts a w → a.eval i = kf key)
    (hl : look G lb = some (.mapT (ents kf vf l))) (hok : okL ok l) (hkey : ok key)
    (h1 : ∀ v, getL l key = some v → AL P n ds ops rest Q ((d, .tup [.tr (vf v), vB true]) :: ts) G) (h2 : getL l key = none → AL P n ds ops rest Q ((d, .tup [.tr (valT z), vB false]) :: ts) G) :
    AL P n ds ops (⟨some d, .lookup t x i true, ty, pos, after, gd⟩ :: rest) Q ts G := by
  intro E ι a w S
  have hr := S.ev hx
  simp only [RA] at hr
  obtain ⟨b, hb⟩ := map_blk S hl
  have ee := hr
  rw [hb] at ee
  obtain ⟨arr, clock, m1, m2, m3, m4⟩ := S_map S hl hb
  obtain ⟨lx, hlx⟩ := F.key key hkey
  refine wpList_step fun K' hK => ?_
  rw [if_pos (S.want hg)]
  unfold Oper.wp
  rcases find_ents M.law F hok m2 key hkey with ⟨q1, q2⟩ | ⟨v, j, e', q1, q2, q3, q4, q5, _⟩
  · have hrun : (execOp a.eval ⟨some d, .lookup t x i true, ty, pos, after, gd⟩).run P w = .ok (.value (.tuple #[z, .bool false])) w := by
      simp only [execOp, ee, hi S, Instr.lookup, Sem.run_bind, run_underlying M.und, Result.andThen_ok, getMap m1, Sem.run_pure, M.law.check w _ hlx, q2, hz.run]
      simp
    rw [hrun, Oper.upon_value]
    exact hK _ _ (h2 q1 E ι _ w (S.put hn (by simp only [RA, RAs]; exact ⟨[z, .bool false], rfl, z, _, rfl, RT_valT z, _, _, rfl, by simp [RT], rfl⟩)))
  · have hrun : (execOp a.eval ⟨some d, .lookup t x i true, ty, pos, after, gd⟩).run P w = .ok (.value (.tuple #[e'.val, .bool true])) w := by
      simp only [execOp, ee, hi S, Instr.lookup, Sem.run_bind, run_underlying M.und, Result.andThen_ok, getMap m1, Sem.run_pure, M.law.check w _ hlx, q2]
      simp
    rw [hrun, Oper.upon_value]
    exact hK _ _ (h1 v q1 E ι _ w (S.put hn (by simp only [RA, RAs]; exact ⟨[e'.val, .bool true], rfl, e'.val, _, rfl, q5, _, _, rfl, by simp [RT], rfl⟩)))
end
end Go.Ab

namespace Go.Ab
open Go
section
variable {P : Program} {n : Nat} {ds : Fx} {E : Env} {ι : LMap} {G : GS} {ts : TS} {a : Act} {w w' : World} {ty : TypeId} {pos : String} {after : Array Edge} {gd : Option (Nat × Bool)} {dst : Option Tmp}
variable {K V : Type} [DecidableEq K] {kf : K → Value} {vf : V → Tr} {ok : K → Prop}

theorem setMap {b : Nat} {arr : Array MapEntry} {clock : Nat} (o : Obj) (h : w.heap[b]? = some (.map arr clock)) : (setObj b o).run P w = .ok () { w with heap := w.heap.setIfInBounds b o } := by simp [setObj, Sem.run, h]

theorem REnts.keepz {M M' : BSet} (k : Go.Ab.Keep M M' w w') : ∀ {es : List (Value × AV)} {arr : List MapEntry}, REnts M ι w es arr → REnts M' ι w' es arr
  | [], arr, h => h
  | p :: es, arr, h => by
    simp only [REnts] at h ⊢
    obtain ⟨e, r, rfl, h1, h2, h3⟩ := h
    exact ⟨e, r, rfl, h1, RA.keep0 k h2, REnts.keepz k h3⟩
/-- The map's block written anew. -/
theorem Sat.turnMap (S : Sat E n ds ι G ts a w) {l b : Nat} {es : List (Value × Tr)} {arr arr2 : Array MapEntry} {clock clock2 : Nat} (hd : InDom G l) (hb : ι l = some b) (hh : w.heap[b]? = some (.map arr clock))
    (hr : REnts (Mut E.X ι G) ι w (es.map fun p => (p.1, .tr p.2)) arr2.toList) (hp : arr2.toList.Pairwise (fun x y => x.born < y.born)) (hc : ∀ e ∈ arr2.toList, e.born < clock2) :
    Sat E n ds ι ((l, .mapT es) :: dropL l G) ts a { w with heap := w.heap.setIfInBounds b (.map arr2 clock2) } := by
  have eι : (fun k => if k = l then some b else ι k) = ι := by
    funext q
    by_cases hq : q = l
    · subst hq; simp [hb]
    · simp [hq]
  have hlt := (S.hp.lt l b hd hb).1
  have hold : ∀ i, i ≠ b → (w.heap.setIfInBounds b (.map arr2 clock2))[i]? = w.heap[i]? := fun i hi => by rw [Array.getElem?_setIfInBounds_ne (Ne.symm hi)]
  have hat : (w.heap.setIfInBounds b (Obj.map arr2 clock2))[b]? = some (.map arr2 clock2) := by rw [Array.getElem?_setIfInBounds_self_of_lt hlt]
  have := S.turn (w' := { w with heap := w.heap.setIfInBounds b (.map arr2 clock2) }) l b (.mapT es) rfl rfl rfl (by simp) (fun i hi hne => hold i (fun e => hne hd (by rw [e]; exact hb)))
    (fun i hi => by
      by_cases e : i = b
      · subst e; simp only [cellsIn, hat, hh]
      · exact cellsIn_of (hold i e))
    (by simpa using hlt) (.inl ⟨hd, hb⟩) (fun _ => hb) (fun _ _ => .inl hb) (fun _ _ _ _ => .inl hb)
    (fun k => by
      rw [eι] at k ⊢
      exact ⟨b, arr2, clock2, rfl, hat, REnts.keepz k hr, hp, hc⟩)
  rwa [eι] at this

theorem REnts.set {M : BSet} : ∀ {es : List (Value × AV)} {arr : List MapEntry} {j : Nat} {e : MapEntry} {x : Value} {v : AV} {u : Value}, REnts M ι w es arr → arr[j]? = some e → e.key = x → RA M ι w v u → REnts M ι w (es.set j (x, v)) (arr.set j { e with val := u })
  | [], arr, j, e, x, v, u, h, hj, _, _ => by simp only [REnts] at h; subst h; simp at hj
  | q :: es, arr, 0, e, x, v, u, h, hj, hx, hv => by
    simp only [REnts] at h
    obtain ⟨e', r, rfl, h1, h2, h3⟩ := h
    simp at hj; subst hj
    simp only [List.set_cons_zero, REnts]
    exact ⟨_, r, rfl, hx, hv, h3⟩
  | q :: es, arr, j + 1, e, x, v, u, h, hj, hx, hv => by
    simp only [REnts] at h
    obtain ⟨e', r, rfl, h1, h2, h3⟩ := h
    simp only [List.set_cons_succ, REnts]
    exact ⟨e', _, rfl, h1, h2, REnts.set h3 (by simpa using hj) hx hv⟩
theorem REnts.snoc {M : BSet} : ∀ {es : List (Value × AV)} {arr : List MapEntry} {e : MapEntry} {v : AV}, REnts M ι w es arr → RA M ι w v e.val → REnts M ι w (es ++ [(e.key, v)]) (arr ++ [e])
  | [], arr, e, v, h, hv => by simp only [REnts] at h; subst h; simp only [List.nil_append, REnts]; exact ⟨e, [], rfl, rfl, hv, rfl⟩
  | q :: es, arr, e, v, h, hv => by
    simp only [REnts] at h
    obtain ⟨e', r, rfl, h1, h2, h3⟩ := h
    simp only [List.cons_append, REnts]
    exact ⟨e', _, rfl, h1, h2, REnts.snoc h3 hv⟩
theorem ents_set {K' V' : Type} {kf : K' → Value} {vf : V' → Tr} (l : List (K' × V')) (j : Nat) (x : K') (v : V') : entsA kf vf (l.set j (x, v)) = (entsA kf vf l).set j (kf x, .tr (vf v)) := by simp [entsA, ents, List.map_set]
theorem ents_snoc {K' V' : Type} {kf : K' → Value} {vf : V' → Tr} (l : List (K' × V')) (x : K') (v : V') : entsA kf vf (l ++ [(x, v)]) = entsA kf vf l ++ [(kf x, .tr (vf v))] := by simp [entsA, ents]

/-- What a store under a key comes to. -/
theorem mapUpdate_core (S : Sat E n ds ι G ts a w) {t k e : TypeId} {lb b : Nat} {l : List (K × V)} {key : K} {v : V} {u : Value} (M : MapIs P t k e) (F : KeyF P k kf ok) (hb : ι lb = some b) (hl : look G lb = some (.mapT (ents kf vf l))) (hok : okL ok l) (hkey : ok key)
    (hv : RA (Mut E.X ι G) ι w (.tr (vf v)) u) : ∃ w', (Instr.mapUpdate t (.map (some b)) (kf key) u).run P w = .ok () w' ∧ Sat E n ds ι ((lb, .mapT (ents kf vf (setL l key v))) :: dropL lb G) ts a w' := by
  obtain ⟨arr, clock, m1, m2, m3, m4⟩ := S_map S hl hb
  obtain ⟨lx, hlx⟩ := F.key key hkey
  rcases find_ents M.law F hok m2 key hkey with ⟨q1, q2⟩ | ⟨v0, j, e0, q1, q2, q3, q4, q5, q6, q7, q8⟩
  · refine ⟨{ w with heap := w.heap.setIfInBounds b (.map (arr.push ⟨kf key, u, clock⟩) (clock + 1)) }, ?_, S.turnMap ⟨_, hl⟩ hb m1 (es := ents kf vf (setL l key v)) ?_ ?_ ?_⟩
    · simp only [Instr.mapUpdate, Sem.run_bind, run_underlying M.und, Result.andThen_ok, getMap m1, M.law.check w _ hlx, q2, setMap _ m1]
    · show REnts _ _ _ (entsA kf vf (setL l key v)) _
      rw [setL_none v q1, ents_snoc, Array.toList_push]; exact REnts.snoc (e := ⟨kf key, u, clock⟩) m2 hv
    · rw [Array.toList_push, List.pairwise_append]; exact ⟨m3, by simp, fun x hx y hy => by simp at hy; subst hy; exact m4 x hx⟩
    · intro x hx; rw [Array.toList_push] at hx
      rcases List.mem_append.1 hx with hx | hx
      · have := m4 x hx; omega
      · simp at hx; subst hx; simp
  · have hj : j < arr.size := by have := (List.getElem?_eq_some_iff.1 q3).1; simpa using this
    have hlist : (arr.modify j fun e => { e with key := kf key, val := u }).toList = arr.toList.set j { e0 with val := u } := by
      apply List.ext_getElem?
      intro i
      rw [Array.getElem?_toList, Array.getElem?_modify, List.getElem?_set, Array.getElem?_toList]
      by_cases h : j = i
      · subst h
        have : arr[j]? = some e0 := by rw [← Array.getElem?_toList]; exact q3
        have h2 : arr[j] = e0 := by rw [Array.getElem?_eq_getElem hj] at this; injection this
        simp [hj, h2, q4]
      · simp [h]
    refine ⟨{ w with heap := w.heap.setIfInBounds b (.map (arr.modify j fun e => { e with key := kf key, val := u }) clock) }, ?_, S.turnMap ⟨_, hl⟩ hb m1 (es := ents kf vf (setL l key v)) ?_ ?_ ?_⟩
    · have hk : ((arr[j]?).map (·.key)).getD (kf key) = kf key := by
        have : arr[j]? = some e0 := by rw [← Array.getElem?_toList]; exact q3
        simp [this, q4]
      simp only [Instr.mapUpdate, Sem.run_bind, run_underlying M.und, Result.andThen_ok, getMap m1, M.law.check w _ hlx, q2, hk, M.law.stays w hlx, setMap _ m1]
    · show REnts _ _ _ (entsA kf vf (setL l key v)) _
      rw [q7, ents_set, hlist]; exact REnts.set m2 q3 q4 hv
    · rw [hlist, List.pairwise_iff_getElem]
      rw [List.pairwise_iff_getElem] at m3
      intro i i' hi hi' hlt
      simp only [List.length_set] at hi hi'
      have key' : ∀ q (hq : q < arr.toList.length), ((arr.toList.set j { e0 with val := u })[q]'(by simpa using hq)).born = (arr.toList[q]).born := by
        intro q hq
        rw [List.getElem_set]
        split
        · rename_i h; subst h
          rw [List.getElem?_eq_getElem hq] at q3
          injection q3 with q3; rw [q3]
        · rfl
      rw [key' i hi, key' i' hi']
      exact m3 i i' hi hi' hlt
    · intro x hx
      rw [hlist] at hx
      rcases List.mem_or_eq_of_mem_set hx with hx | hx
      · exact m4 x hx
      · subst hx; exact m4 e0 (List.mem_of_getElem? q3)

theorem E_mapUpdate {t k e : TypeId} {m i y : Operand} {lb : Nat} {l : List (K × V)} {key : K} {v : V} (M : MapIs P t k e) (F : KeyF P k kf ok) (hx : evA ts m = some (.map lb)) (hi : ∀ {E : Env} {n : Nat} {ds : Fx} {ι : LMap} {a : Act} {w : World}, Sat E n ds ι G ts a w → a.eval i = kf key) (hy : evA ts y = some (.tr (vf v)))
    (hl : look G lb = some (.mapT (ents kf vf l))) (hok : okL ok l) (hkey : ok key) : Eff0 P ds ⟨dst, .mapUpdate t m i y, ty, pos, after, gd⟩ ts G ts ((lb, .mapT (ents kf vf (setL l key v))) :: dropL lb G) :=
  fun {E n ι a w} S => by
    have hr := S.ev hx
    simp only [RA] at hr
    obtain ⟨b, hb⟩ := map_blk S hl
    have ee := hr
    rw [hb] at ee
    obtain ⟨w', h1, h2⟩ := mapUpdate_core (v := v) S M F hb hl hok hkey (S.ev hy)
    exact ⟨w', ι, by simp only [execOp, ee, hi S, Sem.run_bind, h1, Result.andThen_ok, Sem.run_pure], h2⟩

/-- A look-up where what is not there is a zero. -/
theorem P_lookup {t k e : TypeId} {m i : Operand} {lb : Nat} {l : List (K × V)} {key : K} {z : Value} (M : MapIs P t k e) (F : KeyF P k kf ok) (hz : TyZ P e z) (hx : evA ts m = some (.map lb)) (hi : ∀ {E : Env} {n : Nat} {ds : Fx} {ι : LMap} {a : Act} {w : World}, Sat E n ds ι G ts a w → a.eval i = kf key)
    (hl : look G lb = some (.mapT (ents kf vf l))) (hok : okL ok l) (hkey : ok key) : Pure1 P ⟨dst, .lookup t m i false, ty, pos, after, gd⟩ ts G (match getL l key with | some v => .tr (vf v) | none => .tr (valT z)) :=
  fun {E n ds ι a w} S => by
    have hr := S.ev hx
    simp only [RA] at hr
    obtain ⟨b, hb⟩ := map_blk S hl
    have ee := hr
    rw [hb] at ee
    obtain ⟨arr, clock, m1, m2, m3, m4⟩ := S_map S hl hb
    obtain ⟨lx, hlx⟩ := F.key key hkey
    rcases find_ents M.law F hok m2 key hkey with ⟨q1, q2⟩ | ⟨v, j, e', q1, q2, q3, q4, q5, _⟩
    · refine ⟨z, ?_, by rw [q1]; simp only [RA]; exact RT_valT z⟩
      simp only [execOp, ee, hi S, Instr.lookup, Sem.run_bind, run_underlying M.und, Result.andThen_ok, getMap m1, Sem.run_pure, M.law.check w _ hlx, q2, hz.run]
      simp
    · refine ⟨e'.val, ?_, by rw [q1]; exact q5⟩
      simp only [execOp, ee, hi S, Instr.lookup, Sem.run_bind, run_underlying M.und, Result.andThen_ok, getMap m1, Sem.run_pure, M.law.check w _ hlx, q2]
      simp
end
end Go.Ab

namespace Go.Ab
open Go

def kv (l : List Int) : Value := .agg (l.map (Value.int .i64)).toArray
def k1 (a : Int) : Value := .agg #[.int .i64 a]
def k2 (p : Int × Int) : Value := .agg #[.int .i64 p.1, .int .i64 p.2]
def in64 (a : Int) : Prop := -9223372036854775808 ≤ a ∧ a ≤ 9223372036854775807
theorem wf64 {a : Int} (h : in64 a) : (Lit.int .i64 a).wf = true := by
  obtain ⟨h1, h2⟩ := h
  have e1 : IntKind.i64.min = -9223372036854775808 := by decide
  have e2 : IntKind.i64.max = 9223372036854775807 := by decide
  simp [Lit.wf, e1, e2]
  omega

theorem keyF1 {P : Program} {k : TypeId} {f : Field} (hu : P.underlying k = some (.struct #[f])) (hk : P.keyType k = true) (hc : P.cellsOf k = 1) (hn : (f.name != "_") = true) (ho : f.offset = 0) (hft : P.underlying f.type = some (.int .i64)) (hfc : P.cellsOf f.type = 1) (hsz : 1 ≤ P.types.size) :
    KeyF P k k1 in64 where
  inj := fun a b h => by simpa [k1] using h
  key := fun a h => by
    obtain ⟨m, hm⟩ : ∃ m, P.types.size = m + 1 := ⟨P.types.size - 1, by omega⟩
    have hw := wf64 h
    unfold keyOf
    simp only [hu]
    rw [if_pos (by simp [hk, k1, Value.formed, hu, hc])]
    have : P.keyLits (P.types.size + 1) k (k1 a).cells.toList = some [.int .i64 a] := by
      rw [hm]
      simp [Program.keyLits, hu, k1, Value.cells, hc, hn, ho, hft, hfc, hw]
    rw [this]
    exact ⟨_, rfl⟩
theorem keyF2 {P : Program} {k : TypeId} {f g : Field} (hu : P.underlying k = some (.struct #[f, g])) (hk : P.keyType k = true) (hc : P.cellsOf k = 2) (hn : (f.name != "_" && g.name != "_") = true) (ho : f.offset = 0) (ho2 : g.offset = 1) (hft : P.underlying f.type = some (.int .i64)) (hfc : P.cellsOf f.type = 1) (hgt : P.underlying g.type = some (.int .i64)) (hgc : P.cellsOf g.type = 1) (hsz : 1 ≤ P.types.size) :
    KeyF P k k2 (fun p => in64 p.1 ∧ in64 p.2) where
  inj := fun a b h => by
    have : a.1 = b.1 ∧ a.2 = b.2 := by simpa [k2] using h
    exact Prod.ext this.1 this.2
  key := fun a h => by
    obtain ⟨m, hm⟩ : ∃ m, P.types.size = m + 1 := ⟨P.types.size - 1, by omega⟩
    have hw := wf64 h.1
    have hw2 := wf64 h.2
    unfold keyOf
    simp only [hu]
    rw [if_pos (by simp [hk, k2, Value.formed, hu, hc])]
    have : P.keyLits (P.types.size + 1) k (k2 a).cells.toList = some [.int .i64 a.1, .int .i64 a.2] := by
      rw [hm]
      simp [Program.keyLits, hu, k2, Value.cells, hc, hn, ho, ho2, hft, hfc, hgt, hgc, hw, hw2]
    rw [this]
    exact ⟨_, rfl⟩
theorem keyA1 {P : Program} {k e : TypeId} (hu : P.underlying k = some (.array 1 e)) (hk : P.keyType k = true) (hc : P.cellsOf k = 1) (het : P.underlying e = some (.int .i64)) (hec : P.cellsOf e = 1) (hsz : 1 ≤ P.types.size) :
    KeyF P k k1 in64 where
  inj := fun a b h => by simpa [k1] using h
  key := fun a h => by
    obtain ⟨m, hm⟩ : ∃ m, P.types.size = m + 1 := ⟨P.types.size - 1, by omega⟩
    have hw := wf64 h
    unfold keyOf
    simp only [hu]
    rw [if_pos (by simp [hk, k1, Value.formed, hu, hc])]
    have : P.keyLits (P.types.size + 1) k (k1 a).cells.toList = some [.int .i64 a] := by
      rw [hm]
      simp [Program.keyLits, hu, k1, Value.cells, hc, het, hec, hw, List.range_succ]
    rw [this]
    exact ⟨_, rfl⟩

/-! ### m[k]++ in a drawn region -/
section
variable {P : Program} {ops : Array Oper} {Q : Exit → Act → World → Prop}
theorem wpOp_val {i : Nat} {o : Oper} {v : Value} {a : Act} {w w' : World} {K : Act → World → Prop} (ho : ops[i]? = some o) (hg : o.guard = none) (hr : (execOp a.eval o).run P w = .ok (.value v) w') (h : K (a.put o.dst v) w') : wpOp P ops Q i K a w := by
  unfold wpOp
  rw [ho]
  simp only
  rw [if_pos (by simp [Region.wanted, hg])]
  left
  unfold Oper.wp
  rw [hr, Oper.upon_value]; exact h
theorem wpOp_skip {i : Nat} {o : Oper} {a : Act} {w w' : World} {K : Act → World → Prop} (ho : ops[i]? = some o) (hg : o.guard = none) (hr : (execOp a.eval o).run P w = .ok .skip w') (h : K (a.put o.dst undef) w') : wpOp P ops Q i K a w := by
  unfold wpOp
  rw [ho]
  simp only
  rw [if_pos (by simp [Region.wanted, hg])]
  left
  unfold Oper.wp
  rw [hr, Oper.upon_skip]; exact h

/-- Acts that differ at some temporaries alone. -/
structure Near (ds : List Nat) (a a' : Act) : Prop where
  df : a'.defers = a.defers
  sz : a'.tmps.size = a.tmps.size
  tm : ∀ t, t ∉ ds → a'.tmps[t]? = a.tmps[t]?
theorem Near.refl (ds : List Nat) (a : Act) : Near ds a a := ⟨rfl, rfl, fun _ _ => rfl⟩
theorem Near.put {ds : List Nat} {a a' : Act} (h : Near ds a a') {d : Nat} (hd : d ∈ ds) (u : Value) : Near ds a (a'.put (some d) u) where
  df := by simpa [Act.put] using h.df
  sz := by simpa [Act.put] using h.sz
  tm := fun t ht => by
    have : d ≠ t := fun e => ht (e ▸ hd)
    simp only [Act.put, Array.getElem?_setIfInBounds_ne this]; exact h.tm t ht
theorem Near.put0 {ds : List Nat} {a a' : Act} (h : Near ds a a') (u : Value) : Near ds a (a'.put none u) := h

/-- The five operations, in each order that is open. -/
theorem incr_any {i6 i7 i8 i9 i10 d6 d7 d8 d9 : Nat} {o6 o7 o8 o9 o10 : Oper} {u6 u7 u8 u9 : Value} {w0 w1 w2 : World} {a0 : Act} {L : Array Bool}
    (h6 : ops[i6]? = some o6) (h7 : ops[i7]? = some o7) (h8 : ops[i8]? = some o8) (h9 : ops[i9]? = some o9) (h10 : ops[i10]? = some o10)
    (g6 : o6.guard = none ∧ o6.dst = some d6) (g7 : o7.guard = none ∧ o7.dst = some d7) (g8 : o8.guard = none ∧ o8.dst = some d8) (g9 : o9.guard = none ∧ o9.dst = some d9) (g10 : o10.guard = none ∧ o10.dst = none)
    (hd : [d6, d7, d8, d9].Nodup) (hsz : d6 < a0.tmps.size ∧ d7 < a0.tmps.size ∧ d8 < a0.tmps.size ∧ d9 < a0.tmps.size)
    (r0 : Region.ready .any ops L = [i6, i8]) (r6 : Region.ready .any ops (L.setIfInBounds i6 true) = [i7, i8]) (r8 : Region.ready .any ops (L.setIfInBounds i8 true) = [i6, i9])
    (r67 : Region.ready .any ops ((L.setIfInBounds i6 true).setIfInBounds i7 true) = [i8]) (r68 : Region.ready .any ops ((L.setIfInBounds i6 true).setIfInBounds i8 true) = [i7, i9])
    (r86 : Region.ready .any ops ((L.setIfInBounds i8 true).setIfInBounds i6 true) = [i7, i9]) (r89 : Region.ready .any ops ((L.setIfInBounds i8 true).setIfInBounds i9 true) = [i6])
    (r678 : Region.ready .any ops (((L.setIfInBounds i6 true).setIfInBounds i7 true).setIfInBounds i8 true) = [i9]) (r687 : Region.ready .any ops (((L.setIfInBounds i6 true).setIfInBounds i8 true).setIfInBounds i7 true) = [i9])
    (r689 : Region.ready .any ops (((L.setIfInBounds i6 true).setIfInBounds i8 true).setIfInBounds i9 true) = [i7]) (r867 : Region.ready .any ops (((L.setIfInBounds i8 true).setIfInBounds i6 true).setIfInBounds i7 true) = [i9])
    (r869 : Region.ready .any ops (((L.setIfInBounds i8 true).setIfInBounds i6 true).setIfInBounds i9 true) = [i7]) (r896 : Region.ready .any ops (((L.setIfInBounds i8 true).setIfInBounds i9 true).setIfInBounds i6 true) = [i7])
    (rA : Region.ready .any ops ((((L.setIfInBounds i6 true).setIfInBounds i7 true).setIfInBounds i8 true).setIfInBounds i9 true) = [i10]) (rB : Region.ready .any ops ((((L.setIfInBounds i6 true).setIfInBounds i8 true).setIfInBounds i7 true).setIfInBounds i9 true) = [i10])
    (rC : Region.ready .any ops ((((L.setIfInBounds i6 true).setIfInBounds i8 true).setIfInBounds i9 true).setIfInBounds i7 true) = [i10]) (rD : Region.ready .any ops ((((L.setIfInBounds i8 true).setIfInBounds i6 true).setIfInBounds i7 true).setIfInBounds i9 true) = [i10])
    (rE : Region.ready .any ops ((((L.setIfInBounds i8 true).setIfInBounds i6 true).setIfInBounds i9 true).setIfInBounds i7 true) = [i10]) (rF : Region.ready .any ops ((((L.setIfInBounds i8 true).setIfInBounds i9 true).setIfInBounds i6 true).setIfInBounds i7 true) = [i10])
    (e6 : ∀ a, Near [d6, d7, d8, d9] a0 a → ∀ w, w = w0 ∨ w = w1 → (execOp a.eval o6).run P w = .ok (.value u6) w)
    (e7 : ∀ (a : Act) (w : World), a.tmps[d6]? = some u6 → (execOp a.eval o7).run P w = .ok (.value u7) w)
    (e8 : ∀ a, Near [d6, d7, d8, d9] a0 a → (execOp a.eval o8).run P w0 = .ok (.value u8) w1)
    (e9 : ∀ (a : Act) (w : World), a.tmps[d8]? = some u8 → (execOp a.eval o9).run P w = .ok (.value u9) w)
    (e10 : ∀ a, Near [d6, d7, d8, d9] a0 a → a.tmps[d7]? = some u7 → a.tmps[d9]? = some u9 → (execOp a.eval o10).run P w1 = .ok .skip w2)
    (fin : ∀ a f L', Near [d6, d7, d8, d9] a0 a → (L' = ((((L.setIfInBounds i6 true).setIfInBounds i7 true).setIfInBounds i8 true).setIfInBounds i9 true).setIfInBounds i10 true ∨ L' = ((((L.setIfInBounds i6 true).setIfInBounds i8 true).setIfInBounds i7 true).setIfInBounds i9 true).setIfInBounds i10 true ∨
      L' = ((((L.setIfInBounds i6 true).setIfInBounds i8 true).setIfInBounds i9 true).setIfInBounds i7 true).setIfInBounds i10 true ∨ L' = ((((L.setIfInBounds i8 true).setIfInBounds i6 true).setIfInBounds i7 true).setIfInBounds i9 true).setIfInBounds i10 true ∨
      L' = ((((L.setIfInBounds i8 true).setIfInBounds i6 true).setIfInBounds i9 true).setIfInBounds i7 true).setIfInBounds i10 true ∨ L' = ((((L.setIfInBounds i8 true).setIfInBounds i9 true).setIfInBounds i6 true).setIfInBounds i7 true).setIfInBounds i10 true) → wpAny P .any ops Q f L' a w2) (f : Nat) :
    wpAny P .any ops Q (f + 5) L a0 w0 := by
  simp only [List.nodup_cons, List.mem_cons, List.not_mem_nil, or_false, not_or] at hd
  obtain ⟨⟨n67, n68, n69⟩, ⟨n78, n79⟩, n89, _⟩ := hd
  obtain ⟨s6, s7, s8, s9⟩ := hsz
  have m6 : d6 ∈ [d6, d7, d8, d9] := by simp
  have m7 : d7 ∈ [d6, d7, d8, d9] := by simp
  have m8 : d8 ∈ [d6, d7, d8, d9] := by simp
  have m9 : d9 ∈ [d6, d7, d8, d9] := by simp
  have at_ : ∀ (a : Act) (d : Nat) (u : Value), Near [d6, d7, d8, d9] a0 a → d < a0.tmps.size → (a.put (some d) u).tmps[d]? = some u := fun a d u h hlt => by simp [Act.put, h.sz, hlt]
  have ne_ : ∀ (a : Act) (d t : Nat) (u : Value), d ≠ t → (a.put (some d) u).tmps[t]? = a.tmps[t]? := fun a d t u h => by simp [Act.put, Array.getElem?_setIfInBounds_ne h]
  have N0 := Near.refl [d6, d7, d8, d9] a0
  refine wpAny_all r0 (by simp) (fun i hi => ?_)
  simp only [List.mem_cons, List.not_mem_nil, or_false] at hi
  rcases hi with rfl | rfl
  · -- 6 first
    refine wpOp_val h6 g6.1 (e6 a0 N0 w0 (.inl rfl)) ?_
    rw [g6.2]
    have N1 := N0.put m6 u6
    refine wpAny_all r6 (by simp) (fun i hi => ?_)
    simp only [List.mem_cons, List.not_mem_nil, or_false] at hi
    rcases hi with rfl | rfl
    · refine wpOp_val h7 g7.1 (e7 _ w0 (at_ _ _ _ N0 s6)) ?_
      rw [g7.2]
      have N2 := N1.put m7 u7
      refine wpAny_all r67 (by simp) (fun i hi => ?_)
      simp only [List.mem_singleton] at hi; subst hi
      refine wpOp_val h8 g8.1 (e8 _ N2) ?_
      rw [g8.2]
      have N3 := N2.put m8 u8
      refine wpAny_all r678 (by simp) (fun i hi => ?_)
      simp only [List.mem_singleton] at hi; subst hi
      refine wpOp_val h9 g9.1 (e9 _ w1 (at_ _ _ _ N2 s8)) ?_
      rw [g9.2]
      have N4 := N3.put m9 u9
      refine wpAny_all rA (by simp) (fun i hi => ?_)
      simp only [List.mem_singleton] at hi; subst hi
      refine wpOp_skip h10 g10.1 (e10 _ N4 (by rw [ne_ _ _ _ _ (Ne.symm n79), ne_ _ _ _ _ (Ne.symm n78)]; exact at_ _ _ _ N1 s7) (at_ _ _ _ N3 s9)) ?_
      rw [g10.2]
      exact fin _ _ _ (N4.put0 undef) (.inl rfl)
    · refine wpOp_val h8 g8.1 (e8 _ N1) ?_
      rw [g8.2]
      have N2 := N1.put m8 u8
      refine wpAny_all r68 (by simp) (fun i hi => ?_)
      simp only [List.mem_cons, List.not_mem_nil, or_false] at hi
      rcases hi with rfl | rfl
      · refine wpOp_val h7 g7.1 (e7 _ w1 (by rw [ne_ _ _ _ _ (Ne.symm n68)]; exact at_ _ _ _ N0 s6)) ?_
        rw [g7.2]
        have N3 := N2.put m7 u7
        refine wpAny_all r687 (by simp) (fun i hi => ?_)
        simp only [List.mem_singleton] at hi; subst hi
        refine wpOp_val h9 g9.1 (e9 _ w1 (by rw [ne_ _ _ _ _ n78]; exact at_ _ _ _ N1 s8)) ?_
        rw [g9.2]
        have N4 := N3.put m9 u9
        refine wpAny_all rB (by simp) (fun i hi => ?_)
        simp only [List.mem_singleton] at hi; subst hi
        refine wpOp_skip h10 g10.1 (e10 _ N4 (by rw [ne_ _ _ _ _ (Ne.symm n79)]; exact at_ _ _ _ N2 s7) (at_ _ _ _ N3 s9)) ?_
        rw [g10.2]
        exact fin _ _ _ (N4.put0 undef) (.inr (.inl rfl))
      · refine wpOp_val h9 g9.1 (e9 _ w1 (at_ _ _ _ N1 s8)) ?_
        rw [g9.2]
        have N3 := N2.put m9 u9
        refine wpAny_all r689 (by simp) (fun i hi => ?_)
        simp only [List.mem_singleton] at hi; subst hi
        refine wpOp_val h7 g7.1 (e7 _ w1 (by rw [ne_ _ _ _ _ (Ne.symm n69), ne_ _ _ _ _ (Ne.symm n68)]; exact at_ _ _ _ N0 s6)) ?_
        rw [g7.2]
        have N4 := N3.put m7 u7
        refine wpAny_all rC (by simp) (fun i hi => ?_)
        simp only [List.mem_singleton] at hi; subst hi
        refine wpOp_skip h10 g10.1 (e10 _ N4 (at_ _ _ _ N3 s7) (by rw [ne_ _ _ _ _ n79]; exact at_ _ _ _ N2 s9)) ?_
        rw [g10.2]
        exact fin _ _ _ (N4.put0 undef) (.inr (.inr (.inl rfl)))
  · -- 8 first
    refine wpOp_val h8 g8.1 (e8 a0 N0) ?_
    rw [g8.2]
    have N1 := N0.put m8 u8
    refine wpAny_all r8 (by simp) (fun i hi => ?_)
    simp only [List.mem_cons, List.not_mem_nil, or_false] at hi
    rcases hi with rfl | rfl
    · refine wpOp_val h6 g6.1 (e6 _ N1 w1 (.inr rfl)) ?_
      rw [g6.2]
      have N2 := N1.put m6 u6
      refine wpAny_all r86 (by simp) (fun i hi => ?_)
      simp only [List.mem_cons, List.not_mem_nil, or_false] at hi
      rcases hi with rfl | rfl
      · refine wpOp_val h7 g7.1 (e7 _ w1 (at_ _ _ _ N1 s6)) ?_
        rw [g7.2]
        have N3 := N2.put m7 u7
        refine wpAny_all r867 (by simp) (fun i hi => ?_)
        simp only [List.mem_singleton] at hi; subst hi
        refine wpOp_val h9 g9.1 (e9 _ w1 (by rw [ne_ _ _ _ _ n78, ne_ _ _ _ _ n68]; exact at_ _ _ _ N0 s8)) ?_
        rw [g9.2]
        have N4 := N3.put m9 u9
        refine wpAny_all rD (by simp) (fun i hi => ?_)
        simp only [List.mem_singleton] at hi; subst hi
        refine wpOp_skip h10 g10.1 (e10 _ N4 (by rw [ne_ _ _ _ _ (Ne.symm n79)]; exact at_ _ _ _ N2 s7) (at_ _ _ _ N3 s9)) ?_
        rw [g10.2]
        exact fin _ _ _ (N4.put0 undef) (.inr (.inr (.inr (.inl rfl))))
      · refine wpOp_val h9 g9.1 (e9 _ w1 (by rw [ne_ _ _ _ _ n68]; exact at_ _ _ _ N0 s8)) ?_
        rw [g9.2]
        have N3 := N2.put m9 u9
        refine wpAny_all r869 (by simp) (fun i hi => ?_)
        simp only [List.mem_singleton] at hi; subst hi
        refine wpOp_val h7 g7.1 (e7 _ w1 (by rw [ne_ _ _ _ _ (Ne.symm n69)]; exact at_ _ _ _ N1 s6)) ?_
        rw [g7.2]
        have N4 := N3.put m7 u7
        refine wpAny_all rE (by simp) (fun i hi => ?_)
        simp only [List.mem_singleton] at hi; subst hi
        refine wpOp_skip h10 g10.1 (e10 _ N4 (at_ _ _ _ N3 s7) (by rw [ne_ _ _ _ _ n79]; exact at_ _ _ _ N2 s9)) ?_
        rw [g10.2]
        exact fin _ _ _ (N4.put0 undef) (.inr (.inr (.inr (.inr (.inl rfl)))))
    · refine wpOp_val h9 g9.1 (e9 _ w1 (at_ _ _ _ N0 s8)) ?_
      rw [g9.2]
      have N2 := N1.put m9 u9
      refine wpAny_all r89 (by simp) (fun i hi => ?_)
      simp only [List.mem_singleton] at hi; subst hi
      refine wpOp_val h6 g6.1 (e6 _ N2 w1 (.inr rfl)) ?_
      rw [g6.2]
      have N3 := N2.put m6 u6
      refine wpAny_all r896 (by simp) (fun i hi => ?_)
      simp only [List.mem_singleton] at hi; subst hi
      refine wpOp_val h7 g7.1 (e7 _ w1 (at_ _ _ _ N2 s6)) ?_
      rw [g7.2]
      have N4 := N3.put m7 u7
      refine wpAny_all rF (by simp) (fun i hi => ?_)
      simp only [List.mem_singleton] at hi; subst hi
      refine wpOp_skip h10 g10.1 (e10 _ N4 (at_ _ _ _ N3 s7) (by rw [ne_ _ _ _ _ n79, ne_ _ _ _ _ n69]; exact at_ _ _ _ N1 s9)) ?_
      rw [g10.2]
      exact fin _ _ _ (N4.put0 undef) (.inr (.inr (.inr (.inr (.inr rfl)))))
end
end Go.Ab

namespace Go.Ab
open Go
section
variable {P : Program} {n : Nat} {ds : Fx} {E : Env} {ι : LMap} {G : GS} {ts : TS} {a : Act} {w w' : World}
variable {K V : Type} [DecidableEq K] {kf : K → Value} {vf : V → Tr} {ok : K → Prop}

theorem setL_setL (l : List (K × V)) (k : K) (u v : V) : setL (setL l k u) k v = setL l k v := by
  induction l with
  | nil => simp [setL]
  | cons p r ih =>
    simp only [setL]
    by_cases e : p.1 = k
    · simp [e, setL]
    · simp only [if_neg e, setL, ih]
theorem okL_setL {l : List (K × V)} (h : okL ok l) {k : K} (hk : ok k) (v : V) : okL ok (setL l k v) := by
  cases hg : getL l k with
  | none =>
    rw [setL_none v hg]
    refine ⟨?_, fun p hp => ?_⟩
    · rw [List.map_append, List.nodup_append]
      refine ⟨h.1, by simp, fun x hx y hy => ?_⟩
      simp at hy
      obtain ⟨p, hp, rfl⟩ := List.mem_map.1 hx
      rw [hy]; exact getL_none hg p hp
    · rcases List.mem_append.1 hp with hp | hp
      · exact h.2 p hp
      · simp at hp; rw [hp]; exact hk
  | some u =>
    obtain ⟨j, h1, h2, _, _⟩ := getL_at hg
    rw [h2]
    refine ⟨?_, fun p hp => ?_⟩
    · have : (l.set j (k, v)).map (·.1) = l.map (·.1) := by
        rw [List.map_set]
        apply List.ext_getElem?
        intro i
        rw [List.getElem?_set]
        by_cases e : j = i
        · subst e
          have : j < (l.map (·.1)).length := by have := (List.getElem?_eq_some_iff.1 h1).1; simpa using this
          simp only [if_true, if_pos this, List.getElem?_map, h1, Option.map_some]
        · simp [e]
      rw [this]; exact h.1
    · rcases List.mem_or_eq_of_mem_set hp with hp | hp
      · exact h.2 p hp
      · rw [hp]; exact hk

theorem Sat.near {D : List Nat} (S : Sat E n ds ι G ts a w) {a' : Act} (h : Near D a a') (hf : ∀ d ∈ D, look ts d = none) : Sat E n ds ι G ts a' w where
  dfs := h.df.trans S.dfs
  sz := h.sz.trans S.sz
  tm := fun t x hx => by
    obtain ⟨u, h1, h2⟩ := S.tm t x hx
    exact ⟨u, by rw [h.tm t (fun hd => by rw [hf t hd] at hx; cases hx)]; exact h1, h2⟩
  hp := S.hp
  fr := S.fr
  wr := S.wr
  fx := S.fx

/-- A place among a map's entries is taken, or made. -/
theorem mapEntry_core (S : Sat E n ds ι G ts a w) {t k e : TypeId} {lb b : Nat} {l : List (K × Int)} {key : K} (M : MapIs P t k e) (F : KeyF P k kf ok) (hz : TyZ P e (.int .i64 0)) (hb : ι lb = some b) (hl : look G lb = some (.mapT (ents kf i8 l))) (hok : okL ok l) (hkey : ok key) :
    ∃ (v0 : Value) (s : Nat) (w1 : World), (Instr.mapEntry t (.map (some b)) (kf key)).run P w = .ok (.tuple #[v0, goInt s]) w1 ∧ Sat E n ds ι ((lb, .mapT (ents kf i8 (setL l key ((getL l key).getD 0)))) :: dropL lb G) ts a w1 ∧
      ∃ arr1 clock1 j e1, w1.heap[b]? = some (.map arr1 clock1) ∧ arr1[j]? = some e1 ∧ e1.born = s ∧ e1.key = kf key ∧ REnts (Mut E.X ι G) ι w1 (entsA kf i8 (setL l key ((getL l key).getD 0))) arr1.toList ∧ arr1.toList.Pairwise (fun x y => x.born < y.born) ∧ (∀ x ∈ arr1.toList, x.born < clock1) ∧
        (∀ u, setL l key u = (setL l key ((getL l key).getD 0)).set j (key, u)) := by
  obtain ⟨arr, clock, m1, m2, m3, m4⟩ := S_map S hl hb
  obtain ⟨lx, hlx⟩ := F.key key hkey
  have hlt := (S.hp.lt lb b ⟨_, hl⟩ hb).1
  rcases find_ents M.law F hok m2 key hkey with ⟨q1, q2⟩ | ⟨v, j, e0, q1, q2, q3, q4, q5, q6, q7, q8⟩
  · have e0 : (getL l key).getD 0 = 0 := by rw [q1]; rfl
    rw [e0]
    have hr : REnts (Mut E.X ι G) ι w (entsA kf i8 (setL l key 0)) (arr.push ⟨kf key, .int .i64 0, clock⟩).toList := by
      rw [setL_none 0 q1, ents_snoc, Array.toList_push]; exact REnts.snoc (e := ⟨kf key, .int .i64 0, clock⟩) m2 (by simp [RA, RT])
    have hp : (arr.push ⟨kf key, .int .i64 0, clock⟩).toList.Pairwise (fun x y => x.born < y.born) := by
      rw [Array.toList_push, List.pairwise_append]; exact ⟨m3, by simp, fun x hx y hy => by simp at hy; subst hy; exact m4 x hx⟩
    have hc : ∀ x ∈ (arr.push ⟨kf key, .int .i64 0, clock⟩).toList, x.born < clock + 1 := by
      intro x hx; rw [Array.toList_push] at hx
      rcases List.mem_append.1 hx with hx | hx
      · have := m4 x hx; omega
      · simp at hx; subst hx; simp
    refine ⟨.int .i64 0, clock, { w with heap := w.heap.setIfInBounds b (.map (arr.push ⟨kf key, .int .i64 0, clock⟩) (clock + 1)) }, ?_, S.turnMap ⟨_, hl⟩ hb m1 hr hp hc, arr.push ⟨kf key, .int .i64 0, clock⟩, clock + 1, arr.size, ⟨kf key, .int .i64 0, clock⟩, ?_, by simp, rfl, rfl, ?_, hp, hc, fun u => ?_⟩
    · simp only [Instr.mapEntry, Sem.run_bind, run_underlying M.und, Result.andThen_ok, getMap m1, M.law.check w _ hlx, q2, hz.run, setMap _ m1, Sem.run_pure]
    · rw [Array.getElem?_setIfInBounds_self_of_lt hlt]
    · refine REnts.keepz (w := w) ⟨by simp, fun c hc' hm => ?_, fun _ _ h => h, fun c hc' => ?_⟩ hr
      · have : b ≠ c := fun e => hm (.inr ⟨lb, ⟨_, hl⟩, e ▸ hb⟩)
        rw [Array.getElem?_setIfInBounds_ne this]
      · by_cases e : b = c
        · subst e; simp only [cellsIn, Array.getElem?_setIfInBounds_self_of_lt hlt, m1]
        · exact cellsIn_of (by rw [Array.getElem?_setIfInBounds_ne e])
    · have hlen := (REnts.at_ m2).1
      have : arr.size = l.length := by simpa [entsA, ents] using hlen
      rw [setL_none u q1, setL_none 0 q1, this]; simp
  · have e0' : (getL l key).getD 0 = v := by rw [q1]; rfl
    rw [e0']
    have hsame : setL l key v = l := by
      rw [q7]
      apply List.ext_getElem?
      intro i
      rw [List.getElem?_set]
      by_cases e : j = i
      · subst e; rw [if_pos rfl, q6]; simp [(List.getElem?_eq_some_iff.1 q6).1]
      · rw [if_neg e]
    rw [hsame]
    have hj : j < arr.size := by have := (List.getElem?_eq_some_iff.1 q3).1; simpa using this
    have ha : arr[j]? = some e0 := by rw [← Array.getElem?_toList]; exact q3
    have hmod : (arr.modify j fun e => { e with key := kf key }) = arr := by
      apply Array.ext
      · simp
      · intro i h1 h2
        rw [Array.getElem_modify]
        split
        · rename_i h; subst h
          have h2 : arr[j] = e0 := by rw [Array.getElem?_eq_getElem hj] at ha; injection ha
          rw [h2, ← q4]
        · rfl
    have hw : ({ w with heap := w.heap.setIfInBounds b (.map arr clock) } : World) = w := by
      have : w.heap.setIfInBounds b (.map arr clock) = w.heap := by
        apply Array.ext
        · simp
        · intro i h1 h2
          rw [Array.getElem_setIfInBounds (by simpa using h2)]
          split
          · rename_i h; subst h
            rw [Array.getElem?_eq_getElem h2] at m1
            injection m1 with m1; exact m1.symm
          · rfl
      rw [this]
    refine ⟨e0.val, e0.born, w, ?_, S.reO ⟨_, hl⟩ (S.hp.obj lb _ hl), arr, clock, j, e0, m1, ha, rfl, q4, m2, m3, m4, fun u => q7 u⟩
    have hk : ((arr[j]?).map (·.key)).getD (kf key) = kf key := by rw [ha]; simp [q4]
    have hbn : ((arr[j]?).map (fun x => (x.born : Int))).getD 0 = (e0.born : Int) := by rw [ha]; rfl
    simp only [Instr.mapEntry, Sem.run_bind, run_underlying M.und, Result.andThen_ok, getMap m1, M.law.check w _ hlx, q2, hk, M.law.stays w hlx, setMap _ m1, Sem.run_pure, hbn, hmod, hw]

theorem entryStore_core {K' : Type} {kf : K' → Value} (S : Sat E n ds ι G ts a w) {t : TypeId} {lb b : Nat} {l : List (K' × Int)} {key : K'} {arr1 : Array MapEntry} {clock1 j s : Nat} {e1 : MapEntry} {x : Int} (hb : ι lb = some b) (hd : InDom G lb) (hh : w.heap[b]? = some (.map arr1 clock1)) (hj : arr1[j]? = some e1) (hbn : e1.born = s) (hk : e1.key = kf key)
    (hr : REnts (Mut E.X ι G) ι w (entsA kf i8 l) arr1.toList) (hp : arr1.toList.Pairwise (fun x y => x.born < y.born)) (hc : ∀ x ∈ arr1.toList, x.born < clock1) :
    ∃ w2, (Instr.entryStore t (.map (some b)) (goInt s) (.int .i64 x)).run P w = .ok () w2 ∧ Sat E n ds ι ((lb, .mapT (ents kf i8 (l.set j (key, x)))) :: dropL lb G) ts a w2 := by
  have hjl : j < arr1.size := (Array.getElem?_eq_some_iff.1 hj).1
  have he : arr1[j] = e1 := by rw [Array.getElem?_eq_getElem hjl] at hj; injection hj
  have hfind : arr1.findIdx? (fun e => (e.born : Int) == (s : Int)) = some j := by
    rw [Array.findIdx?_eq_some_iff_getElem]
    refine ⟨hjl, by rw [he, hbn]; simp, fun i hi => ?_⟩
    rw [List.pairwise_iff_getElem] at hp
    have := hp i j (by simp; omega) (by simpa using hjl) hi
    simp only [Array.getElem_toList, he, hbn] at this
    simp; omega
  have hlist : (arr1.modify j fun e => { e with val := .int .i64 x }).toList = arr1.toList.set j { e1 with val := .int .i64 x } := by
    apply List.ext_getElem?
    intro i
    rw [Array.getElem?_toList, Array.getElem?_modify, List.getElem?_set, Array.getElem?_toList]
    by_cases h : j = i
    · subst h; simp [hjl, he]
    · simp [h]
  have hjs : arr1.toList[j]? = some e1 := by rw [Array.getElem?_toList]; exact hj
  refine ⟨{ w with heap := w.heap.setIfInBounds b (.map (arr1.modify j fun e => { e with val := .int .i64 x }) clock1) }, ?_, S.turnMap hd hb hh (es := ents kf i8 (l.set j (key, x))) ?_ ?_ ?_⟩
  · simp only [Instr.entryStore, Sem.run_bind, getMap hh, Result.andThen_ok, goInt, asInt, asIntOf, Sem.run_pure, hfind, setMap _ hh]
  · show REnts _ _ _ (entsA kf i8 _) _
    rw [ents_set, hlist]; exact REnts.set hr hjs hk (by simp [RA, RT])
  · rw [hlist, List.pairwise_iff_getElem]
    rw [List.pairwise_iff_getElem] at hp
    intro i i' hi hi' hlt
    simp only [List.length_set] at hi hi'
    have key' : ∀ q (hq : q < arr1.toList.length), ((arr1.toList.set j { e1 with val := .int .i64 x })[q]'(by simpa using hq)).born = (arr1.toList[q]).born := by
      intro q hq
      rw [List.getElem_set]
      split
      · rename_i h; subst h; simp [he]
      · rfl
    rw [key' i hi, key' i' hi']
    exact hp i i' hi hi' hlt
  · intro y hy
    rw [hlist] at hy
    rcases List.mem_or_eq_of_mem_set hy with hy | hy
    · exact hc y hy
    · subst hy; exact hc e1 (List.mem_of_getElem? hjs)

def isL (x : List Nat) (y : List Nat) : Bool := x.length == y.length && (x.zip y).all fun q => Nat.beq q.1 q.2
/-- The orders that are open to the five. -/
def incrOk (ops : Array Oper) (k : Nat) : Bool :=
  let L := upTo ops.size k
  let s (L : Array Bool) (l : List Nat) := l.foldl (fun L i => L.setIfInBounds i true) L
  let r (l : List Nat) (q : List Nat) := Region.ready .any ops (s L l) == q
  let a := k; let b := k + 1; let c := k + 2; let d := k + 3; let e := k + 4
  r [] [a, c] && r [a] [b, c] && r [c] [a, d] && r [a, b] [c] && r [a, c] [b, d] && r [c, a] [b, d] && r [c, d] [a] && r [a, b, c] [d] && r [a, c, b] [d] && r [a, c, d] [b] && r [c, a, b] [d] && r [c, a, d] [b] && r [c, d, a] [b]
    && r [a, b, c, d] [e] && r [a, c, b, d] [e] && r [a, c, d, b] [e] && r [c, a, b, d] [e] && r [c, a, d, b] [e] && r [c, d, a, b] [e]
    && r [a, b, c, d, e] [] && r [a, c, b, d, e] [] && r [a, c, d, b, e] [] && r [c, a, b, d, e] [] && r [c, a, d, b, e] [] && r [c, d, a, b, e] []

set_option maxHeartbeats 1000000 in
theorem AD.incr {id : Nat} {l : List Oper} {Q : Exit → TS → GS → Prop} {its : List It} {t kt et : TypeId} {mo ko : Operand} {d6 d7 d8 d9 : Nat} {lb : Nat} {m : List (K × Int)} {key : K} {tx tyy y6 y7 y8 y9 y10 : TypeId} {p6 p7 p8 p9 p10 : String} {f6 f7 f8 f9 f10 : Array Edge}
    (M : MapIs P t kt et) (F : KeyF P kt kf ok) (hz : TyZ P et (.int .i64 0)) (hm : P.follows .mixedOrders = true) (hk : itOk l.toArray ts G n its its = true) (ht : frontOk l.toArray its = true) (hin : incrOk l.toArray its.length = true)
    (hfx : ((its.flatMap fun it => labs it.g).all fun q => !ds.fx.contains q) = true)
    (h6 : l.toArray[its.length]? = some ⟨some d6, .lookup t mo ko false, y6, p6, f6, none⟩) (h7 : l.toArray[its.length + 1]? = some ⟨some d7, .binOp .add tx (.tmp d6) (.const (.int .i64 1)) tyy, y7, p7, f7, none⟩)
    (h8 : l.toArray[its.length + 2]? = some ⟨some d8, .mapEntry t mo ko, y8, p8, f8, none⟩) (h9 : l.toArray[its.length + 3]? = some ⟨some d9, .extract (.tmp d8) 1, y9, p9, f9, none⟩) (h10 : l.toArray[its.length + 4]? = some ⟨none, .entryStore t mo (.tmp d9) (.tmp d7), y10, p10, f10, none⟩)
    (hsize : l.length = its.length + 5) (hd : [d6, d7, d8, d9].Nodup) (hdn : d6 < n ∧ d7 < n ∧ d8 < n ∧ d9 < n) (hd0 : ∀ d ∈ [d6, d7, d8, d9], look (tsOf ts (fun _ => true) its) d = none)
    (hx : evA (tsOf ts (fun _ => true) its) mo = some (.map lb)) (hi : ∀ {E : Env} {n : Nat} {ds : Fx} {ι : LMap} {a : Act} {w : World} {G : GS}, Sat E n ds ι G (tsOf ts (fun _ => true) its) a w → a.eval ko = kf key)
    (hl : look (GOf G (fun _ => true) its) lb = some (.mapT (ents kf i8 m))) (hok : okL ok m) (hkey : ok key)
    (next : Q .normal (tsOf ts (fun _ => true) its) ((lb, .mapT (ents kf i8 (setL m key (IntKind.i64.wrap ((getL m key).getD 0 + 1))))) :: dropL lb (GOf G (fun _ => true) its))) : AD P n ds id l Q ts G its := by
  intro ho E ι a w S
  have h0 : ∀ i, (Array.replicate l.toArray.size false).getD i false = false := by
    intro i
    rw [Array.getD_eq_getD_getElem?]
    by_cases h : i < l.toArray.size
    · rw [Array.getElem?_eq_getElem (by simpa using h)]; simp
    · rw [Array.getElem?_eq_none (by simpa using h)]; rfl
  refine wp_region_any hm ?_
  have S' : Sat E n ds ι G ts a { w with drawn := w.drawn + 1 } := S.grow rfl rfl rfl (Nat.le_refl _) (fun _ _ => rfl)
  refine front_any (E := E) (ts0 := ts) (G0 := G) (its := its) [] hk ho ht (fun a w ι S => ?_) (fun q hq => by simpa using List.all_eq_true.1 hfx q hq) _ _ a _ ι (by simp) (by simp) (fun j _ => h0 j) (fun i hi => by cases hi) (fun i hi => by rw [h0] at hi; cases hi) ?_
  rotate_left
  · rw [tsOf_none _ _ h0, GOf_none _ _ h0]; exact S'
  generalize tsOf ts (fun _ => true) its = ts1 at *
  generalize GOf G (fun _ => true) its = G1 at *
  have hr := S.ev hx
  simp only [RA] at hr
  obtain ⟨b, hb⟩ := map_blk S hl
  have ee := hr
  rw [hb] at ee
  obtain ⟨v0, s, w1, c1, S1, arr1, clock1, j, e1, c2, c3, c4, c5, c6, c7, c8, c9⟩ := mapEntry_core (P := P) S M F hz hb hl hok hkey
  have hG1 : look ((lb, AObj.mapT (ents kf i8 (setL m key ((getL m key).getD 0)))) :: dropL lb G1) lb = some (.mapT (ents kf i8 (setL m key ((getL m key).getD 0)))) := look_cons_same _ _ _
  have hmu : Mut E.X ι ((lb, AObj.mapT (ents kf i8 (setL m key ((getL m key).getD 0)))) :: dropL lb G1) = Mut E.X ι G1 := by
    funext q; unfold Mut InDom
    have : ∀ k', (∃ o, look ((lb, AObj.mapT (ents kf i8 (setL m key ((getL m key).getD 0)))) :: dropL lb G1) k' = some o) ↔ ∃ o, look G1 k' = some o := by
      intro k'
      by_cases h : k' = lb
      · subst h; rw [look_cons_same]; exact ⟨fun _ => ⟨_, hl⟩, fun _ => ⟨_, rfl⟩⟩
      · rw [show look ((lb, AObj.mapT (ents kf i8 (setL m key ((getL m key).getD 0)))) :: dropL lb G1) k' = look G1 k' from (look_cons_ne _ _ (fun e => h e.symm)).trans (look_dropL_ne h)]
    simp only [this]
  obtain ⟨w2, c10, S2⟩ := entryStore_core (P := P) (t := t) (l := setL m key ((getL m key).getD 0)) (key := key) (x := IntKind.i64.wrap ((getL m key).getD 0 + 1)) S1 hb ⟨_, hG1⟩ c2 c3 c4 c5 (by rw [hmu]; exact c6) c7 c8
  rw [← c9] at S2
  have hdrop : dropL lb ((lb, AObj.mapT (ents kf i8 (setL m key ((getL m key).getD 0)))) :: dropL lb G1) = dropL lb (dropL lb G1) := by simp [dropL]
  have S3 : Sat E n ds ι ((lb, .mapT (ents kf i8 (setL m key (IntKind.i64.wrap ((getL m key).getD 0 + 1))))) :: dropL lb G1) ts1 a w2 := S2.congr (fun _ _ h => h) (fun q => by
    by_cases h : q = lb
    · subst h; rw [look_cons_same, look_cons_same]
    · rw [look_cons_ne _ _ (fun e => h e.symm), look_cons_ne _ _ (fun e => h e.symm), hdrop]; simp only [look_dropL_ne h])
  simp only [incrOk, Bool.and_eq_true, beq_iff_eq, List.foldl_nil, List.foldl_cons] at hin
  obtain ⟨⟨⟨⟨⟨⟨⟨⟨⟨⟨⟨⟨⟨⟨⟨⟨⟨⟨⟨⟨⟨⟨⟨⟨r0, r1⟩, r2⟩, r3⟩, r4⟩, r5⟩, r6⟩, r7⟩, r8⟩, r9⟩, r10⟩, r11⟩, r12⟩, r13⟩, r14⟩, r15⟩, r16⟩, r17⟩, r18⟩, t0⟩, t1⟩, t2⟩, t3⟩, t4⟩, t5⟩ := hin
  rw [show l.toArray.size - its.length = 0 + 5 by simp; omega]
  have hsz : a.tmps.size = n := S.sz
  refine incr_any h6 h7 h8 h9 h10 ⟨rfl, rfl⟩ ⟨rfl, rfl⟩ ⟨rfl, rfl⟩ ⟨rfl, rfl⟩ ⟨rfl, rfl⟩ hd (by rw [hsz]; exact hdn) r0 r1 r2 r3 r4 r5 r6 r7 r8 r9 r10 r11 r12 r13 r14 r15 r16 r17 r18
    (u6 := .int .i64 ((getL m key).getD 0)) (u7 := .int .i64 (IntKind.i64.wrap ((getL m key).getD 0 + 1))) (u8 := .tuple #[v0, goInt s]) (u9 := goInt s) (w1 := w1) (w2 := w2) ?_ ?_ ?_ ?_ ?_ ?_ 0
  · rintro a' hN w' (rfl | rfl)
    · obtain ⟨u, hu1, hu2⟩ := P_lookup (dst := some d6) (ty := y6) (pos := p6) (after := f6) (gd := none) M F hz hx hi hl hok hkey (S.near hN hd0)
      rw [hu1]
      congr 2
      cases hg : getL m key with
      | none => rw [hg] at hu2; simpa [RA, RT, valT] using hu2
      | some v => rw [hg] at hu2; simpa [RA, RT] using hu2
    · obtain ⟨u, hu1, hu2⟩ := P_lookup (dst := some d6) (ty := y6) (pos := p6) (after := f6) (gd := none) M F hz hx hi hG1 (okL_setL hok hkey _) hkey (S1.near hN hd0)
      rw [hu1]
      congr 2
      rw [getL_setL, if_pos rfl] at hu2
      simpa [RA, RT] using hu2
  · intro a' w' h
    have e1 : a'.eval (.tmp d6) = .int .i64 ((getL m key).getD 0) := by simp [Act.eval, h]
    have e2 : a'.eval (.const (.int .i64 1)) = .int .i64 1 := rfl
    simp only [execOp, e1, e2, Sem.run_bind, run_guard_int, Result.andThen_ok, binOp, Op.intArith, Sem.run_pure]
    rfl
  · intro a' hN
    have e1 := (S.near hN hd0).ev hx
    simp only [RA] at e1
    have ee' := e1
    rw [hb] at ee'
    simp only [execOp, ee', hi (S.near hN hd0), Sem.run_bind, c1, Result.andThen_ok, Sem.run_pure]
  · intro a' w' h
    have e1 : a'.eval (.tmp d8) = .tuple #[v0, goInt s] := by simp [Act.eval, h]
    simp [execOp, e1, Instr.extract]
  · intro a' hN h7' h9'
    have e1 := (S.near hN hd0).ev hx
    simp only [RA] at e1
    have ee' := e1
    rw [hb] at ee'
    have e2 : a'.eval (.tmp d9) = goInt s := by simp [Act.eval, h9']
    have e3 : a'.eval (.tmp d7) = .int .i64 (IntKind.i64.wrap ((getL m key).getD 0 + 1)) := by simp [Act.eval, h7']
    simp only [execOp, ee', e2, e3, Sem.run_bind, c10, Result.andThen_ok, Sem.run_pure]
  · intro a' f L' hN hL
    have hQ : Lift E n ds Q .normal a' w2 := ⟨_, _, ι, next, S3.near hN hd0⟩
    rcases hL with rfl | rfl | rfl | rfl | rfl | rfl
    · have hw := wpAny_done (P := P) (Q := Lift E n ds Q) (a := a') (w := w2) t0 hQ f
      exact hw
    · have hw := wpAny_done (P := P) (Q := Lift E n ds Q) (a := a') (w := w2) t1 hQ f
      exact hw
    · have hw := wpAny_done (P := P) (Q := Lift E n ds Q) (a := a') (w := w2) t2 hQ f
      exact hw
    · have hw := wpAny_done (P := P) (Q := Lift E n ds Q) (a := a') (w := w2) t3 hQ f
      exact hw
    · have hw := wpAny_done (P := P) (Q := Lift E n ds Q) (a := a') (w := w2) t4 hQ f
      exact hw
    · have hw := wpAny_done (P := P) (Q := Lift E n ds Q) (a := a') (w := w2) t5 hQ f
      exact hw

theorem evK1 (S : Sat E n ds ι G ts a w) {i : Operand} {x : Int} (h : evA ts i = some (.tr (.agg [.val (.int .i64 x)]))) : a.eval i = k1 x := by
  have hr := S.ev h
  simp only [RA, RT, RTs] at hr
  obtain ⟨us, e, u, us', rfl, rfl, rfl⟩ := hr
  rw [e]; rfl
theorem evK2 (S : Sat E n ds ι G ts a w) {i : Operand} {x y : Int} (h : evA ts i = some (.tr (.agg [.val (.int .i64 x), .val (.int .i64 y)]))) : a.eval i = k2 (x, y) := by
  have hr := S.ev h
  simp only [RA, RT, RTs] at hr
  obtain ⟨us, e, u, us', rfl, rfl, v, vs, rfl, rfl, rfl⟩ := hr
  rw [e]; rfl
end
end Go.Ab

namespace Go.Ab
open Go

theorem digits_int : ∀ (n t : Nat) (acc : Array Value), (∀ v ∈ acc, ∃ k, v = .int .u8 k) → ∀ v ∈ Extern.BytealgMakeNoZero.digits n t acc, ∃ k, v = .int .u8 k
  | 0, _, acc, h => h
  | n + 1, t, acc, h => by
    rw [Extern.BytealgMakeNoZero.digits]
    refine digits_int n _ _ fun v hv => ?_
    rcases Array.mem_push.1 hv with hv | hv
    · exact h v hv
    · exact ⟨_, hv⟩
theorem run_noZero {P : Program} (w : World) (ps : Array TypeId) (t e : TypeId) (ht : P.underlying t = some (.slice e)) (n : Nat) (hn : n ≤ 281474976710656) :
    ∃ cs : Array Value, (Extern.BytealgMakeNoZero.makeNoZero ps #[t] #[.int .i64 n]).run P w = .ok (.slice (some ⟨w.heap.size, 0, none⟩) n cs.size) (w.drew.drew.alloc (.cells cs e)) ∧ n ≤ cs.size ∧ cs.size ≤ maxLen ∧ ∀ v ∈ cs, ∃ k, v = .int .u8 k := by
  have hdef : Extern.BytealgMakeNoZero.makeNoZero ps #[t] #[.int .i64 n] =
      (do
        let .slice elem ← underlying t | stuck "bytealg.MakeNoZero: slice type expected"
        if (n : Int) < 0 || (n : Int) > 2 ^ 48 then runtimePanic (.error "makeslice: len out of range")
        let cap ← choose (.appendCap (n : Int).toNat 0 elem)
        askRoom cap
        let bytes ← choose (.extern "internal/bytealg.MakeNoZero.bytes" 0)
        let a ← newRow elem (Extern.BytealgMakeNoZero.digits cap bytes #[])
        pure (.slice (some a) (n : Int).toNat cap)) := rfl
  refine ⟨Extern.BytealgMakeNoZero.digits (grownCap w n 0 e) ((Question.extern "internal/bytealg.MakeNoZero.bytes" 0).cut (w.tape (w.drawn + 1) (.extern "internal/bytealg.MakeNoZero.bytes" 0))) #[], ?_, ?_, ?_, digits_int _ _ _ (by simp)⟩
  · rw [hdef]
    have h1 : ¬ (n : Int) < 0 := by omega
    have h2 : ¬ (281474976710656 : Int) < (n : Int) := by omega
    simp [run_underlying ht, h1, h2, Question.forced, newRow, Lib.size_digits, grownCap]
  · rw [Lib.size_digits]
    simpa using grownCap_ge w n 0 e
  · rw [Lib.size_digits]
    simpa using grownCap_le_maxLen w n 0 e (by simp only [maxLen]; omega)

theorem acalls_noZero {P : Program} {f : FuncId} {fn : Func} {ps : Array TypeId} {t e : TypeId} {s1 : Nat} (ht : TyIs P t (.slice e) s1) (hf : P.funcs[f]? = some fn) (hname : (fn.name == "runtime.NumGoroutine") = false) (hb : fn.body.isNone = true) (hn : Extern.findNext fn = none)
    (he : Extern.find fn = some (Extern.BytealgMakeNoZero.makeNoZero ps #[t])) (n : Nat) (hle : n ≤ 281474976710656) :
    ACalls P f [vI .i64 (n : Nat)] [] [] (fun r G => ∃ vs : List Value, vs.length = n ∧ r = .own 1 90 0 n ∧ G = [(90, .els e 1 (vs.map Tr.val))]) := by
  intro X ι w us H ha
  simp only [RAs, RA, RT] at ha
  obtain ⟨u, us', rfl, rfl, rfl⟩ := ha
  obtain ⟨cs, hrun, h1, h2, h3⟩ := run_noZero (P := P) w ps t e ht.und n hle
  have hcall : (callFunc f [Value.int .i64 (n : Int)].toArray).run P w = .ok (.value (.slice (some ⟨w.heap.size, 0, none⟩) n cs.size)) (w.drew.drew.alloc (.cells cs e)) := by
    rw [run_callFunc_extern hf hname hb hn he]
    rw [show ([Value.int .i64 (n : Int)] : List Value).toArray = #[Value.int .i64 (n : Int)] from rfl, hrun]; rfl
  unfold CallsF
  rw [hcall]
  simp only
  let ι' : LMap := fun k => if k = 90 then some w.heap.size else ι k
  have hsz : (w.drew.drew.alloc (.cells cs e)).heap.size = w.heap.size + 1 := size_alloc w.drew.drew _
  have hat : (w.drew.drew.alloc (.cells cs e)).heap[w.heap.size]? = some (.cells cs e (0, 0)) := heap_alloc_at w.drew.drew _
  have hold : ∀ b, b < w.heap.size → (w.drew.drew.alloc (.cells cs e)).heap[b]? = w.heap[b]? := fun b hb => heap_alloc_old w.drew.drew _ b hb
  have dom : ∀ l, InDom [(90, AObj.els e 1 ((cs.toList.take n).map Tr.val))] l ↔ l = 90 := by
    intro l
    unfold InDom
    constructor
    · rintro ⟨o, ho⟩
      rcases look_cons ho with ⟨h, _⟩ | ⟨_, h⟩
      · exact h.symm
      · simp [look] at h
    · rintro rfl; exact ⟨_, look_cons_same _ _ _⟩
  have hone : ∀ v ∈ cs.toList.take n, v.oneCell' = true ∧ v.cells = #[v] := by
    intro v hv
    obtain ⟨k, rfl⟩ := h3 v (by have := List.mem_of_mem_take hv; simpa using this)
    exact ⟨rfl, rfl⟩
  have hrte : ∀ (M : BSet) (w' : World) (l : List Value), (∀ v ∈ l, v.cells = #[v]) → RTe M w' 1 (l.map Tr.val) l := by
    intro M w' l
    induction l with
    | nil => intro _; simp [RTe]
    | cons v l ih =>
      intro h
      simp only [List.map_cons, RTe, RT]
      have hv := h v (by simp)
      exact ⟨v, l, by rw [hv]; rfl, by rw [hv]; rfl, rfl, ih fun q hq => h q (by simp [hq])⟩
  refine ⟨_, .own 1 90 0 n, [(90, .els e 1 ((cs.toList.take n).map Tr.val))], ι', rfl, ⟨cs.toList.take n, by simp; omega, rfl, rfl⟩, ?_, ?_, ?_, ?_, ?_, ?_⟩
  · refine { obj := fun l o ho => ?_, inj := fun l l' b hl hl' _ _ => ((dom l).1 hl).trans ((dom l').1 hl').symm, lt := fun l b hl hb => ?_, xlt := fun b hb => by rw [hsz]; have := H.xlt b hb; omega }
    · rcases look_cons ho with ⟨rfl, rfl⟩ | ⟨_, h⟩
      · refine .inr ⟨w.heap.size, cs.toList.take n, cs.toList.drop n, by simp [ι'], ?_, hrte _ _ _ fun v hv => (hone v hv).2, fun v hv => by
          rw [List.take_append_drop] at hv
          obtain ⟨k, rfl⟩ := h3 v (by simpa using hv)
          rfl⟩
        rw [List.take_append_drop]; simpa using hat
      · simp [look] at h
    · have := (dom l).1 hl
      subst this
      simp only [ι', if_true] at hb
      injection hb with hb
      subst hb
      exact ⟨by rw [hsz]; omega, fun hx => by have := H.xlt _ hx; omega⟩
  · simp only [RA]
    refine ⟨_, cs.size, rfl, h1, h2, .inr ⟨w.heap.size, by simp [ι'], rfl, by rw [hsz]; omega, ?_⟩⟩
    refine Nat.le_of_eq ?_
    simp only [cellsIn, hat]; simp
  · exact ⟨rfl, rfl, rfl, by rw [hsz]; omega, fun b hb _ => hold b hb, fun b hb => cellsIn_of (hold b hb)⟩
  · intro l b hl hb
    have := (dom l).1 hl
    subst this
    simp only [ι', if_true] at hb
    injection hb with hb
    exact .inr (by omega)
  · intro l hl; obtain ⟨o, ho⟩ := hl; simp [look] at ho
  · intro l hl
    have : l ≠ 90 := fun h => hl ((dom l).2 h)
    simp [ι', this]

/-- A contract of the shelf that leaves the world alone. -/
theorem acalls_of_calls {P : Program} {f : FuncId} {fn : Func} {c : Code} {args : List AV} {vs0 : List Value} {v : Value} {r : AV} (hf : P.funcs[f]? = some fn) (hb : fn.body = some c) (hname : (fn.name == "runtime.NumGoroutine") = false)
    (hargs : ∀ M ι w us, RAs M ι w args us → us = vs0) (hr : ∀ M ι w, RA M ι w r v) (h : ∀ w, Calls P f vs0.toArray w fun e w' => e = .returned v ∧ w' = w) : ACalls P f args [] [] (fun r' G => r' = r ∧ G = []) := by
  intro X ι w us H ha
  have := hargs _ _ _ _ ha
  subst this
  unfold CallsF
  have hcall : (callFunc f us.toArray).run P w = .ok (.enter f us.toArray) w := by
    simp only [callFunc, Sem.run_bind, run_program, Result.andThen_ok, hf]
    rw [hname]
    simp [hb]
  rw [hcall]
  simp only
  refine (h w).mono ?_
  rintro e w' ⟨rfl, rfl⟩
  exact ⟨v, r, [], ι, rfl, ⟨rfl, rfl⟩, H, hr _ _ _, Fr.refl _ _, fun l b hl => by obtain ⟨o, ho⟩ := hl; simp [look] at ho, fun l hl => by obtain ⟨o, ho⟩ := hl; simp [look] at ho, fun _ _ => rfl⟩

section
variable {P : Program} {G : GS} {ts : TS} {ty : TypeId} {pos : String} {after : Array Edge} {gd : Option (Nat × Bool)} {dst : Option Tmp}
theorem P_sliceOHM {x hi mx : Operand} {st e : TypeId} {s1 sz l off m : Nat} {de : TypeDesc} {k k' : IntKind} {p q : Int} (ht : TyIs P st (.slice e) s1) (he : TyIs P e de sz) (h : evA ts x = some (.own sz l off m)) (hp : evA ts hi = some (vI k p)) (hq : evA ts mx = some (vI k' q)) (h0 : 0 ≤ p ∧ p ≤ q) (h1 : q ≤ m) (h2 : 0 < m) :
    Pure1 P ⟨dst, .slice st x none (some hi) (some mx), ty, pos, after, gd⟩ ts G (.own sz l off p.toNat) :=
  fun {E n ds ι a w} S => by
    have hr := S.ev h
    simp only [RA] at hr
    obtain ⟨A, cap, ee, c1, c2, c3⟩ := hr
    have hel : P.elem st = e := by simp [Program.elem, ht.und]
    have hu : P.underlying st = some (.slice (P.elem st)) := by rw [hel]; exact ht.und
    rcases c3 with ⟨_, c3⟩ | ⟨b, hb, rfl, hblt, hcells⟩
    · omega
    refine ⟨.slice (some ⟨b, off, none⟩) p.toNat q.toNat, ?_, ?_⟩
    · simp only [execOp, ee, Option.map_none, Option.map_some, run_sliceAt_slice _ _ _ _ _ _ hu, Sem.run_bind, S.evV hp, S.evV hq]
      have e1 : (q.toNat : Int) = q := Int.toNat_of_nonneg (by omega)
      have e2 : (p.toNat : Int) = p := Int.toNat_of_nonneg (by omega)
      simp [Instr.slice, run_underlying hu, Instr.sliceBounds, run_sliceBound, hel, he.run_size, e1, e2, h0.1, h0.2, show 0 ≤ q by omega, show q ≤ (cap : Int) by omega]
      exact fun _ => rfl
    · simp only [RA]
      refine ⟨_, q.toNat, rfl, by omega, by omega, .inr ⟨b, hb, rfl, hblt, Nat.le_trans ?_ hcells⟩⟩
      have : q.toNat * sz ≤ cap * sz := Nat.mul_le_mul_right _ (by omega)
      omega
end
end Go.Ab

namespace Go.Ab
open Go
section
variable {P : Program} {n : Nat} {ds : Fx} {G : GS} {ts : TS} {its : List It}
theorem AD.tailP {id : Nat} {l : List Oper} {Q : Exit → TS → GS → Prop} {o0 : Oper} {d0 : Nat} {x0 : AV} {dp : List Nat} (i0 : Nat) (hm : P.follows .mixedOrders = true) (hk : itOk l.toArray ts G n its its = true) (ht : frontOkP l.toArray its [i0] = true) (hq : seqOk l.toArray its = true)
    (hfx : ((its.flatMap fun it => labs it.g).all fun q => !ds.fx.contains q) = true) (hi : l.toArray[i0]? = some o0) (hg : o0.guard = none) (hd : o0.dst = some d0) (hit : itemAt its i0 = some ⟨i0, d0, x0, [], dp⟩) (hx : Pure1 P o0 ts G x0)
    (hw : ∀ a : Act, ∃ u, ∀ w, (execOp a.eval o0).run P w = .ok (.value u) w) (hns : Region.noSelect l.toArray = true) (hfr : Region.free .any l.toArray (Array.replicate l.toArray.size false) i0 = true) (hrd : (Region.ready .any l.toArray (Array.replicate l.toArray.size false)).contains i0 = true)
    (hQ : ∀ c ts G, ¬ Q (.panic c) ts G) (hdp : dp = []) (next : AL P n ds l.toArray (l.drop its.length) Q (tsOf ts (fun _ => true) its) (GOf G (fun _ => true) its)) : AD P n ds id l Q ts G its := by
  intro ho E ι a w S
  have hlt : i0 < l.toArray.size := (Array.getElem?_eq_some_iff.1 hi).1
  have h0 : ∀ i, (Array.replicate l.toArray.size false).getD i false = false := by
    intro i
    rw [Array.getD_eq_getD_getElem?]
    by_cases h : i < l.toArray.size
    · rw [Array.getElem?_eq_getElem (by simpa using h)]; simp
    · rw [Array.getElem?_eq_none (by simpa using h)]; rfl
  have hmem : (⟨i0, d0, x0, [], dp⟩ : It) ∈ its := by
    unfold itemAt at hit
    cases hb : Nat.blt i0 its.length with
    | false => rw [hb] at hit; cases hit
    | true => rw [hb] at hit; exact List.mem_of_getElem? hit
  obtain ⟨_, _, _, gd⟩ := good_of hk ho _ hmem
  refine wp_region_any hm ?_
  have S' : Sat E n ds ι G ts a { w with drawn := w.drawn + 1 } := S.grow rfl rfl rfl (Nat.le_refl _) (fun _ _ => rfl)
  obtain ⟨u, hu⟩ := hw a
  obtain ⟨u', hu1, hu2⟩ := hx S'
  rw [hu] at hu1
  injection hu1 with hu1 _
  injection hu1 with hu1
  subst hu1
  obtain ⟨f, hf⟩ : ∃ f, l.toArray.size = f + 1 := ⟨l.toArray.size - 1, by omega⟩
  have hy : Yields P l.toArray o0 u a := .inl ⟨by simp [Region.wanted, hg], hu⟩
  have hset : ∀ j, ((Array.replicate l.toArray.size false).setIfInBounds i0 true).getD j false = decide (j = i0) := by
    intro j
    by_cases h : i0 = j
    · subst h
      have hlt' : i0 < l.length := by simpa using hlt
      simp [Array.getD_eq_getD_getElem?, Array.getElem?_setIfInBounds, hlt']
    · rw [getD_set_ne false h, h0]; simp [Ne.symm h]
  have S2 := S'.put (d := d0) gd.dn hu2
  have key : wpAny P .any l.toArray (Lift E n ds Q) f ((Array.replicate l.toArray.size false).setIfInBounds i0 true) (a.put o0.dst u) { w with drawn := w.drawn + 1 } := by
    rw [hd]
    refine front_any (E := E) (ts0 := ts) (G0 := G) (its := its) [i0] hk ho ht (fun a w ι S => ?_) (fun q hq => by simpa using List.all_eq_true.1 hfx q hq) f _ _ _ ι (by simp) ?_ (fun j hj => ?_) (fun q hq => by simp at hq; subst hq; rw [hset]; simp) (fun i hL q hq => ?_) (S2.congr (fun t v hv => ?_) (fun q => ?_))
    · refine tail_wp (its := its) hq _ _ (Nat.le_refl _) ?_ a w (by have := next E ι a w S; simpa using this)
      have : its.length ≤ l.toArray.size := by
        simp only [frontOkP, Bool.and_eq_true] at ht
        exact Nat.le_of_ble_eq_true ht.2
      omega
    · have : ((Array.replicate l.toArray.size false).setIfInBounds i0 true).toList = (List.replicate l.toArray.size false).set i0 true := by simp
      rw [this, List.count_set (by simpa using hlt)]
      simp
      have : l.length = f + 1 := by simpa using hf
      omega
    · rw [hset]
      have := (idx_nodup hk ho).2 _ hmem
      simp at this ⊢; omega
    · rw [hset] at hL
      simp at hL
      subst hL
      unfold dpOf at hq
      rw [hit] at hq
      simp [hdp] at hq
    · rw [look_tsOf hk ho] at hv
      rcases hv with ⟨it, h1, h2, h3, h4⟩ | h
      · rw [hset] at h2
        have : it = ⟨i0, d0, x0, [], dp⟩ := inj_nodup (idx_nodup hk ho).1 h1 hmem (by simpa using h2)
        subst this
        simp only at h3 h4
        subst h3 h4
        exact look_cons_same _ _ _
      · have : d0 ≠ t := by intro e; subst e; have := gd.d0; simp only at this; rw [this] at h; cases h
        rw [look_cons_ne _ _ this]; exact h
    · apply Option.ext; intro ob
      rw [look_GOf hk ho (fun _ h => h) (idx_nodup hk ho).1]
      constructor
      · rintro (⟨it, h1, h2, h3⟩ | h)
        · rw [hset] at h2
          have : it = ⟨i0, d0, x0, [], dp⟩ := inj_nodup (idx_nodup hk ho).1 h1 hmem (by simpa using h2)
          subst this
          simp [look] at h3
        · exact h
      · exact .inr
  rw [hf]
  rw [hf] at key hfr hrd
  exact wpAny_take hi hns hfr hrd (fun c a w ⟨ts, G, ι, h, _⟩ => (hQ c ts G h).elim) hy key
theorem move_any {x : Operand} {d : Option Tmp} {ty : TypeId} {pos : String} {after : Array Edge} {gd : Option (Nat × Bool)} (a : Act) : ∃ u, ∀ w, (execOp a.eval ⟨d, .move x, ty, pos, after, gd⟩).run P w = .ok (.value u) w := ⟨a.eval x, fun w => by simp [execOp]⟩
end
end Go.Ab

namespace Go.Ab
open Go

/-- Label l is called k. -/
def renN (l k m : Nat) : Nat := bif Nat.beq m l then k else m
 mutual
def renA (l k : Nat) : AV → AV
  | .own sz m off n => .own sz (renN l k m) off n
  | .owq sz m off n lo hi => .owq sz (renN l k m) off n lo hi
  | .ptrN m off => .ptrN (renN l k m) off
  | .ptr m off => .ptr (renN l k m) off
  | .map m => .map (renN l k m)
  | .fn f first cap => .fn f (renAs l k first) (renAs l k cap)
  | .agg cs => .agg (renAs l k cs)
  | .tup xs => .tup (renAs l k xs)
  | .tr t => .tr t
  | .rp cs => .rp cs
  | .junk => .junk
def renAs (l k : Nat) : List AV → List AV
  | [] => []
  | c :: cs => renA l k c :: renAs l k cs
end
def renO (l k : Nat) : AObj → AObj
  | .row e cs => .row e (renAs l k cs)
  | .map es => .map (es.map fun p => (p.1, renA l k p.2))
  | .mapS es => .mapS (es.map fun p => (p.1, renA l k p.2))
  | o => o
def renG (l k : Nat) : GS → GS
  | [] => []
  | p :: r => (renN l k p.1, renO l k p.2) :: renG l k r
def renT (l k : Nat) : TS → TS
  | [] => []
  | p :: r => (p.1, renA l k p.2) :: renT l k r
def renI (l k : Nat) (ι : LMap) : LMap := fun m => bif Nat.beq m k then ι l else ι m

theorem renI_ren {l k m : Nat} {ι : LMap} (h : m ≠ k) : renI l k ι (renN l k m) = ι m := by
  unfold renI renN
  by_cases e : m = l
  · subst e; rw [beqN_self]; simp
  · rw [beqN_false e]; simp only [cond_false]; rw [beqN_false h]; rfl
theorem renN_inj {l k m m' : Nat} (h : m ≠ k) (h' : m' ≠ k) (e : renN l k m = renN l k m') : m = m' := by
  unfold renN at e
  by_cases e1 : m = l <;> by_cases e2 : m' = l
  · omega
  · rw [e1, beqN_self, beqN_false e2] at e; simp at e; omega
  · rw [e2, beqN_self, beqN_false e1] at e; simp at e; omega
  · rw [beqN_false e1, beqN_false e2] at e; simpa using e

 mutual
theorem RA.ren {M : BSet} {ι : LMap} {w : World} {l k : Nat} : ∀ (x : AV) (u : Value), noRef k x = true → RA M ι w x u → RA M (renI l k ι) w (renA l k x) u
  | .tr t, u, hn, h => by simpa only [renA, RA] using h
  | .own sz m off n, u, hn, h => by
    simp only [RA, renA] at h ⊢
    rw [renI_ren (beq_ne hn)]; exact h
  | .owq sz m off n lo hi, u, hn, h => by
    simp only [RA, renA] at h ⊢
    rw [renI_ren (beq_ne hn)]; exact h
  | .ptrN m off, u, hn, h => by
    simp only [RA, renA] at h ⊢
    rw [renI_ren (beq_ne hn)]; exact h
  | .ptr m off, u, hn, h => by
    simp only [RA, renA] at h ⊢
    rw [renI_ren (beq_ne hn)]; exact h
  | .rp cs, u, hn, h => by simpa only [renA, RA] using h
  | .map m, u, hn, h => by
    simp only [RA, renA] at h ⊢
    rw [renI_ren (beq_ne hn)]; exact h
  | .fn f first cap, u, hn, h => by
    simp only [RA, renA] at h ⊢
    simp only [noRef, allRef, Bool.and_eq_true] at hn
    obtain ⟨fs, cs, rfl, h1, h2⟩ := h
    exact ⟨fs, cs, rfl, RAs.ren first fs hn.1 h1, RAs.ren cap cs hn.2 h2⟩
  | .agg cs, u, hn, h => by
    simp only [RA, renA] at h ⊢
    simp only [noRef, allRef] at hn
    obtain ⟨us, rfl, h⟩ := h
    exact ⟨us, rfl, RAs.ren cs us hn h⟩
  | .tup xs, u, hn, h => by
    simp only [RA, renA] at h ⊢
    simp only [noRef, allRef] at hn
    obtain ⟨us, rfl, h⟩ := h
    exact ⟨us, rfl, RAs.ren xs us hn h⟩
  | .junk, u, hn, h => by simp [renA, RA]
theorem RAs.ren {M : BSet} {ι : LMap} {w : World} {l k : Nat} : ∀ (xs : List AV) (us : List Value), noRefs k xs = true → RAs M ι w xs us → RAs M (renI l k ι) w (renAs l k xs) us
  | [], us, hn, h => by simpa [RAs, renAs] using h
  | c :: cs, us, hn, h => by
    simp only [RAs, renAs] at h ⊢
    simp only [noRefs, allRefs, Bool.and_eq_true] at hn
    obtain ⟨u, us', rfl, h1, h2⟩ := h
    exact ⟨u, us', rfl, RA.ren c u hn.1 h1, RAs.ren cs us' hn.2 h2⟩
end
theorem REnts.ren {M : BSet} {ι : LMap} {w : World} {l k : Nat} : ∀ (ps : List (Value × AV)) (es : List MapEntry), (ps.all fun q => noRef k q.2) = true → REnts M ι w ps es → REnts M (renI l k ι) w (ps.map fun p => (p.1, renA l k p.2)) es
  | [], es, _, h => h
  | q :: ps, es, hn, h => by
    obtain ⟨e, es', rfl, h1, h2, h3⟩ := h
    simp only [List.all_cons, Bool.and_eq_true] at hn
    exact ⟨e, es', rfl, h1, RA.ren _ _ hn.1 h2, REnts.ren ps es' hn.2 h3⟩
theorem REnts.trs {M : BSet} {ι ι' : LMap} {w : World} : ∀ (ps : List (Value × Tr)) (es : List MapEntry), REnts M ι w (ps.map fun p => (p.1, .tr p.2)) es → REnts M ι' w (ps.map fun p => (p.1, .tr p.2)) es
  | [], es, h => h
  | q :: ps, es, h => by
    obtain ⟨e, es', rfl, h1, h2, h3⟩ := h
    exact ⟨e, es', rfl, h1, by simpa only [RA] using h2, REnts.trs ps es' h3⟩
theorem RO.ren {M : BSet} {ι : LMap} {w : World} {l k : Nat} (o : AObj) (b : Option Nat) (hn : noRefO k o = true) (h : RO M ι w o b) : RO M (renI l k ι) w (renO l k o) b := by
  cases o with
  | row e cs =>
    rcases h with ⟨h1, rfl⟩ | ⟨i, arr, us, e1, h1, h2, h3⟩
    · exact .inl ⟨h1, rfl⟩
    · exact .inr ⟨i, arr, us, e1, h1, RAs.ren cs us hn h2, h3⟩
  | els e sz xs => exact h
  | map es =>
    obtain ⟨i, arr, clock, e1, h1, h2, h3⟩ := h
    exact ⟨i, arr, clock, e1, h1, REnts.ren _ _ hn h2, h3⟩
  | mapT es =>
    obtain ⟨i, arr, clock, e1, h1, h2, h3⟩ := h
    exact ⟨i, arr, clock, e1, h1, REnts.trs _ _ h2, h3⟩
  | mapS es =>
    obtain ⟨es', hp, i, arr, clock, e1, h1, h2, h3⟩ := h
    refine ⟨_, hp.map _, i, arr, clock, e1, h1, REnts.ren _ _ ?_ h2, h3⟩
    exact List.all_eq_true.2 fun q hq => List.all_eq_true.1 hn q (hp.mem_iff.1 hq)
  | cst q ob => exact h

theorem look_renT {l k : Nat} : ∀ {ts : TS} {t : Nat} {x : AV}, look (renT l k ts) t = some x → ∃ y, look ts t = some y ∧ x = renA l k y
  | [], t, x, h => by simp [renT, look] at h
  | p :: r, t, x, h => by
    simp only [renT, look] at h ⊢
    cases hb : Nat.beq p.1 t with
    | true => rw [hb] at h; simp only [cond_true, Option.some.injEq] at h ⊢; exact ⟨_, rfl, h.symm⟩
    | false => rw [hb] at h; exact look_renT h
theorem look_renG {l k : Nat} : ∀ {G : GS} {m : Nat} {o : AObj}, (∀ p ∈ G, p.1 ≠ k) → look (renG l k G) m = some o → ∃ m0 o0, look G m0 = some o0 ∧ o = renO l k o0 ∧ renN l k m0 = m ∧ m0 ≠ k
  | [], m, o, _, h => by simp [renG, look] at h
  | p :: r, m, o, hk, h => by
    simp only [renG, look] at h
    by_cases e : renN l k p.1 = m
    · rw [e, beqN_self] at h
      simp only [cond_true, Option.some.injEq] at h
      exact ⟨p.1, p.2, look_cons_same _ _ _, h.symm, e, hk p (by simp)⟩
    · rw [beqN_false e] at h
      obtain ⟨m0, o0, h1, h2, h3, h4⟩ := look_renG (fun q hq => hk q (by simp [hq])) h
      refine ⟨m0, o0, ?_, h2, h3, h4⟩
      have : look ((p.1, p.2) :: r) m0 = look r m0 := look_cons_ne _ _ (by intro e2; subst e2; exact e h3)
      rw [← h1]; exact this
theorem look_renG_at {l k : Nat} : ∀ {G : GS} {m : Nat} {o : AObj}, (∀ p ∈ G, p.1 ≠ k) → m ≠ k → look G m = some o → look (renG l k G) (renN l k m) = some (renO l k o)
  | [], m, o, _, _, h => by simp [look] at h
  | p :: r, m, o, hk, hm, h => by
    rcases look_cons (t := p.1) (x := p.2) (r := r) h with ⟨h1, h2⟩ | ⟨h1, h2⟩
    · subst h1; subst h2; exact look_cons_same _ _ _
    · have : look ((renN l k p.1, renO l k p.2) :: renG l k r) (renN l k m) = look (renG l k r) (renN l k m) := look_cons_ne _ _ (fun e => h1 (renN_inj (hk p (by simp)) hm e))
      exact this.trans (look_renG_at (fun q hq => hk q (by simp [hq])) hm h2)

section
variable {P : Program} {n : Nat} {ds : Fx} {E : Env} {ι : LMap} {G : GS} {ts : TS} {a : Act} {w : World}
theorem Sat.ren (S : Sat E n ds ι G ts a w) (l k : Nat) (hF : ds.fx.contains k = false) (hT : freshT k ts = true) (hG : freshG k G = true) : Sat E n ds (renI l k ι) (renG l k G) (renT l k ts) a w := by
  have hk : ∀ p ∈ G, p.1 ≠ k ∧ noRefO k p.2 = true := by
    intro p hp
    have := List.all_eq_true.1 hG p hp
    simp only [Bool.and_eq_true] at this
    exact ⟨beq_ne this.1, this.2⟩
  have hk1 : ∀ p ∈ G, p.1 ≠ k := fun p hp => (hk p hp).1
  have dom : ∀ m, InDom (renG l k G) m → ∃ m0, InDom G m0 ∧ renN l k m0 = m ∧ m0 ≠ k := by
    rintro m ⟨o, ho⟩
    obtain ⟨m0, o0, h1, _, h3, h4⟩ := look_renG hk1 ho
    exact ⟨m0, ⟨o0, h1⟩, h3, h4⟩
  have dom2 : ∀ m, InDom G m → m ≠ k := by
    rintro m ⟨o, ho⟩
    exact hk1 _ (mem_of_look ho)
  have hm : Mut E.X (renI l k ι) (renG l k G) = Mut E.X ι G := by
    funext b
    apply propext
    constructor
    · rintro (h | ⟨m, hd, e⟩)
      · exact .inl h
      · obtain ⟨m0, h1, rfl, h3⟩ := dom m hd
        rw [renI_ren h3] at e
        exact .inr ⟨m0, h1, e⟩
    · rintro (h | ⟨m, hd, e⟩)
      · exact .inl h
      · have h3 := dom2 m hd
        obtain ⟨o, ho⟩ := hd
        exact .inr ⟨renN l k m, ⟨_, look_renG_at hk1 h3 ho⟩, by rw [renI_ren h3]; exact e⟩
  refine { dfs := S.dfs, sz := S.sz, tm := ?_, hp := ?_, fr := S.fr, wr := ?_, fx := ?_ }
  · intro t x hx
    obtain ⟨y, hy, rfl⟩ := look_renT hx
    obtain ⟨u, hu, hr⟩ := S.tm t y hy
    rw [hm]
    have hn : noRef k y = true := List.all_eq_true.1 hT (t, y) (mem_of_look hy)
    exact ⟨u, hu, RA.ren y u hn hr⟩
  · refine { obj := ?_, inj := ?_, lt := ?_, xlt := S.hp.xlt }
    · intro m o ho
      obtain ⟨m0, o0, h1, rfl, rfl, h4⟩ := look_renG hk1 ho
      rw [hm, renI_ren h4]
      exact RO.ren o0 _ (hk _ (mem_of_look h1)).2 (S.hp.obj m0 o0 h1)
    · intro m m' b hd hd' e e'
      obtain ⟨m0, h1, rfl, h3⟩ := dom m hd
      obtain ⟨m1, h1', rfl, h3'⟩ := dom m' hd'
      rw [renI_ren h3] at e
      rw [renI_ren h3'] at e'
      rw [S.hp.inj m0 m1 b h1 h1' e e']
    · intro m b hd e
      obtain ⟨m0, h1, rfl, h3⟩ := dom m hd
      rw [renI_ren h3] at e
      exact S.hp.lt m0 b h1 e
  · intro m b hd e
    obtain ⟨m0, h1, rfl, h3⟩ := dom m hd
    rw [renI_ren h3] at e
    exact S.wr m0 b h1 e
  · intro m hm'
    have : m ≠ k := by
      intro e; subst e
      have := List.contains_iff_mem.2 hm'
      rw [hF] at this; cases this
    rw [← S.fx m hm']
    unfold renI
    rw [beqN_false this]; rfl
theorem AL.ren {ops : Array Oper} {rest : List Oper} {Q : Exit → TS → GS → Prop} (l k : Nat) (hF : ds.fx.contains k = false) (hT : freshT k ts = true) (hG : freshG k G = true) (next : AL P n ds ops rest Q (renT l k ts) (renG l k G)) : AL P n ds ops rest Q ts G :=
  fun E ι a w S => next E _ a w (S.ren l k hF hT hG)
theorem AW.ren {c : Code} {Q : Exit → TS → GS → Prop} (l k : Nat) (hF : ds.fx.contains k = false) (hT : freshT k ts = true) (hG : freshG k G = true) (next : AW P n ds c Q (renT l k ts) (renG l k G)) : AW P n ds c Q ts G :=
  fun E ι a w S => next E _ a w (S.ren l k hF hT hG)
end
end Go.Ab

namespace Go.Ab
open Go

/-- What some temporaries hold. -/
inductive KeepT (ts : TS) : List Nat → TS → Prop
  | nil : KeepT ts [] []
  | cons {t : Nat} {x : AV} {l : List Nat} {r : TS} (h : look ts t = some x) (h' : KeepT ts l r) : KeepT ts (t :: l) ((t, x) :: r)
inductive KeepG (G : GS) : List Nat → GS → Prop
  | nil : KeepG G [] []
  | cons {t : Nat} {x : AObj} {l : List Nat} {r : GS} (h : look G t = some x) (h' : KeepG G l r) : KeepG G (t :: l) ((t, x) :: r)
theorem KeepT.sub {n : Nat} {ts : TS} {l : List Nat} {K : TS} (h : KeepT ts l K) (hn : (l.all fun t => Nat.blt t n) = true) : SubT n K ts := by
  induction h with
  | nil => exact SubT.nil
  | cons h h' ih =>
    simp only [List.all_cons, Bool.and_eq_true] at hn
    exact SubT.cons (by simpa [Nat.blt_eq] using hn.1) h (ih hn.2)
theorem KeepG.sub {G : GS} {l : List Nat} {K : GS} (h : KeepG G l K) : SubG K G := by
  induction h with
  | nil => exact SubG.nil
  | cons h h' ih => exact SubG.cons h ih
theorem SubT.app {n : Nat} {A B ts : TS} (h : SubT n A ts) (h' : SubT n B ts) : SubT n (A ++ B) ts := fun p hp => (List.mem_append.1 hp).elim (h p) (h' p)
theorem SubG.app {A B G : GS} (h : SubG A G) (h' : SubG B G) : SubG (A ++ B) G := fun p hp => (List.mem_append.1 hp).elim (h p) (h' p)

section
variable {P : Program} {n : Nat} {ds : Fx} {G : GS} {ts : TS}
theorem AW.loopK {σ : Type} {c : Code} {Q : Exit → TS → GS → Prop} {K : TS} {KG : GS} (ks kg : List Nat) (hk : KeepT ts ks K) (hg : KeepG G kg KG) (hn : (ks.all fun t => Nat.blt t n) = true) (T : σ → TS) (H : σ → GS) (I : σ → Prop) (μ : σ → Nat) (s0 : σ) (h0 : I s0)
    (hT : SubT n (T s0) ts) (hH : SubG (H s0) G)
    (round : ∀ s, I s → AW P n ds c (Round n (fun s => T s ++ K) (fun s => H s ++ KG) I μ s Q) (T s ++ K) (H s ++ KG)) : AW P n ds (.loop c) Q ts G :=
  AW.loop (fun s => T s ++ K) (fun s => H s ++ KG) I μ s0 h0 (hT.app (hk.sub hn)) (hH.app hg.sub) round
theorem Round.goK {σ : Type} {Q : Exit → TS → GS → Prop} {T : σ → TS} {H : σ → GS} {K : TS} {KG : GS} {I : σ → Prop} {μ : σ → Nat} {s : σ} {ks kg : List Nat} (hn : (ks.all fun t => Nat.blt t n) = true) (s' : σ) (hi : I s') (hm : μ s' < μ s) (hT : SubT n (T s') ts) (hH : SubG (H s') G)
    (hk : KeepT ts ks K) (hg : KeepG G kg KG) : Round n (fun s => T s ++ K) (fun s => H s ++ KG) I μ s Q .normal ts G :=
  ⟨s', hi, hm, hT.app (hk.sub hn), hH.app hg.sub⟩
end

section
variable {P : Program} {n : Nat} {ds : Fx} {E : Env} {ι : LMap} {G : GS} {ts : TS} {a : Act} {w : World}
variable {dst : Option Tmp} {ty : TypeId} {pos : String} {after : Array Edge} {gd : Option (Nat × Bool)}
variable {K : Type} [DecidableEq K] {V : Type} {kf : K → Value} {vf : V → Tr} {ok : K → Prop}
/-- vz stands for the zero. -/
def ZeroIs (vf : V → Tr) (vz : V) (z : Value) : Prop := ∀ (M : BSet) (w : World), RT M w (vf vz) z
theorem P_lookupD {t k e : TypeId} {m i : Operand} {lb : Nat} {l : List (K × V)} {key : K} {z : Value} (vz : V) (hvz : ZeroIs vf vz z) (M : MapIs P t k e) (F : KeyF P k kf ok) (hz : TyZ P e z) (hx : evA ts m = some (.map lb)) (hi : ∀ {E : Env} {n : Nat} {ds : Fx} {ι : LMap} {a : Act} {w : World}, Sat E n ds ι G ts a w → a.eval i = kf key)
    (hl : look G lb = some (.mapT (ents kf vf l))) (hok : okL ok l) (hkey : ok key) : Pure1 P ⟨dst, .lookup t m i false, ty, pos, after, gd⟩ ts G (.tr (vf ((getL l key).getD vz))) :=
  fun {E n ds ι a w} S => by
    have hr := S.ev hx
    simp only [RA] at hr
    obtain ⟨b, hb⟩ := map_blk S hl
    have ee := hr
    rw [hb] at ee
    obtain ⟨arr, clock, m1, m2, m3, m4⟩ := S_map S hl hb
    obtain ⟨lx, hlx⟩ := F.key key hkey
    rcases find_ents M.law F hok m2 key hkey with ⟨q1, q2⟩ | ⟨v, j, e', q1, q2, q3, q4, q5, _⟩
    · refine ⟨z, ?_, by rw [q1]; simp only [RA, Option.getD_none]; exact hvz _ _⟩
      simp only [execOp, ee, hi S, Instr.lookup, Sem.run_bind, run_underlying M.und, Result.andThen_ok, getMap m1, Sem.run_pure, M.law.check w _ hlx, q2, hz.run]
      simp
    · refine ⟨e'.val, ?_, by rw [q1]; exact q5⟩
      simp only [execOp, ee, hi S, Instr.lookup, Sem.run_bind, run_underlying M.und, Result.andThen_ok, getMap m1, Sem.run_pure, M.law.check w _ hlx, q2]
      simp
theorem P_lookupOkD {t k e : TypeId} {m i : Operand} {lb : Nat} {l : List (K × V)} {key : K} {z : Value} (vz : V) (hvz : ZeroIs vf vz z) (M : MapIs P t k e) (F : KeyF P k kf ok) (hz : TyZ P e z) (hx : evA ts m = some (.map lb)) (hi : ∀ {E : Env} {n : Nat} {ds : Fx} {ι : LMap} {a : Act} {w : World}, Sat E n ds ι G ts a w → a.eval i = kf key)
    (hl : look G lb = some (.mapT (ents kf vf l))) (hok : okL ok l) (hkey : ok key) : Pure1 P ⟨dst, .lookup t m i true, ty, pos, after, gd⟩ ts G (.tup [.tr (vf ((getL l key).getD vz)), vB (getL l key).isSome]) :=
  fun {E n ds ι a w} S => by
    have hr := S.ev hx
    simp only [RA] at hr
    obtain ⟨b, hb⟩ := map_blk S hl
    have ee := hr
    rw [hb] at ee
    obtain ⟨arr, clock, m1, m2, m3, m4⟩ := S_map S hl hb
    obtain ⟨lx, hlx⟩ := F.key key hkey
    rcases find_ents M.law F hok m2 key hkey with ⟨q1, q2⟩ | ⟨v, j, e', q1, q2, q3, q4, q5, _⟩
    · refine ⟨.tuple #[z, .bool false], ?_, ?_⟩
      · simp only [execOp, ee, hi S, Instr.lookup, Sem.run_bind, run_underlying M.und, Result.andThen_ok, getMap m1, Sem.run_pure, M.law.check w _ hlx, q2, hz.run]
        simp
      · simp only [RA, RAs]
        exact ⟨[z, .bool false], rfl, z, _, rfl, by rw [q1]; exact hvz _ _, _, _, rfl, by simp [RT, q1], rfl⟩
    · refine ⟨.tuple #[e'.val, .bool true], ?_, ?_⟩
      · simp only [execOp, ee, hi S, Instr.lookup, Sem.run_bind, run_underlying M.und, Result.andThen_ok, getMap m1, Sem.run_pure, M.law.check w _ hlx, q2]
        simp
      · simp only [RA, RAs]
        exact ⟨[e'.val, .bool true], rfl, e'.val, _, rfl, by rw [q1]; simpa [RA] using q5, _, _, rfl, by simp [RT, q1], rfl⟩
end
def kS (s : ByteArray) : Value := .agg #[.string s]
theorem keyFS {P : Program} {k : TypeId} {f : Field} (hu : P.underlying k = some (.struct #[f])) (hk : P.keyType k = true) (hc : P.cellsOf k = 1) (hn : (f.name != "_") = true) (ho : f.offset = 0) (hft : P.underlying f.type = some .string) (hfc : P.cellsOf f.type = 1) (hsz : 1 ≤ P.types.size) :
    KeyF P k kS (fun s => s.size ≤ maxLen) where
  inj := fun a b h => by simpa [kS] using h
  key := fun a h => by
    obtain ⟨m, hm⟩ : ∃ m, P.types.size = m + 1 := ⟨P.types.size - 1, by omega⟩
    unfold keyOf
    simp only [hu]
    rw [if_pos (by simp [hk, kS, Value.formed, hu, hc])]
    have : P.keyLits (P.types.size + 1) k (kS a).cells.toList = some [.string a.data.toList] := by
      rw [hm]
      simp [Program.keyLits, hu, kS, Value.cells, hc, hn, ho, hft, hfc, h]
    rw [this]
    exact ⟨_, rfl⟩
section
variable {n : Nat} {ds : Fx} {E : Env} {ι : LMap} {G : GS} {ts : TS} {a : Act} {w : World}
theorem evKS (S : Sat E n ds ι G ts a w) {i : Operand} {x : ByteArray} (h : evA ts i = some (.tr (.agg [.val (.string x)]))) : a.eval i = kS x := by
  have hr := S.ev h
  simp only [RA, RT, RTs] at hr
  obtain ⟨us, e, u, us', rfl, rfl, rfl⟩ := hr
  rw [e]; rfl
end

/-! ### A nil map by a label -/
section
variable {P : Program} {n : Nat} {ds : Fx} {E : Env} {ι : LMap} {G : GS} {ts : TS} {a : Act} {w : World}
def setI (l : Nat) (o : Option Nat) (ι : LMap) : LMap := fun m => bif Nat.beq m l then o else ι m
theorem setI_ne {l m : Nat} {o : Option Nat} {ι : LMap} (h : m ≠ l) : setI l o ι m = ι m := by unfold setI; rw [beqN_false h]; rfl
theorem setI_same {l : Nat} {o : Option Nat} {ι : LMap} : setI l o ι l = o := by unfold setI; rw [beqN_self]; rfl
/-- A label that nobody names stands for nothing. -/
theorem Sat.noI (S : Sat E n ds ι G ts a w) (l : Nat) (hF : ds.fx.contains l = false) (hT : freshT l ts = true) (hG : freshG l G = true) : Sat E n ds (setI l none ι) G ts a w := by
  have hk : ∀ p ∈ G, p.1 ≠ l ∧ noRefO l p.2 = true := by
    intro p hp
    have := List.all_eq_true.1 hG p hp
    simp only [Bool.and_eq_true] at this
    exact ⟨beq_ne this.1, this.2⟩
  have dom : ∀ m, InDom G m → m ≠ l := fun m ⟨o, ho⟩ => (hk _ (mem_of_look ho)).1
  have hm : Mut E.X (setI l none ι) G = Mut E.X ι G := by
    funext b
    apply propext
    constructor
    · rintro (h | ⟨m, hd, e⟩)
      · exact .inl h
      · exact .inr ⟨m, hd, by rw [setI_ne (dom m hd)] at e; exact e⟩
    · rintro (h | ⟨m, hd, e⟩)
      · exact .inl h
      · exact .inr ⟨m, hd, by rw [setI_ne (dom m hd)]; exact e⟩
  have hq : ∀ m, (!(Nat.beq m l)) = true → setI l none ι m = ι m := fun m h => setI_ne (beq_ne h)
  refine { dfs := S.dfs, sz := S.sz, tm := ?_, hp := ?_, fr := S.fr, wr := ?_, fx := ?_ }
  · intro t x hx
    obtain ⟨u, hu, hr⟩ := S.tm t x hx
    rw [hm]
    exact ⟨u, hu, RA.keep (Keep.refl _ _) _ hq x u (List.all_eq_true.1 hT (t, x) (mem_of_look hx)) hr⟩
  · refine { obj := ?_, inj := ?_, lt := ?_, xlt := S.hp.xlt }
    · intro m o ho
      rw [hm, setI_ne (hk _ (mem_of_look ho)).1]
      exact RO.keep (Keep.refl _ _) _ hq o _ (fun _ _ => rfl) (hk _ (mem_of_look ho)).2 (S.hp.obj m o ho)
    · intro m m' b hd hd' e e'
      rw [setI_ne (dom m hd)] at e
      rw [setI_ne (dom m' hd')] at e'
      exact S.hp.inj m m' b hd hd' e e'
    · intro m b hd e
      rw [setI_ne (dom m hd)] at e
      exact S.hp.lt m b hd e
  · intro m b hd e
    rw [setI_ne (dom m hd)] at e
    exact S.wr m b hd e
  · intro m hm'
    have : m ≠ l := by
      intro e; subst e
      have := List.contains_iff_mem.2 hm'
      rw [hF] at this; cases this
    rw [← S.fx m hm']
    exact setI_ne this
/-- A nil map in a row is a label's. -/
theorem AL.nilMap {ops : Array Oper} {rest : List Oper} {Q : Exit → TS → GS → Prop} (l i k : Nat) {e : TypeId} {cs : List AV} (hF : ds.fx.contains k = false) (hT : freshT k ts = true) (hG : freshG k G = true) (h : look G l = some (.row e cs)) (hi : cs[i]? = some (.tr (.val (.map none))))
    (next : AL P n ds ops rest Q ts ((l, .row e (cs.set i (.map k))) :: dropL l G)) : AL P n ds ops rest Q ts G := by
  intro E ι a w S
  have S1 := S.noI k hF hT hG
  refine next E _ a w (S1.reO ⟨_, h⟩ ?_)
  rcases S1.hp.obj l _ h with ⟨h1, rfl⟩ | ⟨b, arr, us, e1, h1, h2, h3⟩
  · simp at hi
  · refine .inr ⟨b, arr, us, e1, h1, ?_, h3⟩
    have key : ∀ {cs : List AV} {us : List Value} {i : Nat}, cs[i]? = some (.tr (.val (.map none))) → RAs (Mut E.X (setI k none ι) G) (setI k none ι) w cs us → RAs (Mut E.X (setI k none ι) G) (setI k none ι) w (cs.set i (.map k)) us := by
      intro cs
      induction cs with
      | nil => intro us i hi; simp at hi
      | cons c cs ih =>
        intro us i hi hr
        simp only [RAs] at hr
        obtain ⟨u, us', rfl, r1, r2⟩ := hr
        cases i with
        | zero =>
          simp at hi; subst hi
          simp only [List.set_cons_zero, RAs]
          simp only [RA, RT] at r1
          exact ⟨u, us', rfl, by simp only [RA]; rw [r1, setI_same], r2⟩
        | succ i =>
          simp only [List.set_cons_succ, RAs]
          exact ⟨u, us', rfl, r1, ih (by simpa using hi) r2⟩
    exact key hi h2
end
end Go.Ab

namespace Go.Ab
open Go

def plainD : TypeDesc → Value → Value → Bool
  | .int k, .int a _, .int b _ => decide (a = k) && decide (b = k)
  | .string, .string _, .string _ => true
  | .bool, .bool _, .bool _ => true
  | _, _, _ => false
def eqV : Value → Value → Bool
  | .int _ a, .int _ b => decide (a = b)
  | .string a, .string b => a.toList == b.toList
  | .bool a, .bool b => a == b
  | _, _ => false
def eqVs : List Value → List Value → Bool
  | a :: as, b :: bs => eqV a b && eqVs as bs
  | _, _ => true
def valsOf : List Tr → Option (List Value)
  | [] => some []
  | .val v :: r => (valsOf r).map (v :: ·)
  | _ :: _ => none
theorem valsOf_spec {M : BSet} {w : World} : ∀ {cs : List Tr} {vs us : List Value}, valsOf cs = some vs → RTs M w cs us → us = vs
  | [], vs, us, h, hr => by simp only [valsOf, Option.some.injEq] at h; simp only [RTs] at hr; subst h; exact hr
  | c :: r, vs, us, h, hr => by
    simp only [RTs] at hr
    obtain ⟨u, us', rfl, h1, h2⟩ := hr
    cases c with
    | val v =>
      simp only [valsOf, Option.map_eq_some_iff] at h
      obtain ⟨vs', h3, rfl⟩ := h
      simp only [RT] at h1
      rw [h1, valsOf_spec h3 h2]
    | sl sz xs => simp [valsOf] at h
    | agg cs => simp [valsOf] at h

/-- Fields of one cell each, from cell k on. -/
def fieldsOk (P : Program) : Nat → List Field → List TypeDesc → Prop
  | _, [], ds => ds = []
  | k, f :: fs, d :: ds => f.offset = k ∧ f.name ≠ "_" ∧ aggD d = false ∧ TyIs P f.type d 1 ∧ fieldsOk P (k + 1) fs ds
  | _, _ :: _, [] => False
def kindsOk : List TypeDesc → List Value → List Value → Bool
  | d :: ds, a :: as, b :: bs => plainD d a b && kindsOk ds as bs
  | [], [], [] => true
  | _, _, _ => false
section
variable {P : Program}
theorem equalIn_plain {t : TypeId} {d : TypeDesc} {a b : Value} (n : Nat) (ht : TyIs P t d 1) (h : plainD d a b = true) (w : World) : (Op.equalIn (n + 1) t a b).run P w = .ok (eqV a b) w := by
  cases d <;> simp only [plainD] at h <;> (try cases h)
  case bool => cases a <;> cases b <;> simp only [plainD] at h <;> (try cases h); exact run_equalIn_bool' w n t _ _ ht.und
  case int k =>
    cases a <;> cases b <;> simp only [plainD] at h <;> (try cases h)
    simp only [Bool.and_eq_true, decide_eq_true_eq] at h
    obtain ⟨rfl, rfl⟩ := h
    rw [run_equalIn_int w n t _ _ _ _ ht.und, eqV]; rfl
  case string => cases a <;> cases b <;> simp only [plainD] at h <;> (try cases h); exact run_equalIn_string w n t _ _ ht.und
theorem eqFields_run {n : Nat} {xs ys : Array Value} (w : World) : ∀ {fs : List Field} {k : Nat} {ds : List TypeDesc} {as bs : List Value}, fieldsOk P k fs ds → kindsOk ds as bs = true →
    (∀ j, as[j]? = xs[k + j]?) → (∀ j, bs[j]? = ys[k + j]?) → (Op.eqFields (n + 1) xs ys fs).run P w = .ok (eqVs as bs) w
  | [], k, ds, as, bs, h, hk, h1, h2 => by
    simp only [fieldsOk] at h; subst h
    cases as <;> cases bs <;> simp [kindsOk] at hk
    simp [Op.eqFields, eqVs]
  | f :: fs, k, [], as, bs, h, hk, h1, h2 => by simp [fieldsOk] at h
  | f :: fs, k, d :: ds, as, bs, h, hk, h1, h2 => by
    obtain ⟨e1, e2, e3, e4, e5⟩ := h
    match as, bs, hk with
    | a :: as, b :: bs, hk =>
      simp only [kindsOk, Bool.and_eq_true] at hk
      have x1 : xs[f.offset]? = some a := by rw [e1]; have := h1 0; simpa using this.symm
      have y1 : ys[f.offset]? = some b := by rw [e1]; have := h2 0; simpa using this.symm
      have ih := eqFields_run (n := n) (xs := xs) (ys := ys) w e5 hk.2 (fun j => by have := h1 (j + 1); rw [show k + (j + 1) = k + 1 + j by omega] at this; simpa using this) (fun j => by have := h2 (j + 1); rw [show k + (j + 1) = k + 1 + j by omega] at this; simpa using this)
      simp only [Op.eqFields, ne_eq, e2, not_false_eq_true, if_true, part, Sem.run_bind, e4.run_agg, e3, Result.andThen_ok, Bool.false_eq_true, if_false, x1, y1, Sem.run_pure, equalIn_plain n e4 hk.1, eqVs]
      cases eqV a b with
      | true => simpa using ih
      | false => simp

structure EqTy (P : Program) (t : TypeId) (fs : Array Field) (ds : List TypeDesc) : Prop where
  und : P.underlying t = some (.struct fs)
  flds : fieldsOk P 0 fs.toList ds
  held : P.stoodInHeld t = false
  grd : P.eqGuardType P.depth t = false
variable {n : Nat} {ds : Fx} {E : Env} {ι : LMap} {G : GS} {ts : TS} {a : Act} {w : World} {ty : TypeId} {pos : String} {after : Array Edge} {gd : Option (Nat × Bool)} {dst : Option Tmp}
theorem EqTy.run {t : TypeId} {fs : Array Field} {dl : List TypeDesc} (h : EqTy P t fs dl) {as bs : List Value} (hk : kindsOk dl as bs = true) (w : World) : (Op.equalIn 10000 t (.agg as.toArray) (.agg bs.toArray)).run P w = .ok (eqVs as bs) w := by
  have e : P.fieldsOf t = fs := by unfold Program.fieldsOf; rw [h.und]
  rw [run_equalIn_struct w 9999 t _ _ (by rw [e]; exact h.und) h.held, e]
  exact eqFields_run (n := 9998) w h.flds hk (fun j => by simp) (fun j => by simp)
theorem P_eqlS {x y : Operand} {tx tyy : TypeId} {fs : Array Field} {dl : List TypeDesc} {cs es : List Tr} {as bs : List Value} (ht : EqTy P tx fs dl) (h : evA ts x = some (.tr (.agg cs))) (h' : evA ts y = some (.tr (.agg es))) (ha : valsOf cs = some as) (hb : valsOf es = some bs) (hk : kindsOk dl as bs = true) :
    Pure1 P ⟨dst, .binOp .eql tx x y tyy, ty, pos, after, gd⟩ ts G (vB (eqVs as bs)) :=
  fun {E n ds ι a w} S => by
    have h1 := S.ev h; have h2 := S.ev h'
    simp only [RA, RT] at h1 h2
    obtain ⟨us, e1, r1⟩ := h1
    obtain ⟨vs, e2, r2⟩ := h2
    rw [valsOf_spec ha r1] at e1
    rw [valsOf_spec hb r2] at e2
    refine ⟨.bool (eqVs as bs), ?_, by simp [RA, RT]⟩
    simp only [execOp, e1, e2, Sem.run_bind, run_eqGuard_agg w _ _ _ _ _ _ ht.grd, Result.andThen_ok, run_eql_struct, ht.run hk, Sem.run_pure]
theorem P_neqS {x y : Operand} {tx tyy : TypeId} {fs : Array Field} {dl : List TypeDesc} {cs es : List Tr} {as bs : List Value} (ht : EqTy P tx fs dl) (h : evA ts x = some (.tr (.agg cs))) (h' : evA ts y = some (.tr (.agg es))) (ha : valsOf cs = some as) (hb : valsOf es = some bs) (hk : kindsOk dl as bs = true) :
    Pure1 P ⟨dst, .binOp .neq tx x y tyy, ty, pos, after, gd⟩ ts G (vB (!eqVs as bs)) :=
  fun {E n ds ι a w} S => by
    have h1 := S.ev h; have h2 := S.ev h'
    simp only [RA, RT] at h1 h2
    obtain ⟨us, e1, r1⟩ := h1
    obtain ⟨vs, e2, r2⟩ := h2
    rw [valsOf_spec ha r1] at e1
    rw [valsOf_spec hb r2] at e2
    refine ⟨.bool (!eqVs as bs), ?_, by simp [RA, RT]⟩
    simp only [execOp, e1, e2, Sem.run_bind, run_eqGuard_agg w _ _ _ _ _ _ ht.grd, Result.andThen_ok, run_neq_struct, ht.run hk, Sem.run_pure]
theorem eqV_refl (v : Value) (h : eqV v v = true ∨ True) : (∀ d, plainD d v v = true → eqV v v = true) := by
  intro d hd
  cases v <;> cases d <;> simp_all [plainD, eqV]
theorem eqVs_refl : ∀ {dl : List TypeDesc} {l : List Value}, kindsOk dl l l = true → eqVs l l = true
  | d :: ds, v :: l, h => by
    simp only [kindsOk, Bool.and_eq_true] at h
    simp only [eqVs, Bool.and_eq_true]
    exact ⟨eqV_refl v (.inr trivial) d h.1, eqVs_refl h.2⟩
  | [], [], _ => rfl
  | [], _ :: _, h => by simp [kindsOk] at h
  | _ :: _, [], h => by simp [kindsOk] at h
end
end Go.Ab

namespace Go.Ab
open Go

section
variable {P : Program} {n : Nat} {ds : Fx} {E : Env} {ι : LMap} {G : GS} {ts : TS} {a : Act} {w : World} {ty : TypeId} {pos : String} {after : Array Edge} {gd : Option (Nat × Bool)} {dst : Option Tmp}

theorem look_dropKill {l q : Nat} {o : AObj} (h : look (dropL l (Go.Ab.killG l G)) q = some o) : q ≠ l ∧ ∃ o', look G q = some o' ∧ o = killO l o' := by
  by_cases e : q = l
  · subst e; rw [look_dropL_same] at h; cases h
  · rw [look_dropL_ne e, look_killG] at h
    cases hg : look G q with
    | none => rw [hg] at h; cases h
    | some o' => rw [hg] at h; injection h with h; exact ⟨e, o', rfl, h.symm⟩
theorem Sat.forget (S : Sat E n ds ι G ts a w) (l : Nat) : Sat E n ds ι (dropL l (Go.Ab.killG l G)) (killT l ts) a w := by
  have S1 := (S.kill l).killG l
  have k : Keep (Mut E.X ι (Go.Ab.killG l G)) (Mut E.X ι (dropL l (Go.Ab.killG l G))) w w := ⟨Nat.le_refl _, fun _ _ _ => rfl, fun b _ hb => by
    rcases hb with hb | ⟨q, ⟨o, ho⟩, e⟩
    · exact .inl hb
    · obtain ⟨hne, o', h1, h2⟩ := look_dropKill ho
      exact .inr ⟨q, ⟨killO l o', by rw [look_killG, h1]; rfl⟩, e⟩, fun _ _ => rfl⟩
  have dom : ∀ q, InDom (dropL l (Go.Ab.killG l G)) q → InDom (Go.Ab.killG l G) q := fun q ⟨o, ho⟩ => by
    obtain ⟨hne, o', h1, h2⟩ := look_dropKill ho
    exact ⟨killO l o', by rw [look_killG, h1]; rfl⟩
  exact {
    dfs := S1.dfs
    sz := S1.sz
    tm := fun t x hx => let ⟨u, hu, hr⟩ := S1.tm t x hx; ⟨u, hu, hr.keep0 k⟩
    hp := {
      obj := fun q o ho => by
        have hne := (look_dropKill ho).1
        rw [look_dropL_ne hne] at ho
        exact RO.keep0 k (fun _ _ => rfl) (S1.hp.obj q o ho)
      inj := fun q q' b hq hq' => S1.hp.inj q q' b (dom q hq) (dom q' hq')
      lt := fun q b hq => S1.hp.lt q b (dom q hq)
      xlt := S1.hp.xlt }
    fr := S1.fr
    wr := fun q b hq => S1.wr q b (dom q hq)
    fx := S1.fx }
theorem AL.forget {ops : Array Oper} {rest : List Oper} {Q : Exit → TS → GS → Prop} (l : Nat) (next : AL P n ds ops rest Q (killT l ts) (dropL l (Go.Ab.killG l G))) : AL P n ds ops rest Q ts G :=
  fun E ι a w S => next E ι a w (S.forget l)
theorem AW.forget {c : Code} {Q : Exit → TS → GS → Prop} (l : Nat) (next : AW P n ds c Q (killT l ts) (dropL l (Go.Ab.killG l G))) : AW P n ds c Q ts G :=
  fun E ι a w S => next E ι a w (S.forget l)

/-- A slice of one's own row as data, when the row is let go. -/
theorem letGo_val (S : Sat E n ds ι G ts a w) {l off m j : Nat} {e : TypeId} {sz : Nat} {xs : List Tr} {u : Value} (hr : RA (Mut E.X ι G) ι w (.own sz l off m) u) (hl : look G l = some (.els e sz xs)) (ho : off = j * sz) (hz : 1 ≤ sz) (hm : j + m ≤ xs.length) :
    RT (Mut E.X ι (dropL l (Go.Ab.killG l G))) w (.sl sz ((xs.drop j).take m)) u := by
  have hd : InDom G l := ⟨_, hl⟩
  have k : Keep (Mut E.X ι G) (Mut E.X ι (dropL l (Go.Ab.killG l G))) w w := ⟨Nat.le_refl _, fun _ _ _ => rfl, fun b _ hb => by
    rcases hb with hb | ⟨q, ⟨o, ho⟩, e⟩
    · exact .inl hb
    · obtain ⟨hne, o', h1, h2⟩ := look_dropKill ho
      exact .inr ⟨q, ⟨o', h1⟩, e⟩, fun _ _ => rfl⟩
  simp only [RA] at hr
  obtain ⟨A, cap, rfl, hc1, hc2, hown⟩ := hr
  have hlen : ((xs.drop j).take m).length = m := by simp; omega
  simp only [RT]
  rcases hown with ⟨rfl, hcap⟩ | ⟨b, hbι, rfl, hblt, hcells⟩
  · have hm0 : m = 0 := by omega
    subst hm0
    refine ⟨none, cap, [], by simp, ⟨by simp, by simp, by simp, by simp, by simp⟩, by simp [RTe]⟩
  · obtain ⟨us, more, hh, hus, huo⟩ := S_els S hl hbι
    have hul := hus.length
    have hcut := RTe.take m (RTe.drop j hus)
    have hcl := hcut.length
    refine ⟨_, cap, (us.drop (j * sz)).take (m * sz), by rw [hlen], ⟨by rw [hlen]; exact hc1, hcut.length, by rw [hlen]; simp only [maxLen] at hc2; omega, fun u hu => huo u (List.mem_of_mem_drop (List.mem_of_mem_take hu)), fun _ => ⟨_, rfl, ?_, hblt, ?_⟩⟩, RTe.keep k _ _ _ hcut⟩
    · rintro (hx | ⟨q, ⟨o, hq⟩, eq⟩)
      · exact (S.hp.lt l b hd hbι).2 hx
      · obtain ⟨hne, o', h1, h2⟩ := look_dropKill hq
        exact hne (S.hp.inj q l b ⟨o', h1⟩ hd eq hbι)
    · intro q u hu
      rw [add_at, cell_of_heap hh, ho]
      rw [List.getElem?_take] at hu
      split at hu
      · rw [List.getElem?_drop] at hu
        have := (List.getElem?_eq_some_iff.1 hu).1
        simp [List.getElem?_append_left this, hu]
      · cases hu
theorem RAs.setAt {M M' : BSet} {ι : LMap} {w : World} {l : Nat} (hk : ∀ c u, RA M ι w c u → RA M' ι w (killA l c) u) {y : AV} : ∀ {cs : List AV} {us : List Value} {i : Nat} {x : AV}, cs[i]? = some x → (∀ u, RA M ι w x u → RA M' ι w y u) → RAs M ι w cs us → RAs M' ι w ((cs.map (killA l)).set i y) us
  | [], us, i, x, h, _, _ => by simp at h
  | c :: cs, us, 0, x, h, hy, hr => by
    simp at h; subst h
    simp only [RAs] at hr
    obtain ⟨u, us', rfl, r1, r2⟩ := hr
    simp only [List.map_cons, List.set_cons_zero, RAs]
    refine ⟨u, us', rfl, hy u r1, ?_⟩
    clear hy r1
    induction cs generalizing us' with
    | nil => simpa [RAs] using r2
    | cons c cs ih =>
      simp only [RAs] at r2
      obtain ⟨v, vs, rfl, q1, q2⟩ := r2
      simp only [List.map_cons, RAs]
      exact ⟨v, vs, rfl, hk _ _ q1, ih vs q2⟩
  | c :: cs, us, i + 1, x, h, hy, hr => by
    simp only [RAs] at hr
    obtain ⟨u, us', rfl, r1, r2⟩ := hr
    simp only [List.map_cons, List.set_cons_succ, RAs]
    exact ⟨u, us', rfl, hk _ _ r1, RAs.setAt hk (by simpa using h) hy r2⟩
/-- A row in a field is let go. -/
theorem Sat.letGoO (S : Sat E n ds ι G ts a w) (r i l j : Nat) {off m : Nat} {e e' : TypeId} {sz : Nat} {xs : List Tr} {cs : List AV} (hr : look G r = some (.row e' cs)) (hne : Nat.beq r l = false) (h : cs[i]? = some (.own sz l off m)) (hl : look G l = some (.els e sz xs)) (ho : off = j * sz) (hz : 1 ≤ sz) (hm : j + m ≤ xs.length) :
    Sat E n ds ι ((r, .row e' ((cs.map (killA l)).set i (.tr (.sl sz ((xs.drop j).take m))))) :: dropL r (dropL l (Go.Ab.killG l G))) (killT l ts) a w := by
  have S1 := S.forget l
  have hne' : r ≠ l := fun e => by subst e; rw [beqN_self] at hne; cases hne
  have hlk : look (dropL l (Go.Ab.killG l G)) r = some (killO l (.row e' cs)) := by rw [look_dropL_ne hne', look_killG, hr]; rfl
  refine S1.reO ⟨_, hlk⟩ ?_
  have k : Keep (Mut E.X ι G) (Mut E.X ι (dropL l (Go.Ab.killG l G))) w w := ⟨Nat.le_refl _, fun _ _ _ => rfl, fun b _ hb => by
    rcases hb with hb | ⟨q, ⟨o, ho⟩, e⟩
    · exact .inl hb
    · obtain ⟨hne, o', h1, h2⟩ := look_dropKill ho
      exact .inr ⟨q, ⟨o', h1⟩, e⟩, fun _ _ => rfl⟩
  rcases S.hp.obj r _ hr with ⟨h1, rfl⟩ | ⟨b, arr, us, e1, h1, h2, h3⟩
  · simp at h
  · exact .inr ⟨b, arr, us, e1, h1, RAs.setAt (fun c u hc => (RA_killA hc).keep0 k) h (fun u hu => by simp only [RA]; exact letGo_val S hu hl ho hz hm) h2, h3⟩
theorem AL.letGoO {ops : Array Oper} {rest : List Oper} {Q : Exit → TS → GS → Prop} (r i l j : Nat) {off m : Nat} {e e' : TypeId} {sz : Nat} {xs : List Tr} {cs : List AV} (hr : look G r = some (.row e' cs)) (hne : Nat.beq r l = false) (h : cs[i]? = some (.own sz l off m)) (hl : look G l = some (.els e sz xs)) (ho : off = j * sz) (hz : 1 ≤ sz) (hm : j + m ≤ xs.length)
    (next : AL P n ds ops rest Q (killT l ts) ((r, .row e' ((cs.map (killA l)).set i (.tr (.sl sz ((xs.drop j).take m))))) :: dropL r (dropL l (Go.Ab.killG l G)))) : AL P n ds ops rest Q ts G :=
  fun E ι a w S => next E ι a w (S.letGoO r i l j hr hne h hl ho hz hm)

/-! ### Pointers that may be nil -/
theorem RAs.setW {M : BSet} {ι : LMap} {w : World} {y : AV} : ∀ {cs : List AV} {us : List Value} {i : Nat} {x : AV}, cs[i]? = some x → (∀ u, us[i]? = some u → RA M ι w x u → RA M ι w y u) → RAs M ι w cs us → RAs M ι w (cs.set i y) us
  | [], us, i, x, h, _, _ => by simp at h
  | c :: cs, us, 0, x, h, hy, hr => by
    simp at h; subst h
    simp only [RAs] at hr
    obtain ⟨u, us', rfl, r1, r2⟩ := hr
    simp only [List.set_cons_zero, RAs]
    exact ⟨u, us', rfl, hy u (by simp) r1, r2⟩
  | c :: cs, us, i + 1, x, h, hy, hr => by
    simp only [RAs] at hr
    obtain ⟨u, us', rfl, r1, r2⟩ := hr
    simp only [List.set_cons_succ, RAs]
    exact ⟨u, us', rfl, r1, RAs.setW (by simpa using h) (fun u hu => hy u (by simpa using hu)) r2⟩
/-- A field is said otherwise. -/
theorem Sat.fieldW (S : Sat E n ds ι G ts a w) (r i : Nat) {e : TypeId} {cs : List AV} {x : AV} (y : AV) (hr : look G r = some (.row e cs)) (h : cs[i]? = some x) (hw : ∀ u, RA (Mut E.X ι G) ι w x u → RA (Mut E.X ι G) ι w y u) : Sat E n ds ι ((r, .row e (cs.set i y)) :: dropL r G) ts a w := by
  refine S.reO ⟨_, hr⟩ ?_
  rcases S.hp.obj r _ hr with ⟨h1, rfl⟩ | ⟨b, arr, us, e1, h1, h2, h3⟩
  · simp at h
  · exact .inr ⟨b, arr, us, e1, h1, RAs.setW h (fun u _ hu => hw u hu) h2, h3⟩
theorem AL.nilN {ops : Array Oper} {rest : List Oper} {Q : Exit → TS → GS → Prop} (r i k off : Nat) {e : TypeId} {cs : List AV} (hr : look G r = some (.row e cs)) (h : cs[i]? = some (.tr (.val (.pointer none))))
    (next : AL P n ds ops rest Q ts ((r, .row e (cs.set i (.ptrN k off))) :: dropL r G)) : AL P n ds ops rest Q ts G :=
  fun E ι a w S => next E ι a w (S.fieldW r i (.ptrN k off) hr h (fun u hu => by simp only [RA, RT] at hu ⊢; exact .inl hu))
theorem AL.ptrNO {ops : Array Oper} {rest : List Oper} {Q : Exit → TS → GS → Prop} (r i : Nat) {k off : Nat} {e : TypeId} {cs : List AV} (hr : look G r = some (.row e cs)) (h : cs[i]? = some (.ptr k off))
    (next : AL P n ds ops rest Q ts ((r, .row e (cs.set i (.ptrN k off))) :: dropL r G)) : AL P n ds ops rest Q ts G :=
  fun E ι a w S => next E ι a w (S.fieldW r i (.ptrN k off) hr h (fun u hu => by simp only [RA] at hu ⊢; exact .inr hu))
theorem AL.casePN {ops : Array Oper} {rest : List Oper} {Q : Exit → TS → GS → Prop} (r i : Nat) {k off : Nat} {e : TypeId} {cs : List AV} (hr : look G r = some (.row e cs)) (h : cs[i]? = some (.ptrN k off))
    (n1 : AL P n ds ops rest Q ts ((r, .row e (cs.set i (.tr (.val (.pointer none))))) :: dropL r G)) (n2 : AL P n ds ops rest Q ts ((r, .row e (cs.set i (.ptr k off))) :: dropL r G)) : AL P n ds ops rest Q ts G := by
  intro E ι a w S
  rcases S.hp.obj r _ hr with ⟨h1, rfl⟩ | ⟨b, arr, us, e1, h1, h2, h3⟩
  · simp at h
  · obtain ⟨u, hu, hru⟩ := h2.get i _ h
    simp only [RA] at hru
    rcases hru with rfl | ⟨b', hb', rfl⟩
    · exact n1 E ι a w (S.reO ⟨_, hr⟩ (.inr ⟨b, arr, us, e1, h1, RAs.setW h (fun v hv _ => by rw [hu] at hv; injection hv with hv; subst hv; simp only [RA, RT]) h2, h3⟩))
    · exact n2 E ι a w (S.reO ⟨_, hr⟩ (.inr ⟨b, arr, us, e1, h1, RAs.setW h (fun v hv _ => by rw [hu] at hv; injection hv with hv; subst hv; simp only [RA]; exact ⟨b', hb', rfl⟩) h2, h3⟩))
/-- A pointer held against itself. -/
theorem P_neqPP {x y : Operand} {tx tyy e : TypeId} {sz s2 l off : Nat} {de : TypeDesc} (ht : TyIs P tx (.pointer e) sz) (he : TyIs P e de (s2 + 1)) (h : evA ts x = some (.ptr l off)) (h' : evA ts y = some (.ptr l off)) : Pure1 P ⟨dst, .binOp .neq tx x y tyy, ty, pos, after, gd⟩ ts G (vB false) :=
  fun {E n ds ι a w} S => by
    have h1 := S.ev h; have h2 := S.ev h'
    simp only [RA] at h1 h2
    obtain ⟨b, hb, e1⟩ := h1
    obtain ⟨b', hb', e2⟩ := h2
    rw [hb] at hb'; injection hb' with hb'; subst hb'
    refine ⟨.bool false, ?_, by simp [RA, RT]⟩
    have hq : (Op.equal tx (.pointer (some ⟨b, off, none⟩)) (.pointer (some ⟨b, off, none⟩))).run P w = .ok true w := by
      have key : ∀ d, (Op.equalIn (d + 1) tx (.pointer (some ⟨b, off, none⟩)) (.pointer (some ⟨b, off, none⟩))).run P w = .ok true w := fun d => by
        simp [Op.equalIn, ht.run_und, he.run_size, sameAddr]
      exact key 9999
    simp only [execOp, e1, e2, Sem.run_bind, run_guard_ptr, Result.andThen_ok, binOp, hq, Sem.run_pure, Bool.not_true]
theorem P_toUnsafe {x : Operand} {src dt t : TypeId} {s0 s1 s2 l off : Nat} {dd : TypeDesc} {e : TypeId} {cs : List AV} {v : AV} (hs : TyIs P src (.pointer t) s0) (hd : TyIs P dt .unsafePointer s1) (htt : TyIs P t dd (s2 + 1)) (h : evA ts x = some (.ptr l off)) (hl : look G l = some (.row e cs)) (hv : cs[off]? = some v) :
    Pure1 P ⟨dst, .convert src dt x, ty, pos, after, gd⟩ ts G (.ptr l off) :=
  fun {E n ds ι a w} S => by
    have h1 := S.ev h
    have hr1 := h1
    simp only [RA] at h1
    obtain ⟨b, hb, e1⟩ := h1
    rcases S.hp.obj l _ hl with ⟨q1, rfl⟩ | ⟨b', arr, us, q1, q2, q3, q4⟩
    · simp at hv
    · rw [hb] at q1; injection q1 with q1; subst q1
      obtain ⟨u, hu, _⟩ := q3.get off v hv
      have hc : w.cell? ⟨b, off, none⟩ = some u := by rw [cell_of_heap q2]; exact q4 _ _ hu
      refine ⟨.pointer (some ⟨b, off, none⟩), ?_, by simp only [RA]; exact ⟨b, hb, rfl⟩⟩
      obtain ⟨i, hi, hi2⟩ := htt.info
      have := run_convert_to_unsafe (P := P) hs.und hd.und (by rw [hi]; simp [hi2]) hc
      simp only [execOp, e1, Sem.run_bind, this, Result.andThen_ok, Sem.run_pure]
end
end Go.Ab
