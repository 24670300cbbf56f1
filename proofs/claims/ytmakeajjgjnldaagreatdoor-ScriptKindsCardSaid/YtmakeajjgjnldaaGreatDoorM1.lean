/- The abstract machine, texts 1 to 7: laws of its own over the model, with no program in sight. -/
import Derived.ChangeKeysEq
import Derived.IntWalk
import Derived.Laws.CopyRow
import Derived.Laws.Entries
import Derived.Laws.IdiomCopy
import Derived.Laws.MakeOwn
import Derived.Laws.Slices
import Derived.Maps.AppendAt
import Derived.Orders
import Derived.OwnWalk
set_option linter.unusedVariables false
set_option linter.unusedSimpArgs false
namespace Go.Ab
open Go

/-- Data that no step writes any more. -/
inductive Tr where
  | val (v : Value)
  | sl (sz : Nat) (xs : List Tr)
  | agg (cs : List Tr)

abbrev BSet := Nat → Prop

/-- How many cells a block has. -/
def cellsIn (w : World) (b : Nat) : Nat :=
  match w.heap[b]? with
  | some (.cells c _ _) => c.size
  | _ => 0

def SlcAt (M : BSet) (w : World) (sz : Nat) (A : Option Addr) (n cap : Nat) (us : List Value) : Prop :=
  n ≤ cap ∧ us.length = n * sz ∧ n ≤ 9223372036854775807 ∧ (∀ u ∈ us, u.oneCell' = true) ∧
    (0 < n → ∃ a, A = some a ∧ ¬ M a.block ∧ a.block < w.heap.size ∧ ∀ j u, us[j]? = some u → w.cell? (a.add j) = some u)

 mutual
def RT (M : BSet) (w : World) : Tr → Value → Prop
  | .val v, u => u = v
  | .agg cs, u => ∃ us : List Value, u = .agg us.toArray ∧ RTs M w cs us
  | .sl sz xs, u => ∃ A cap us, u = .slice A xs.length cap ∧ SlcAt M w sz A xs.length cap us ∧ RTe M w sz xs us
def RTs (M : BSet) (w : World) : List Tr → List Value → Prop
  | [], us => us = []
  | c :: cs, us => ∃ u us', us = u :: us' ∧ RT M w c u ∧ RTs M w cs us'
def RTe (M : BSet) (w : World) (sz : Nat) : List Tr → List Value → Prop
  | [], us => us = []
  | x :: xs, us => ∃ v us', us = v.cells.toList ++ us' ∧ v.cells.size = sz ∧ RT M w x v ∧ RTe M w sz xs us'
end

/-- What was neither of M nor new is as it was; what is of M' was of M, or is new. -/
structure Keep (M M' : BSet) (w w' : World) : Prop where
  size : w.heap.size ≤ w'.heap.size
  same : ∀ b, b < w.heap.size → ¬ M b → w'.heap[b]? = w.heap[b]?
  sub : ∀ b, b < w.heap.size → M' b → M b
  shp : ∀ b, b < w.heap.size → cellsIn w' b = cellsIn w b

theorem Keep.refl (M : BSet) (w : World) : Keep M M w w := ⟨Nat.le_refl _, fun _ _ _ => rfl, fun _ _ h => h, fun _ _ => rfl⟩

theorem Keep.cell {M M' : BSet} {w w' : World} (k : Keep M M' w w') {a : Addr} (h : a.block < w.heap.size) (hm : ¬ M a.block) : w'.cell? a = w.cell? a :=
  World.cell?_of_block (k.same _ h hm)

theorem Keep.slc {M M' : BSet} {w w' : World} (k : Keep M M' w w') {sz : Nat} {A : Option Addr} {n cap : Nat} {us : List Value} (h : SlcAt M w sz A n cap us) : SlcAt M' w' sz A n cap us := by
  obtain ⟨h1, h2, h3, h5, h4⟩ := h
  refine ⟨h1, h2, h3, h5, fun hn => ?_⟩
  obtain ⟨a, e, hm, hl, hc⟩ := h4 hn
  refine ⟨a, e, fun hm' => hm (k.sub _ hl hm'), Nat.lt_of_lt_of_le hl k.size, fun j u hu => ?_⟩
  have hb : (a.add j).block = a.block := by unfold Addr.add; split <;> rfl
  rw [k.cell (by rw [hb]; exact hl) (by rw [hb]; exact hm)]
  exact hc j u hu

 mutual
theorem RT.keep {M M' : BSet} {w w' : World} (k : Keep M M' w w') : ∀ (t : Tr) (u : Value), RT M w t u → RT M' w' t u
  | .val v, u, h => by simpa [RT] using h
  | .agg cs, u, h => by
    simp only [RT] at h ⊢
    obtain ⟨us, rfl, h⟩ := h
    exact ⟨us, rfl, RTs.keep k cs us h⟩
  | .sl sz xs, u, h => by
    simp only [RT] at h ⊢
    obtain ⟨A, cap, us, rfl, h1, h2⟩ := h
    exact ⟨A, cap, us, rfl, k.slc h1, RTe.keep k sz xs us h2⟩
theorem RTs.keep {M M' : BSet} {w w' : World} (k : Keep M M' w w') : ∀ (ts : List Tr) (us : List Value), RTs M w ts us → RTs M' w' ts us
  | [], us, h => by simpa [RTs] using h
  | c :: cs, us, h => by
    simp only [RTs] at h ⊢
    obtain ⟨u, us', rfl, h1, h2⟩ := h
    exact ⟨u, us', rfl, RT.keep k c u h1, RTs.keep k cs us' h2⟩
theorem RTe.keep {M M' : BSet} {w w' : World} (k : Keep M M' w w') (sz : Nat) : ∀ (ts : List Tr) (us : List Value), RTe M w sz ts us → RTe M' w' sz ts us
  | [], us, h => by simpa [RTe] using h
  | c :: cs, us, h => by
    simp only [RTe] at h ⊢
    obtain ⟨v, us', rfl, h1, h2, h3⟩ := h
    exact ⟨v, us', rfl, h1, RT.keep k c v h2, RTe.keep k sz cs us' h3⟩
end

theorem RTs.length {M : BSet} {w : World} : ∀ {ts : List Tr} {us : List Value}, RTs M w ts us → us.length = ts.length
  | [], us, h => by simp only [RTs] at h; subst h; rfl
  | c :: cs, us, h => by
    simp only [RTs] at h
    obtain ⟨u, us', rfl, _, h2⟩ := h
    simp [RTs.length h2]
theorem RTs.get {M : BSet} {w : World} : ∀ {ts : List Tr} {us : List Value}, RTs M w ts us → ∀ (i : Nat) (t : Tr), ts[i]? = some t → ∃ u, us[i]? = some u ∧ RT M w t u
  | [], us, h, i, t, ht => by simp at ht
  | c :: cs, us, h, i, t, ht => by
    simp only [RTs] at h
    obtain ⟨u, us', rfl, h1, h2⟩ := h
    match i with
    | 0 => simp at ht; subst ht; exact ⟨u, by simp, h1⟩
    | i + 1 => simp at ht; obtain ⟨v, hv, hr⟩ := RTs.get h2 i t ht; exact ⟨v, by simpa using hv, hr⟩
theorem RTs.drop {M : BSet} {w : World} : ∀ (k : Nat) {ts : List Tr} {us : List Value}, RTs M w ts us → RTs M w (ts.drop k) (us.drop k)
  | 0, ts, us, h => by simpa using h
  | k + 1, [], us, h => by simp only [RTs] at h; subst h; simp [RTs]
  | k + 1, c :: cs, us, h => by
    simp only [RTs] at h
    obtain ⟨u, us', rfl, h1, h2⟩ := h
    simpa using RTs.drop k h2
theorem RTs.take {M : BSet} {w : World} : ∀ (k : Nat) {ts : List Tr} {us : List Value}, RTs M w ts us → RTs M w (ts.take k) (us.take k)
  | 0, ts, us, h => by simp [RTs]
  | k + 1, [], us, h => by simp only [RTs] at h; subst h; simp [RTs]
  | k + 1, c :: cs, us, h => by
    simp only [RTs] at h
    obtain ⟨u, us', rfl, h1, h2⟩ := h
    simp only [List.take_succ_cons, RTs]
    exact ⟨u, _, rfl, h1, RTs.take k h2⟩
theorem RTs.append {M : BSet} {w : World} : ∀ {ts ts' : List Tr} {us us' : List Value}, RTs M w ts us → RTs M w ts' us' → RTs M w (ts ++ ts') (us ++ us')
  | [], ts', us, us', h, h' => by simp only [RTs] at h; subst h; simpa using h'
  | c :: cs, ts', us, us', h, h' => by
    simp only [RTs] at h
    obtain ⟨u, us'', rfl, h1, h2⟩ := h
    simp only [List.cons_append, RTs]
    exact ⟨u, _, rfl, h1, RTs.append h2 h'⟩

/-- Abstract values. -/
inductive AV where
  | tr (t : Tr)
  | own (sz l off n : Nat)
  | owq (sz l off n lo hi : Nat)
  | ptrN (l off : Nat)
  | ptr (l off : Nat)
  | rp (cs : List Tr)
  | map (l : Nat)
  | fn (f : FuncId) (first cap : List AV)
  | agg (cs : List AV)
  | tup (xs : List AV)
  | junk

abbrev LMap := Nat → Option Nat

 mutual
def RA (M : BSet) (ι : LMap) (w : World) : AV → Value → Prop
  | .tr t, u => RT M w t u
  | .own sz l off n, u => ∃ A cap, u = .slice A n cap ∧ n ≤ cap ∧ cap ≤ maxLen ∧ ((A = none ∧ cap = 0) ∨ ∃ b, ι l = some b ∧ A = some ⟨b, off, none⟩ ∧ b < w.heap.size ∧ off + cap * sz ≤ cellsIn w b)
  | .owq sz l off n lo hi, u => ∃ A cap, u = .slice A n cap ∧ n ≤ cap ∧ cap ≤ maxLen ∧ ((A = none ∧ cap = 0) ∨ ∃ b, ι l = some b ∧ A = some ⟨b, off, none⟩ ∧ b < w.heap.size ∧ off + cap * sz ≤ cellsIn w b) ∧ lo ≤ cap ∧ cap ≤ hi
  | .ptrN l off, u => u = .pointer none ∨ ∃ b, ι l = some b ∧ u = .pointer (some ⟨b, off, none⟩)
  | .ptr l off, u => ∃ b, ι l = some b ∧ u = .pointer (some ⟨b, off, none⟩)
  | .rp cs, u => ∃ a us, u = .pointer (some a) ∧ ¬ M a.block ∧ a.block < w.heap.size ∧ RTs M w cs us ∧ ∀ j u, us[j]? = some u → w.cell? (a.add j) = some u
  | .map l, u => u = .map (ι l)
  | .fn f first cap, u => ∃ fs cs : List Value, u = .func (.func f) fs.toArray cs.toArray ∧ RAs M ι w first fs ∧ RAs M ι w cap cs
  | .agg cs, u => ∃ us : List Value, u = .agg us.toArray ∧ RAs M ι w cs us
  | .tup xs, u => ∃ us : List Value, u = .tuple us.toArray ∧ RAs M ι w xs us
  | .junk, _ => True
def RAs (M : BSet) (ι : LMap) (w : World) : List AV → List Value → Prop
  | [], us => us = []
  | c :: cs, us => ∃ u us', us = u :: us' ∧ RA M ι w c u ∧ RAs M ι w cs us'
end

 mutual
/-- All labels that it names are of p. -/
def allRef (p : Nat → Bool) : AV → Bool
  | .own _ l _ _ => p l
  | .owq _ l _ _ _ _ => p l
  | .ptrN l _ => p l
  | .ptr l _ => p l
  | .map l => p l
  | .fn _ first cap => allRefs p first && allRefs p cap
  | .agg cs => allRefs p cs
  | .tup xs => allRefs p xs
  | .tr _ => true
  | .rp _ => true
  | .junk => true
def allRefs (p : Nat → Bool) : List AV → Bool
  | [] => true
  | c :: cs => allRef p c && allRefs p cs
end

/-- It does not name label L. -/
def noRef (L : Nat) (x : AV) : Bool := allRef (fun l => !(Nat.beq l L)) x
def noRefs (L : Nat) (x : List AV) : Bool := allRefs (fun l => !(Nat.beq l L)) x

theorem beq_ne {a b : Nat} (h : (!(Nat.beq a b)) = true) : a ≠ b := by
  intro e; subst e; simp at h

 mutual
theorem allRef_mono {p q : Nat → Bool} (h : ∀ l, p l = true → q l = true) : ∀ x : AV, allRef p x = true → allRef q x = true
  | .own _ l _ _, hx => h l hx
  | .owq _ l _ _ _ _, hx => h l hx
  | .ptrN l _, hx => h l hx
  | .ptr l _, hx => h l hx
  | .map l, hx => h l hx
  | .fn _ first cap, hx => by
    simp only [allRef, Bool.and_eq_true] at hx ⊢
    exact ⟨allRefs_mono h first hx.1, allRefs_mono h cap hx.2⟩
  | .agg cs, hx => by simp only [allRef] at hx ⊢; exact allRefs_mono h cs hx
  | .tup xs, hx => by simp only [allRef] at hx ⊢; exact allRefs_mono h xs hx
  | .tr _, _ => rfl
  | .rp _, _ => rfl
  | .junk, _ => rfl
theorem allRefs_mono {p q : Nat → Bool} (h : ∀ l, p l = true → q l = true) : ∀ x : List AV, allRefs p x = true → allRefs q x = true
  | [], _ => rfl
  | c :: cs, hx => by
    simp only [allRefs, Bool.and_eq_true] at hx ⊢
    exact ⟨allRef_mono h c hx.1, allRefs_mono h cs hx.2⟩
end
 mutual
theorem allRef_true : ∀ x : AV, allRef (fun _ => true) x = true
  | .own _ l _ _ => rfl
  | .owq _ l _ _ _ _ => rfl
  | .ptrN l _ => rfl
  | .ptr l _ => rfl
  | .map l => rfl
  | .fn _ first cap => by simp only [allRef, allRefs_true first, allRefs_true cap]; rfl
  | .agg cs => by simp only [allRef, allRefs_true cs]
  | .tup xs => by simp only [allRef, allRefs_true xs]
  | .tr _ => rfl
  | .rp _ => rfl
  | .junk => rfl
theorem allRefs_true : ∀ x : List AV, allRefs (fun _ => true) x = true
  | [] => rfl
  | c :: cs => by simp only [allRefs, allRef_true c, allRefs_true cs]; rfl
end

 mutual
theorem RA.keep {M M' : BSet} {ι ι' : LMap} {w w' : World} (k : Keep M M' w w') (p : Nat → Bool) (hι : ∀ l, p l = true → ι' l = ι l) :
    ∀ (x : AV) (u : Value), allRef p x = true → RA M ι w x u → RA M' ι' w' x u
  | .tr t, u, hn, h => by simp only [RA] at h ⊢; exact RT.keep k t u h
  | .own sz l off n, u, hn, h => by
    simp only [RA] at h ⊢
    obtain ⟨A, cap, rfl, h1, h1', h2⟩ := h
    refine ⟨A, cap, rfl, h1, h1', h2.imp id ?_⟩
    rintro ⟨b, hb, hA, hl, hc⟩
    exact ⟨b, by rw [hι l hn]; exact hb, hA, Nat.lt_of_lt_of_le hl k.size, by rw [k.shp b hl]; exact hc⟩
  | .owq sz l off n lo hi, u, hn, h => by
    simp only [RA] at h ⊢
    obtain ⟨A, cap, rfl, h1, h1', h2, h3⟩ := h
    refine ⟨A, cap, rfl, h1, h1', h2.imp id ?_, h3⟩
    rintro ⟨b, hb, hA, hl, hc⟩
    exact ⟨b, by rw [hι l hn]; exact hb, hA, Nat.lt_of_lt_of_le hl k.size, by rw [k.shp b hl]; exact hc⟩
  | .ptrN l off, u, hn, h => by
    simp only [RA] at h ⊢
    rcases h with h | ⟨b, hb, rfl⟩
    · exact .inl h
    · exact .inr ⟨b, by rw [hι l hn]; exact hb, rfl⟩
  | .ptr l off, u, hn, h => by
    simp only [RA] at h ⊢
    obtain ⟨b, hb, rfl⟩ := h
    exact ⟨b, by rw [hι l hn]; exact hb, rfl⟩
  | .rp cs, u, hn, h => by
    simp only [RA] at h ⊢
    obtain ⟨a, us, rfl, hm, hl, hr, hc⟩ := h
    refine ⟨a, us, rfl, fun hm' => hm (k.sub _ hl hm'), Nat.lt_of_lt_of_le hl k.size, RTs.keep k cs us hr, fun j u hu => ?_⟩
    have hb : (a.add j).block = a.block := by unfold Addr.add; split <;> rfl
    rw [k.cell (by rw [hb]; exact hl) (by rw [hb]; exact hm)]
    exact hc j u hu
  | .map l, u, hn, h => by
    simp only [RA] at h ⊢
    rw [hι l hn]; exact h
  | .fn f first cap, u, hn, h => by
    simp only [RA] at h ⊢
    simp only [allRef, Bool.and_eq_true] at hn
    obtain ⟨fs, cs, rfl, h1, h2⟩ := h
    exact ⟨fs, cs, rfl, RAs.keep k p hι first fs hn.1 h1, RAs.keep k p hι cap cs hn.2 h2⟩
  | .agg cs, u, hn, h => by
    simp only [RA] at h ⊢
    simp only [allRef] at hn
    obtain ⟨us, rfl, h⟩ := h
    exact ⟨us, rfl, RAs.keep k p hι cs us hn h⟩
  | .tup xs, u, hn, h => by
    simp only [RA] at h ⊢
    simp only [allRef] at hn
    obtain ⟨us, rfl, h⟩ := h
    exact ⟨us, rfl, RAs.keep k p hι xs us hn h⟩
  | .junk, u, hn, h => by simp [RA]
theorem RAs.keep {M M' : BSet} {ι ι' : LMap} {w w' : World} (k : Keep M M' w w') (p : Nat → Bool) (hι : ∀ l, p l = true → ι' l = ι l) :
    ∀ (xs : List AV) (us : List Value), allRefs p xs = true → RAs M ι w xs us → RAs M' ι' w' xs us
  | [], us, hn, h => by simpa [RAs] using h
  | c :: cs, us, hn, h => by
    simp only [RAs] at h ⊢
    simp only [allRefs, Bool.and_eq_true] at hn
    obtain ⟨u, us', rfl, h1, h2⟩ := h
    exact ⟨u, us', rfl, RA.keep k p hι c u hn.1 h1, RAs.keep k p hι cs us' hn.2 h2⟩
end

theorem RA.keep0 {M M' : BSet} {ι : LMap} {w w' : World} (k : Keep M M' w w') {x : AV} {u : Value} (h : RA M ι w x u) : RA M' ι w' x u :=
  RA.keep k (fun _ => true) (fun _ _ => rfl) x u (allRef_true x) h
theorem RAs.keep0 {M M' : BSet} {ι : LMap} {w w' : World} (k : Keep M M' w w') {x : List AV} {u : List Value} (h : RAs M ι w x u) : RAs M' ι w' x u :=
  RAs.keep k (fun _ => true) (fun _ _ => rfl) x u (allRefs_true x) h

 mutual
/-- Whatever holds of each label that it names. -/
theorem allRef_of {p : Nat → Bool} : ∀ x : AV, (∀ l, noRef l x = false → p l = true) → allRef p x = true
  | .own _ l _ _, h => h l (by simp [noRef, allRef])
  | .owq _ l _ _ _ _, h => h l (by simp [noRef, allRef])
  | .ptrN l _, h => h l (by simp [noRef, allRef])
  | .ptr l _, h => h l (by simp [noRef, allRef])
  | .map l, h => h l (by simp [noRef, allRef])
  | .fn _ first cap, h => by
    simp only [allRef, Bool.and_eq_true]
    exact ⟨allRefs_of first fun l hl => h l (by simp only [noRef, allRef]; simp only [noRefs] at hl; rw [hl]; rfl),
      allRefs_of cap fun l hl => h l (by simp only [noRef, allRef]; simp only [noRefs] at hl; rw [hl]; simp)⟩
  | .agg cs, h => by simp only [allRef]; exact allRefs_of cs fun l hl => h l (by simpa only [noRef, allRef, noRefs] using hl)
  | .tup xs, h => by simp only [allRef]; exact allRefs_of xs fun l hl => h l (by simpa only [noRef, allRef, noRefs] using hl)
  | .tr _, _ => rfl
  | .rp _, _ => rfl
  | .junk, _ => rfl
theorem allRefs_of {p : Nat → Bool} : ∀ x : List AV, (∀ l, noRefs l x = false → p l = true) → allRefs p x = true
  | [], _ => rfl
  | c :: cs, h => by
    simp only [allRefs, Bool.and_eq_true]
    exact ⟨allRef_of c fun l hl => h l (by simp only [noRefs, allRefs]; simp only [noRef] at hl; rw [hl]; rfl),
      allRefs_of cs fun l hl => h l (by simp only [noRefs, allRefs]; simp only [noRefs] at hl; rw [hl]; simp)⟩
end

theorem RAs.length {M : BSet} {ι : LMap} {w : World} : ∀ {ts : List AV} {us : List Value}, RAs M ι w ts us → us.length = ts.length
  | [], us, h => by simp only [RAs] at h; subst h; rfl
  | c :: cs, us, h => by
    simp only [RAs] at h
    obtain ⟨u, us', rfl, _, h2⟩ := h
    simp [RAs.length h2]
theorem RAs.get {M : BSet} {ι : LMap} {w : World} : ∀ {ts : List AV} {us : List Value}, RAs M ι w ts us → ∀ (i : Nat) (t : AV), ts[i]? = some t → ∃ u, us[i]? = some u ∧ RA M ι w t u
  | [], us, h, i, t, ht => by simp at ht
  | c :: cs, us, h, i, t, ht => by
    simp only [RAs] at h
    obtain ⟨u, us', rfl, h1, h2⟩ := h
    match i with
    | 0 => simp at ht; subst ht; exact ⟨u, by simp, h1⟩
    | i + 1 => simp at ht; obtain ⟨v, hv, hr⟩ := RAs.get h2 i t ht; exact ⟨v, by simpa using hv, hr⟩
theorem RAs.drop {M : BSet} {ι : LMap} {w : World} : ∀ (k : Nat) {ts : List AV} {us : List Value}, RAs M ι w ts us → RAs M ι w (ts.drop k) (us.drop k)
  | 0, ts, us, h => by simpa using h
  | k + 1, [], us, h => by simp only [RAs] at h; subst h; simp [RAs]
  | k + 1, c :: cs, us, h => by
    simp only [RAs] at h
    obtain ⟨u, us', rfl, h1, h2⟩ := h
    simpa using RAs.drop k h2
theorem RAs.take {M : BSet} {ι : LMap} {w : World} : ∀ (k : Nat) {ts : List AV} {us : List Value}, RAs M ι w ts us → RAs M ι w (ts.take k) (us.take k)
  | 0, ts, us, h => by simp [RAs]
  | k + 1, [], us, h => by simp only [RAs] at h; subst h; simp [RAs]
  | k + 1, c :: cs, us, h => by
    simp only [RAs] at h
    obtain ⟨u, us', rfl, h1, h2⟩ := h
    simp only [List.take_succ_cons, RAs]
    exact ⟨u, _, rfl, h1, RAs.take k h2⟩
theorem RAs.append {M : BSet} {ι : LMap} {w : World} : ∀ {ts ts' : List AV} {us us' : List Value}, RAs M ι w ts us → RAs M ι w ts' us' → RAs M ι w (ts ++ ts') (us ++ us')
  | [], ts', us, us', h, h' => by simp only [RAs] at h; subst h; simpa using h'
  | c :: cs, ts', us, us', h, h' => by
    simp only [RAs] at h
    obtain ⟨u, us'', rfl, h1, h2⟩ := h
    simp only [List.cons_append, RAs]
    exact ⟨u, _, rfl, h1, RAs.append h2 h'⟩
theorem RAs.set {M : BSet} {ι : LMap} {w : World} : ∀ {ts : List AV} {us : List Value} (i : Nat) (x : AV) (v : Value), RAs M ι w ts us → RA M ι w x v → RAs M ι w (ts.set i x) (us.set i v)
  | [], us, i, x, v, h, hx => by simp only [RAs] at h; subst h; simp [RAs]
  | c :: cs, us, 0, x, v, h, hx => by
    simp only [RAs] at h
    obtain ⟨u, us', rfl, h1, h2⟩ := h
    simp only [List.set_cons_zero, RAs]
    exact ⟨v, us', rfl, hx, h2⟩
  | c :: cs, us, i + 1, x, v, h, hx => by
    simp only [RAs] at h
    obtain ⟨u, us', rfl, h1, h2⟩ := h
    simp only [List.set_cons_succ, RAs]
    exact ⟨u, _, rfl, h1, RAs.set i x v h2 hx⟩
theorem RAs.of_tr {M : BSet} {ι : LMap} {w : World} : ∀ {ts : List Tr} {us : List Value}, RTs M w ts us → RAs M ι w (ts.map .tr) us
  | [], us, h => by simpa [RAs, RTs] using h
  | c :: cs, us, h => by
    simp only [RTs] at h
    obtain ⟨u, us', rfl, h1, h2⟩ := h
    simp only [List.map_cons, RAs, RA]
    exact ⟨u, us', rfl, h1, RAs.of_tr h2⟩

/-- A list of things by number; the first one counts. -/
def look {α : Type} : List (Nat × α) → Nat → Option α
  | [], _ => none
  | p :: r, t => bif Nat.beq p.1 t then some p.2 else look r t

/-- Objects. -/
inductive AObj where
  | row (e : TypeId) (cs : List AV)
  | els (e : TypeId) (sz : Nat) (xs : List Tr)
  | map (es : List (Value × AV))
  | mapT (es : List (Value × Tr))
  | mapS (es : List (Value × AV))
  | cst (q : Nat) (ob : Obj)

abbrev GS := List (Nat × AObj)
abbrev TS := List (Nat × AV)

def InDom (G : GS) (l : Nat) : Prop := ∃ o, look G l = some o
def Mut (X : BSet) (ι : LMap) (G : GS) : BSet := fun b => X b ∨ ∃ l, InDom G l ∧ ι l = some b

/-- The entries of a map, one by one. -/
def REnts (M : BSet) (ι : LMap) (w : World) : List (Value × AV) → List MapEntry → Prop
  | [], es => es = []
  | p :: ps, es => ∃ e es', es = e :: es' ∧ e.key = p.1 ∧ RA M ι w p.2 e.val ∧ REnts M ι w ps es'

def RO (M : BSet) (ι : LMap) (w : World) : AObj → Option Nat → Prop
  | .row e cs, o => (o = none ∧ cs = []) ∨ ∃ (b : Nat) (arr : Array Value) (us : List Value), o = some b ∧ w.heap[b]? = some (.cells arr e (0, 0)) ∧ RAs M ι w cs us ∧ ∀ (j : Nat) (u : Value), us[j]? = some u → arr[j]? = some u
  | .els e sz xs, o => (o = none ∧ xs = []) ∨ ∃ (b : Nat) (us more : List Value), o = some b ∧ w.heap[b]? = some (.cells (us ++ more).toArray e (0, 0)) ∧ RTe M w sz xs us ∧ ∀ u ∈ us ++ more, u.oneCell' = true
  | .map es, o => ∃ b arr clock, o = some b ∧ w.heap[b]? = some (.map arr clock) ∧ REnts M ι w es arr.toList ∧ arr.toList.Pairwise (fun x y => x.born < y.born) ∧ ∀ e ∈ arr.toList, e.born < clock
  | .mapT es, o => ∃ b arr clock, o = some b ∧ w.heap[b]? = some (.map arr clock) ∧ REnts M ι w (es.map fun p => (p.1, .tr p.2)) arr.toList ∧ arr.toList.Pairwise (fun x y => x.born < y.born) ∧ ∀ e ∈ arr.toList, e.born < clock
  | .mapS es, o => ∃ es' : List (Value × AV), es'.Perm es ∧ ∃ b arr clock, o = some b ∧ w.heap[b]? = some (.map arr clock) ∧ REnts M ι w es' arr.toList ∧ arr.toList.Pairwise (fun x y => x.born < y.born) ∧ ∀ e ∈ arr.toList, e.born < clock
  | .cst q ob, o => o = some q ∧ w.heap[q]? = some ob

structure HSat (X : BSet) (ι : LMap) (G : GS) (w : World) : Prop where
  obj : ∀ l o, look G l = some o → RO (Mut X ι G) ι w o (ι l)
  inj : ∀ l l' b, InDom G l → InDom G l' → ι l = some b → ι l' = some b → l = l'
  lt : ∀ l b, InDom G l → ι l = some b → b < w.heap.size ∧ ¬ X b
  xlt : ∀ b, X b → b < w.heap.size

structure Fr (w0 : World) (W0 : BSet) (w : World) : Prop where
  os : w.os = w0.os
  tape : w.tape = w0.tape
  output : w.output = w0.output
  size : w0.heap.size ≤ w.heap.size
  same : ∀ b, b < w0.heap.size → ¬ W0 b → w.heap[b]? = w0.heap[b]?
  shp : ∀ b, b < w0.heap.size → cellsIn w b = cellsIn w0 b

theorem Fr.refl (w : World) (W : BSet) : Fr w W w := ⟨rfl, rfl, rfl, Nat.le_refl _, fun _ _ _ => rfl, fun _ _ => rfl⟩

structure Env where
  X : BSet
  w0 : World
  W0 : BSet
  i0 : LMap

/-- What stands fast within a call: the calls that are deferred, the labels whose blocks stay. -/
structure Fx where
  ds : List Deferred
  fx : List Nat

structure Sat (E : Env) (n : Nat) (ds : Fx) (ι : LMap) (G : GS) (ts : TS) (a : Act) (w : World) : Prop where
  dfs : a.defers = ds.ds
  sz : a.tmps.size = n
  tm : ∀ t x, look ts t = some x → ∃ u, a.tmps[t]? = some u ∧ RA (Mut E.X ι G) ι w x u
  hp : HSat E.X ι G w
  fr : Fr E.w0 E.W0 w
  wr : ∀ l b, InDom G l → ι l = some b → E.W0 b ∨ E.w0.heap.size ≤ b
  fx : ∀ l, l ∈ ds.fx → ι l = E.i0 l

/-- What is lifted to the machine. -/
def Lift (E : Env) (n : Nat) (ds : Fx) (Q : Exit → TS → GS → Prop) (ex : Exit) (a : Act) (w : World) : Prop :=
  ∃ ts G ι, Q ex ts G ∧ Sat E n ds ι G ts a w

def AW (P : Program) (n : Nat) (ds : Fx) (c : Code) (Q : Exit → TS → GS → Prop) (ts : TS) (G : GS) : Prop :=
  ∀ E ι a w, Sat E n ds ι G ts a w → c.wp P (Lift E n ds Q) a w

def AL (P : Program) (n : Nat) (ds : Fx) (ops : Array Oper) (rest : List Oper) (Q : Exit → TS → GS → Prop) (ts : TS) (G : GS) : Prop :=
  ∀ E ι a w, Sat E n ds ι G ts a w → wpList P ops (Lift E n ds Q) rest a w

theorem allRefs_iff {p : Nat → Bool} : ∀ {xs : List AV}, allRefs p xs = true ↔ ∀ x ∈ xs, allRef p x = true
  | [] => by simp [allRefs]
  | c :: cs => by simp [allRefs, allRefs_iff (xs := cs)]

theorem REnts.keep {M M' : BSet} {ι ι' : LMap} {w w' : World} (k : Keep M M' w w') (p : Nat → Bool) (hι : ∀ l, p l = true → ι' l = ι l) :
    ∀ (ps : List (Value × AV)) (es : List MapEntry), (∀ q ∈ ps, allRef p q.2 = true) → REnts M ι w ps es → REnts M' ι' w' ps es
  | [], es, _, h => h
  | q :: ps, es, hn, h => by
    obtain ⟨e, es', rfl, h1, h2, h3⟩ := h
    exact ⟨e, es', rfl, h1, RA.keep k p hι _ _ (hn q (by simp)) h2, REnts.keep k p hι ps es' (fun r hr => hn r (by simp [hr])) h3⟩

def allRefO (p : Nat → Bool) : AObj → Bool
  | .row _ cs => allRefs p cs
  | .els _ _ _ => true
  | .map es => es.all fun q => allRef p q.2
  | .mapT _ => true
  | .mapS es => es.all fun q => allRef p q.2
  | .cst _ _ => true
def noRefO (L : Nat) (o : AObj) : Bool := allRefO (fun l => !(Nat.beq l L)) o

/-- An object whose own block is as it was. -/
theorem RO.keep {M M' : BSet} {ι ι' : LMap} {w w' : World} (k : Keep M M' w w') (p : Nat → Bool) (hι : ∀ l, p l = true → ι' l = ι l) (o : AObj) (b : Option Nat)
    (hb : ∀ i, b = some i → w'.heap[i]? = w.heap[i]?) (hn : allRefO p o = true) (h : RO M ι w o b) : RO M' ι' w' o b := by
  cases o with
  | row e cs =>
    rcases h with h | ⟨i, arr, us, e1, h1, h2, h3⟩
    · exact .inl h
    · exact .inr ⟨i, arr, us, e1, by rw [hb i e1]; exact h1, RAs.keep k p hι cs us hn h2, h3⟩
  | els e sz xs =>
    rcases h with h | ⟨i, us, more, e1, h1, h2, h3⟩
    · exact .inl h
    · exact .inr ⟨i, us, more, e1, by rw [hb i e1]; exact h1, RTe.keep k sz xs us h2, h3⟩
  | map es =>
    obtain ⟨i, arr, clock, e1, h1, h2, h3, h4⟩ := h
    exact ⟨i, arr, clock, e1, by rw [hb i e1]; exact h1, REnts.keep k p hι _ _ (fun q hq => List.all_eq_true.1 hn q hq) h2, h3, h4⟩
  | mapT es =>
    obtain ⟨i, arr, clock, e1, h1, h2, h3, h4⟩ := h
    refine ⟨i, arr, clock, e1, by rw [hb i e1]; exact h1, REnts.keep k p hι _ _ (fun q hq => ?_) h2, h3, h4⟩
    obtain ⟨r, _, rfl⟩ := List.mem_map.1 hq
    rfl
  | mapS es =>
    obtain ⟨es', hp, i, arr, clock, e1, h1, h2, h3, h4⟩ := h
    exact ⟨es', hp, i, arr, clock, e1, by rw [hb i e1]; exact h1, REnts.keep k p hι _ _ (fun q hq => List.all_eq_true.1 hn q (hp.mem_iff.1 hq)) h2, h3, h4⟩
  | cst q ob => exact ⟨h.1, by rw [hb q h.1]; exact h.2⟩
theorem allRefO_of {p : Nat → Bool} (o : AObj) (h : ∀ l, noRefO l o = false → p l = true) : allRefO p o = true := by
  cases o with
  | row e cs => exact allRefs_of cs h
  | els e sz xs => rfl
  | map es =>
    refine List.all_eq_true.2 fun q hq => allRef_of q.2 fun l hl => h l ?_
    simp only [noRefO, allRefO]
    refine Bool.eq_false_iff.2 fun ht => ?_
    have := List.all_eq_true.1 ht q hq
    rw [noRef] at hl
    rw [hl] at this
    cases this
  | mapT es => rfl
  | mapS es =>
    refine List.all_eq_true.2 fun q hq => allRef_of q.2 fun l hl => h l ?_
    simp only [noRefO, allRefO]
    refine Bool.eq_false_iff.2 fun ht => ?_
    have := List.all_eq_true.1 ht q hq
    rw [noRef] at hl
    rw [hl] at this
    cases this
  | cst q ob => rfl
theorem allRefO_true (o : AObj) : allRefO (fun _ => true) o = true := by
  cases o with
  | row e cs => exact allRefs_true cs
  | els e sz xs => rfl
  | map es => exact List.all_eq_true.2 fun q _ => allRef_true q.2
  | mapT es => rfl
  | mapS es => exact List.all_eq_true.2 fun q _ => allRef_true q.2
  | cst q ob => rfl
theorem RO.keep0 {M M' : BSet} {ι : LMap} {w w' : World} (k : Keep M M' w w') {o : AObj} {b : Option Nat} (hb : ∀ i, b = some i → w'.heap[i]? = w.heap[i]?) (h : RO M ι w o b) : RO M' ι w' o b :=
  RO.keep k (fun _ => true) (fun _ _ => rfl) o b hb (allRefO_true o) h

end Go.Ab

namespace Go.Ab
open Go

theorem look_cons_same {α : Type} (t : Nat) (x : α) (r : List (Nat × α)) : look ((t, x) :: r) t = some x := by simp [look]
theorem look_cons_ne {α : Type} {t t' : Nat} (x : α) (r : List (Nat × α)) (h : t ≠ t') : look ((t, x) :: r) t' = look r t' := by
  have : Nat.beq t t' = false := by
    cases hb : Nat.beq t t' with
    | false => rfl
    | true => exact absurd (Nat.eq_of_beq_eq_true hb) h
  simp [look, this]
theorem look_cons {α : Type} {t t' : Nat} {x : α} {r : List (Nat × α)} {y : α} (h : look ((t, x) :: r) t' = some y) : (t = t' ∧ x = y) ∨ (t ≠ t' ∧ look r t' = some y) := by
  by_cases e : t = t'
  · subst e; rw [look_cons_same] at h; injection h with h; exact .inl ⟨rfl, h⟩
  · rw [look_cons_ne _ _ e] at h; exact .inr ⟨e, h⟩

section
variable {P : Program} {n : Nat} {ds : Fx} {E : Env} {ι : LMap} {G : GS} {ts : TS} {a : Act} {w : World}

theorem Sat.keepM (S : Sat E n ds ι G ts a w) : Keep (Mut E.X ι G) (Mut E.X ι G) w w := Keep.refl _ _

/-- A value is put; the world stands. -/
theorem Sat.put (S : Sat E n ds ι G ts a w) {d : Tmp} (hd : d < n) {x : AV} {u : Value} (hx : RA (Mut E.X ι G) ι w x u) : Sat E n ds ι G ((d, x) :: ts) (a.put (some d) u) w where
  dfs := by simpa [Act.put] using S.dfs
  sz := by simpa [Act.put] using S.sz
  tm := by
    intro t y hy
    rcases look_cons hy with ⟨rfl, rfl⟩ | ⟨hne, hy⟩
    · exact ⟨u, by simp [Act.put, S.sz, hd], hx⟩
    · obtain ⟨v, hv, hr⟩ := S.tm t y hy
      exact ⟨v, by simp [Act.put, Array.getElem?_setIfInBounds, hne, hv], hr⟩
  hp := S.hp
  fr := S.fr
  wr := S.wr
  fx := S.fx

theorem Sat.putN (S : Sat E n ds ι G ts a w) (u : Value) : Sat E n ds ι G ts (a.put none u) w := S

theorem Sat.again (S : Sat E n ds ι G ts a w) {t : Nat} {x : AV} (h : look ts t = some x) : Sat E n ds ι G ((t, x) :: ts) a w where
  dfs := S.dfs
  sz := S.sz
  tm := by
    intro t' y hy
    rcases look_cons hy with ⟨rfl, rfl⟩ | ⟨hne, hy⟩
    · exact S.tm _ _ h
    · exact S.tm _ _ hy
  hp := S.hp
  fr := S.fr
  wr := S.wr
  fx := S.fx

/-- What an operand stands for. -/
def evA (ts : TS) : Operand → Option AV
  | .tmp t => look ts t
  | .const v => some (.tr (.val v))
  | .func f => some (.fn f [] [])
  | .global _ => none

theorem Sat.ev (S : Sat E n ds ι G ts a w) {x : Operand} {v : AV} (h : evA ts x = some v) : RA (Mut E.X ι G) ι w v (a.eval x) := by
  cases x with
  | tmp t =>
    obtain ⟨u, hu, hr⟩ := S.tm t v h
    simp only [Act.eval, Array.getD_eq_getD_getElem?, hu, Option.getD_some]
    exact hr
  | const c => simp only [evA, Option.some.injEq] at h; subst h; simp [RA, RT, Act.eval]
  | global g => simp [evA] at h
  | func f => simp only [evA, Option.some.injEq] at h; subst h; simp only [RA, Act.eval]; exact ⟨[], [], rfl, by simp [RAs], by simp [RAs]⟩

theorem Sat.evV (S : Sat E n ds ι G ts a w) {x : Operand} {v : Value} (h : evA ts x = some (.tr (.val v))) : a.eval x = v := by
  have := S.ev h
  simpa [RA, RT] using this

def evs (ts : TS) : List Operand → Option (List AV)
  | [] => some []
  | x :: xs => match evA ts x, evs ts xs with
    | some v, some vs => some (v :: vs)
    | _, _ => none

theorem Sat.evl (S : Sat E n ds ι G ts a w) : ∀ {xs : List Operand} {vs : List AV}, evs ts xs = some vs → RAs (Mut E.X ι G) ι w vs (xs.map a.eval)
  | [], vs, h => by simp only [evs, Option.some.injEq] at h; subst h; simp [RAs]
  | x :: xs, vs, h => by
    simp only [evs] at h
    split at h
    · rename_i v vs' h1 h2
      injection h with h
      subst h
      simp only [List.map_cons, RAs]
      exact ⟨_, _, rfl, S.ev h1, S.evl h2⟩
    · cases h

/-- Is the operation wanted? -/
def wantB (ops : Array Oper) (ts : TS) (o : Oper) : Option Bool :=
  match o.guard with
  | none => some true
  | some (j, want) =>
    match ops[j]? with
    | some oj =>
      match oj.dst with
      | some t =>
        match look ts t with
        | some (.tr (.val (.bool b))) => some (b == want)
        | some (.tr (.val (.tuple _))) => some false
        | _ => none
      | none => none
    | none => none

theorem Sat.want (S : Sat E n ds ι G ts a w) {ops : Array Oper} {o : Oper} {b : Bool} (h : wantB ops ts o = some b) : Region.wanted o (yielded ops a.tmps) = b := by
  unfold wantB at h
  unfold Region.wanted
  split at h
  · rename_i hg; rw [hg]; simpa using h
  · rename_i j want hg
    rw [hg]
    simp only
    split at h
    · rename_i oj hj
      split at h
      · rename_i t ht
        split at h
        · rename_i c hl
          obtain ⟨u, hu, hr⟩ := S.tm t _ hl
          simp only [RA, RT] at hr
          subst hr
          have : yielded ops a.tmps j = some c := by simp [yielded, hj, ht, hu]
          rw [this]
          simp only [Option.some.injEq] at h
          rw [← h]
          cases c <;> cases want <;> rfl
        · rename_i xs hl
          obtain ⟨u, hu, hr⟩ := S.tm t _ hl
          simp only [RA, RT] at hr
          subst hr
          have : yielded ops a.tmps j = none := by simp [yielded, hj, ht, hu]
          rw [this]
          injection h with h
        · cases h
      · cases h
    · cases h

/-! ### Code -/
theorem AW.mono {c : Code} {Q Q' : Exit → TS → GS → Prop} (hq : ∀ e ts G, Q e ts G → Q' e ts G) (h : AW P n ds c Q ts G) : AW P n ds c Q' ts G := by
  intro E ι a w S
  refine wp_mono (h E ι a w S) ?_
  rintro e a w ⟨ts', G', ι', q, s⟩
  exact ⟨ts', G', ι', hq _ _ _ q, s⟩

theorem AW.skip {Q : Exit → TS → GS → Prop} (h : Q .normal ts G) : AW P n ds .skip Q ts G := fun E ι a w S => wp_skip ⟨ts, G, ι, h, S⟩
theorem AW.ret {Q : Exit → TS → GS → Prop} (h : Q .ret ts G) : AW P n ds .ret Q ts G := fun E ι a w S => wp_ret ⟨ts, G, ι, h, S⟩
theorem AW.exit {Q : Exit → TS → GS → Prop} {id : Nat} (h : Q (.exit id) ts G) : AW P n ds (.exit id) Q ts G := fun E ι a w S => wp_exit ⟨ts, G, ι, h, S⟩

/-- What stands behind. -/
def Then (P : Program) (n : Nat) (ds : Fx) (y : Code) (Q : Exit → TS → GS → Prop) : Exit → TS → GS → Prop
  | .normal, ts, G => AW P n ds y Q ts G
  | e, ts, G => Q e ts G

theorem AW.seq {x y : Code} {Q : Exit → TS → GS → Prop} (h : AW P n ds x (Then P n ds y Q) ts G) : AW P n ds (.seq x y) Q ts G := by
  intro E ι a w S
  refine wp_seq (wp_mono (h E ι a w S) ?_)
  rintro e a' w' ⟨ts', G', ι', q, s⟩
  cases e with
  | normal => exact q E ι' a' w' s
  | _ => exact ⟨ts', G', ι', q, s⟩

def InBlock (id : Nat) (Q : Exit → TS → GS → Prop) : Exit → TS → GS → Prop
  | .exit id', ts, G => bif Nat.beq id' id then Q .normal ts G else Q (.exit id') ts G
  | e, ts, G => Q e ts G

theorem AW.block {id : Nat} {c : Code} {Q : Exit → TS → GS → Prop} (h : AW P n ds c (InBlock id Q) ts G) : AW P n ds (.block id c) Q ts G := by
  intro E ι a w S
  refine wp_block (wp_mono (h E ι a w S) ?_)
  rintro e a' w' ⟨ts', G', ι', q, s⟩
  cases e with
  | exit id' =>
    simp only [Exit.inBlock]
    simp only [InBlock] at q
    by_cases e : id' = id
    · subst e; rw [if_pos rfl]; simp at q; exact ⟨ts', G', ι', q, s⟩
    · rw [if_neg e]
      have : Nat.beq id' id = false := by
        cases hb : Nat.beq id' id with
        | false => rfl
        | true => exact absurd (Nat.eq_of_beq_eq_true hb) e
      rw [this] at q
      exact ⟨ts', G', ι', q, s⟩
  | _ => exact ⟨ts', G', ι', q, s⟩

theorem AW.cond {c : Operand} {x y : Code} {Q : Exit → TS → GS → Prop} (b : Bool) (hb : evA ts c = some (.tr (.val (.bool b))))
    (ht : b = true → AW P n ds x Q ts G) (hf : b = false → AW P n ds y Q ts G) : AW P n ds (.cond c x y) Q ts G := by
  intro E ι a w S
  refine wp_cond (S.evV hb) ?_
  cases b with
  | true => exact ht rfl E ι a w S
  | false => exact hf rfl E ι a w S

theorem AW.condT {c : Operand} {x y : Code} {Q : Exit → TS → GS → Prop} (hb : evA ts c = some (.tr (.val (.bool true)))) (ht : AW P n ds x Q ts G) : AW P n ds (.cond c x y) Q ts G :=
  AW.cond true hb (fun _ => ht) (fun h => by cases h)
theorem AW.condF {c : Operand} {x y : Code} {Q : Exit → TS → GS → Prop} (hb : evA ts c = some (.tr (.val (.bool false)))) (hf : AW P n ds y Q ts G) : AW P n ds (.cond c x y) Q ts G :=
  AW.cond false hb (fun h => by cases h) (fun _ => hf)

/-- Less is said of the temporaries: what is listed behind is what was there (or nothing is said). -/
def sub1 (ts : TS) (p : Nat × AV) : Prop := p.2 = .junk ∨ look ts p.1 = some p.2

theorem Sat.weakT (S : Sat E n ds ι G ts a w) {ts' : TS} (h : ∀ p ∈ ts', p.1 < n ∧ (p.2 = .junk ∨ look ts p.1 = some p.2)) : Sat E n ds ι G ts' a w where
  dfs := S.dfs
  sz := S.sz
  tm := by
    intro t x hx
    have hm : (t, x) ∈ ts' := by
      clear h
      induction ts' with
      | nil => simp [look] at hx
      | cons p r ih =>
        rcases look_cons (t := p.1) (x := p.2) (r := r) hx with ⟨h1, h2⟩ | ⟨_, h2⟩
        · subst h1; subst h2; simp
        · exact List.mem_cons_of_mem _ (ih h2)
    obtain ⟨hlt, hj | hl⟩ := h _ hm
    · simp only at hj
      subst hj
      have : t < a.tmps.size := by rw [S.sz]; exact hlt
      exact ⟨a.tmps[t], by simp [this], by simp [RA]⟩
    · exact S.tm t x hl
  hp := S.hp
  fr := S.fr
  wr := S.wr
  fx := S.fx

theorem mem_of_look {α : Type} : ∀ {r : List (Nat × α)} {t : Nat} {x : α}, look r t = some x → (t, x) ∈ r
  | [], t, x, h => by simp [look] at h
  | p :: r, t, x, h => by
    rcases look_cons (t := p.1) (x := p.2) (r := r) h with ⟨h1, h2⟩ | ⟨_, h2⟩
    · subst h1; subst h2; simp
    · exact List.mem_cons_of_mem _ (mem_of_look h2)

theorem InDom.sub {G' G : GS} (h : ∀ p ∈ G', look G p.1 = some p.2) {l : Nat} (hd : InDom G' l) : InDom G l := by
  obtain ⟨o, ho⟩ := hd
  exact ⟨o, h _ (mem_of_look ho)⟩
theorem Mut.sub {X : BSet} {G' G : GS} (h : ∀ p ∈ G', look G p.1 = some p.2) {b : Nat} (hm : Mut X ι G' b) : Mut X ι G b := by
  rcases hm with hm | ⟨l, hd, e⟩
  · exact .inl hm
  · exact .inr ⟨l, hd.sub h, e⟩
/-- Less is said of the objects. -/
theorem Sat.weakG (S : Sat E n ds ι G ts a w) {G' : GS} (h : ∀ p ∈ G', look G p.1 = some p.2) : Sat E n ds ι G' ts a w := by
  have k : Keep (Mut E.X ι G) (Mut E.X ι G') w w := ⟨Nat.le_refl _, fun _ _ _ => rfl, fun _ _ hm => Mut.sub h hm, fun _ _ => rfl⟩
  exact {
    dfs := S.dfs
    sz := S.sz
    tm := fun t x hx => let ⟨u, hu, hr⟩ := S.tm t x hx; ⟨u, hu, hr.keep0 k⟩
    hp := {
      obj := fun l o ho => RO.keep0 k (fun _ _ => rfl) (S.hp.obj l o (h _ (mem_of_look ho)))
      inj := fun l l' b hl hl' => S.hp.inj l l' b (hl.sub h) (hl'.sub h)
      lt := fun l b hl => S.hp.lt l b (hl.sub h)
      xlt := S.hp.xlt }
    fr := S.fr
    wr := fun l b hl => S.wr l b (hl.sub h)
    fx := S.fx }

theorem least {p : Nat → Prop} (h : ∃ k, p k) : ∃ k, p k ∧ ∀ j, p j → k ≤ j := by
  obtain ⟨k, hk⟩ := h
  induction k using Nat.strongRecOn with
  | _ k ih =>
    by_cases e : ∃ j, j < k ∧ p j
    · obtain ⟨j, hj, hp⟩ := e; exact ih j hj hp
    · exact ⟨k, hk, fun j hj => Nat.le_of_not_lt fun hlt => e ⟨j, hlt, hj⟩⟩

def SubT (n : Nat) (ts' ts : TS) : Prop := ∀ p ∈ ts', p.1 < n ∧ (p.2 = .junk ∨ look ts p.1 = some p.2)
def SubG (G' G : GS) : Prop := ∀ p ∈ G', look G p.1 = some p.2

/-- What a round leaves. -/
def Round {σ : Type} (n : Nat) (T : σ → TS) (H : σ → GS) (I : σ → Prop) (μ : σ → Nat) (s : σ) (Q : Exit → TS → GS → Prop) : Exit → TS → GS → Prop
  | .normal, ts', G' => ∃ s', I s' ∧ μ s' < μ s ∧ SubT n (T s') ts' ∧ SubG (H s') G'
  | e, ts', G' => Q e ts' G'

open Classical in
/-- A loop: a family of states, of which each round leads to a smaller one. -/
theorem AW.loop {σ : Type} {c : Code} {Q : Exit → TS → GS → Prop} (T : σ → TS) (H : σ → GS) (I : σ → Prop) (μ : σ → Nat) (s0 : σ) (h0 : I s0)
    (hT : SubT n (T s0) ts) (hH : SubG (H s0) G)
    (round : ∀ s, I s → AW P n ds c (Round n T H I μ s Q) (T s) (H s)) : AW P n ds (.loop c) Q ts G := by
  intro E ι a w S
  let p : Act → World → Nat → Prop := fun a w k => ∃ s ι, I s ∧ Sat E n ds ι (H s) (T s) a w ∧ μ s = k
  let m : Act → World → Nat := fun a w => if h : ∃ k, p a w k then Classical.choose (least h) else 0
  have hm : ∀ a w, (∃ k, p a w k) → p a w (m a w) ∧ ∀ j, p a w j → m a w ≤ j := by
    intro a w h
    have := Classical.choose_spec (least h)
    simp only [m, dif_pos h]
    exact this
  refine wp_loop (fun a w => ∃ k, p a w k) m ⟨μ s0, s0, ι, h0, (S.weakT hT).weakG hH, rfl⟩ ?_
  intro a w hp
  obtain ⟨⟨s, ι, hi, S, hk⟩, _⟩ := hm a w hp
  refine wp_mono (round s hi E ι a w S) ?_
  rintro e a' w' ⟨ts', G', ι', q, S'⟩
  cases e with
  | normal =>
    obtain ⟨s', hi', hlt, hw, hg⟩ := q
    have hp' : p a' w' (μ s') := ⟨s', ι', hi', (S'.weakT hw).weakG hg, rfl⟩
    refine ⟨⟨_, hp'⟩, ?_⟩
    have := (hm a' w' ⟨_, hp'⟩).2 _ hp'
    omega
  | _ => exact ⟨ts', G', ι', q, S'⟩

section
variable {Q : Exit → TS → GS → Prop} {y : Code} {id : Nat}
theorem Then.go (h : AW P n ds y Q ts G) : Then P n ds y Q .normal ts G := h
theorem Then.e {i : Nat} (h : Q (.exit i) ts G) : Then P n ds y Q (.exit i) ts G := h
theorem Then.r (h : Q .ret ts G) : Then P n ds y Q .ret ts G := h
theorem InBlock.go (h : Q .normal ts G) : InBlock id Q .normal ts G := h
theorem InBlock.r (h : Q .ret ts G) : InBlock id Q .ret ts G := h
theorem InBlock.e (h : Q .normal ts G) : InBlock id Q (.exit id) ts G := by simpa [InBlock] using h
theorem InBlock.o {i : Nat} (hi : Nat.beq i id = false) (h : Q (.exit i) ts G) : InBlock id Q (.exit i) ts G := by simpa [InBlock, hi] using h
section
variable {σ : Type} {T : σ → TS} {H : σ → GS} {I : σ → Prop} {μ : σ → Nat} {s : σ}
theorem Round.go (s' : σ) (hi : I s') (hm : μ s' < μ s) (hT : SubT n (T s') ts) (hH : SubG (H s') G) : Round n T H I μ s Q .normal ts G := ⟨s', hi, hm, hT, hH⟩
theorem Round.e {i : Nat} (h : Q (.exit i) ts G) : Round n T H I μ s Q (.exit i) ts G := h
theorem Round.r (h : Q .ret ts G) : Round n T H I μ s Q .ret ts G := h
end
theorem SubT.nil : SubT n [] ts := fun _ h => by cases h
theorem SubT.cons {t : Nat} {x : AV} {r : TS} (hn : t < n) (h : look ts t = some x) (h' : SubT n r ts) : SubT n ((t, x) :: r) ts := by
  intro p hp
  rcases List.mem_cons.1 hp with rfl | hp
  · exact ⟨hn, .inr h⟩
  · exact h' p hp
theorem SubG.nil : SubG [] G := fun _ h => by cases h
theorem SubG.cons {l : Nat} {o : AObj} {r : GS} (h : look G l = some o) (h' : SubG r G) : SubG ((l, o) :: r) G := by
  intro p hp
  rcases List.mem_cons.1 hp with rfl | hp
  · exact h
  · exact h' p hp
theorem AW.condD {c : Operand} {x y : Code} (p : Prop) [Decidable p] (hb : evA ts c = some (.tr (.val (.bool (decide p)))))
    (ht : p → AW P n ds x Q ts G) (hf : ¬ p → AW P n ds y Q ts G) : AW P n ds (.cond c x y) Q ts G :=
  AW.cond _ hb (fun h => ht (of_decide_eq_true h)) (fun h => hf (of_decide_eq_false h))
theorem AW.condN {c : Operand} {x y : Code} (p : Prop) [Decidable p] (hb : evA ts c = some (.tr (.val (.bool (!decide p)))))
    (ht : ¬ p → AW P n ds x Q ts G) (hf : p → AW P n ds y Q ts G) : AW P n ds (.cond c x y) Q ts G :=
  AW.cond _ hb (fun h => ht (by simpa using h)) (fun h => hf (by simpa using h))
end

/-! ### Regions -/
theorem AW.region {id : Nat} {l : List Oper} {Q : Exit → TS → GS → Prop} (h : AL P n ds l.toArray l Q ts G) : AW P n ds (.region id l.toArray false) Q ts G :=
  fun E ι a w S => wp_region_lit (h E ι a w S)

theorem AL.nil {ops : Array Oper} {Q : Exit → TS → GS → Prop} (h : Q .normal ts G) : AL P n ds ops [] Q ts G := fun E ι a w S => ⟨ts, G, ι, h, S⟩

theorem AL.drop {ops : Array Oper} {rest : List Oper} {Q : Exit → TS → GS → Prop} {ts' : TS} {G' : GS} (hT : SubT n ts' ts) (hG : SubG G' G) (h : AL P n ds ops rest Q ts' G') : AL P n ds ops rest Q ts G :=
  fun E ι a w S => h E ι a w ((S.weakT hT).weakG hG)
theorem AW.weak {c : Code} {Q : Exit → TS → GS → Prop} {ts' : TS} {G' : GS} (hT : SubT n ts' ts) (hG : SubG G' G) (h : AW P n ds c Q ts' G') : AW P n ds c Q ts G :=
  fun E ι a w S => h E ι a w ((S.weakT hT).weakG hG)

/-- An operation that yields a value and leaves the world alone. -/
def Pure1 (P : Program) (o : Oper) (ts : TS) (G : GS) (x : AV) : Prop :=
  ∀ {E : Env} {n : Nat} {ds : Fx} {ι : LMap} {a : Act} {w : World}, Sat E n ds ι G ts a w → ∃ u, (execOp a.eval o).run P w = .ok (.value u) w ∧ RA (Mut E.X ι G) ι w x u

theorem AL.pure {ops : Array Oper} {o : Oper} {rest : List Oper} {Q : Exit → TS → GS → Prop} {d : Tmp} {x : AV} (hg : wantB ops ts o = some true) (hd : o.dst = some d) (hn : d < n)
    (hp : Pure1 P o ts G x) (h : AL P n ds ops rest Q ((d, x) :: ts) G) : AL P n ds ops (o :: rest) Q ts G := by
  intro E ι a w S
  refine wpList_step fun K hK => ?_
  rw [if_pos (S.want hg)]
  obtain ⟨u, hr, hx⟩ := hp S
  unfold Oper.wp
  rw [hr, Oper.upon_value, hd]
  exact hK _ _ (h E ι _ w (S.put hn hx))

/-- An operation that is not wanted. -/
theorem AL.not {ops : Array Oper} {o : Oper} {rest : List Oper} {Q : Exit → TS → GS → Prop} {d : Tmp} (hg : wantB ops ts o = some false) (hd : o.dst = some d) (hn : d < n)
    (h : AL P n ds ops rest Q ((d, .tr (.val (.tuple #[]))) :: ts) G) : AL P n ds ops (o :: rest) Q ts G := by
  intro E ι a w S
  refine wpList_step fun K hK => ?_
  have hw := S.want hg
  rw [if_neg (by rw [hw]; simp), hd]
  exact hK _ _ (h E ι _ w (S.put hn (by simp [RA, RT, undef])))
theorem AL.not0 {ops : Array Oper} {o : Oper} {rest : List Oper} {Q : Exit → TS → GS → Prop} (hg : wantB ops ts o = some false) (hd : o.dst = none)
    (h : AL P n ds ops rest Q ts G) : AL P n ds ops (o :: rest) Q ts G := by
  intro E ι a w S
  refine wpList_step fun K hK => ?_
  have hw := S.want hg
  rw [if_neg (by rw [hw]; simp), hd]
  exact hK _ _ (h E ι _ w (S.putN _))

/-- Two ways, by a truth that stands in a temporary. -/
theorem AL_case {ops : Array Oper} {rest : List Oper} {Q : Exit → TS → GS → Prop} {t : Nat} (e : Bool) (he : look ts t = some (.tr (.val (.bool e)))) (hn : t < n)
    (ht : e = true → AL P n ds ops rest Q ((t, .tr (.val (.bool true))) :: ts) G) (hf : e = false → AL P n ds ops rest Q ((t, .tr (.val (.bool false))) :: ts) G) : AL P n ds ops rest Q ts G := by
  cases e with
  | true => exact fun E ι a w S => ht rfl E ι a w (S.again he)
  | false => exact fun E ι a w S => hf rfl E ι a w (S.again he)
theorem AL.caseD {ops : Array Oper} {rest : List Oper} {Q : Exit → TS → GS → Prop} {t : Nat} (p : Prop) [Decidable p] (he : look ts t = some (.tr (.val (.bool (decide p))))) (hn : t < n)
    (ht : p → AL P n ds ops rest Q ((t, .tr (.val (.bool true))) :: ts) G) (hf : ¬ p → AL P n ds ops rest Q ((t, .tr (.val (.bool false))) :: ts) G) : AL P n ds ops rest Q ts G :=
  AL_case _ he hn (fun h => ht (of_decide_eq_true h)) (fun h => hf (of_decide_eq_false h))
theorem AL.caseN {ops : Array Oper} {rest : List Oper} {Q : Exit → TS → GS → Prop} {t : Nat} (p : Prop) [Decidable p] (he : look ts t = some (.tr (.val (.bool (!decide p))))) (hn : t < n)
    (ht : ¬ p → AL P n ds ops rest Q ((t, .tr (.val (.bool true))) :: ts) G) (hf : p → AL P n ds ops rest Q ((t, .tr (.val (.bool false))) :: ts) G) : AL P n ds ops rest Q ts G :=
  AL_case _ he hn (fun h => ht (by simpa using h)) (fun h => hf (by simpa using h))
end
end Go.Ab

namespace Go.Ab
open Go

/-- A struct or an array. -/
def aggD : TypeDesc → Bool
  | .struct _ => true
  | .array _ _ => true
  | _ => false

/-- What a type is: its form, how many cells. -/
structure TyIs (P : Program) (t : TypeId) (d : TypeDesc) (sz : Nat) : Prop where
  und : P.underlying t = some d
  inf : (P.info? t).map (·.size) = some sz

section
variable {P : Program} {w : World} {t : TypeId} {d : TypeDesc} {sz : Nat}
theorem TyIs.run_und (h : TyIs P t d sz) (w : World) : (underlying t).run P w = .ok d w := run_underlying h.und w
theorem TyIs.info (h : TyIs P t d sz) : ∃ i, P.info? t = some i ∧ i.size = sz := by
  have := h.inf
  cases hi : P.info? t with
  | none => rw [hi] at this; cases this
  | some i => rw [hi] at this; exact ⟨i, rfl, by simpa using this⟩
theorem TyIs.run_size (h : TyIs P t d sz) (w : World) : (sizeOf t).run P w = .ok sz w := by
  obtain ⟨i, hi, hs⟩ := h.info
  simp [sizeOf, typeInfo, hi, hs]
theorem TyIs.run_agg (h : TyIs P t d sz) (w : World) : (isAgg t).run P w = .ok (aggD d) w := by
  simp only [isAgg, Sem.run_bind, h.run_und, Result.andThen_ok]
  cases d <;> rfl
end

def allTr : List AV → Option (List Tr)
  | [] => some []
  | .tr t :: r => match allTr r with
    | some ts => some (t :: ts)
    | none => none
  | _ :: _ => none
/-- Cells made one value. -/
def mkA (cs : List AV) : AV := match allTr cs with
  | some ts => .tr (.agg ts)
  | none => .agg cs
/-- A value's cells. -/
def cellsA : AV → List AV
  | .agg cs => cs
  | .tr (.agg ts) => ts.map .tr
  | x => [x]

theorem allTr_spec {M : BSet} {ι : LMap} {w : World} : ∀ {cs : List AV} {ts : List Tr} {us : List Value}, allTr cs = some ts → RAs M ι w cs us → RTs M w ts us
  | [], ts, us, h, r => by simp only [allTr, Option.some.injEq] at h; subst h; simpa [RAs, RTs] using r
  | .tr t :: cs, ts, us, h, r => by
    simp only [allTr] at h
    split at h
    · rename_i ts' h'
      injection h with h
      subst h
      simp only [RAs, RA] at r
      obtain ⟨u, us', rfl, h1, h2⟩ := r
      simp only [RTs]
      exact ⟨u, us', rfl, h1, allTr_spec h' h2⟩
    · cases h
  | .own .. :: cs, ts, us, h, r => by simp [allTr] at h
  | .ptr .. :: cs, ts, us, h, r => by simp [allTr] at h
  | .rp .. :: cs, ts, us, h, r => by simp [allTr] at h
  | .map .. :: cs, ts, us, h, r => by simp [allTr] at h
  | .fn .. :: cs, ts, us, h, r => by simp [allTr] at h
  | .agg .. :: cs, ts, us, h, r => by simp [allTr] at h
  | .tup .. :: cs, ts, us, h, r => by simp [allTr] at h
  | .junk :: cs, ts, us, h, r => by simp [allTr] at h

theorem RA_mkA {M : BSet} {ι : LMap} {w : World} {cs : List AV} {us : List Value} (r : RAs M ι w cs us) : RA M ι w (mkA cs) (.agg us.toArray) := by
  unfold mkA
  split
  · rename_i ts h; simp only [RA, RT]; exact ⟨us, rfl, allTr_spec h r⟩
  · simp only [RA]; exact ⟨us, rfl, r⟩

/-- Is it of one cell by its look? -/
def isOne : AV → Bool
  | .tr (.val (.agg _)) => false
  | .tr (.val (.tuple _)) => false
  | .tr (.val (.bool _)) => true
  | .tr (.val (.int _ _)) => true
  | .tr (.val (.string _)) => true
  | .tr (.val (.pointer _)) => true
  | .tr (.val (.slice _ _ _)) => true
  | .tr (.val (.map _)) => true
  | .tr (.val .nilFunc) => true
  | .tr (.val _) => false
  | .tr (.agg _) => false
  | .tr (.sl _ _) => true
  | .own .. => true
  | .owq .. => true
  | .ptrN .. => true
  | .ptr .. => true
  | .rp _ => true
  | .map _ => true
  | .fn .. => true
  | _ => false
/-- Its cells are known by its look. -/
def cellsOk : AV → Bool
  | .agg cs => cs.all isOne
  | .tr (.agg ts) => ts.all fun t => isOne (.tr t)
  | x => isOne x

theorem isOne_cells {M : BSet} {ι : LMap} {w : World} {x : AV} {u : Value} (h : isOne x = true) (r : RA M ι w x u) : u.cells = #[u] ∧ u.oneCell' = true := by
  cases x with
  | tr t =>
    cases t with
    | val v => simp only [RA, RT] at r; subst r; cases u <;> first | exact ⟨rfl, rfl⟩ | (simp [isOne] at h)
    | sl sz xs => simp only [RA, RT] at r; obtain ⟨A, cap, us, rfl, _⟩ := r; exact ⟨rfl, rfl⟩
    | agg cs => simp [isOne] at h
  | own => simp only [RA] at r; obtain ⟨A, cap, rfl, _⟩ := r; exact ⟨rfl, rfl⟩
  | owq => simp only [RA] at r; obtain ⟨A, cap, rfl, _⟩ := r; exact ⟨rfl, rfl⟩
  | ptrN => simp only [RA] at r; rcases r with rfl | ⟨b, _, rfl⟩ <;> exact ⟨rfl, rfl⟩
  | ptr => simp only [RA] at r; obtain ⟨b, _, rfl⟩ := r; exact ⟨rfl, rfl⟩
  | rp => simp only [RA] at r; obtain ⟨a, us, rfl, _⟩ := r; exact ⟨rfl, rfl⟩
  | map => simp only [RA] at r; obtain ⟨b, _, rfl⟩ := r; exact ⟨rfl, rfl⟩
  | fn => simp only [RA] at r; obtain ⟨fs, cs, rfl, _⟩ := r; exact ⟨rfl, rfl⟩
  | agg => simp [isOne] at h
  | tup => simp [isOne] at h
  | junk => simp [isOne] at h

theorem ones_of {M : BSet} {ι : LMap} {w : World} : ∀ {cs : List AV} {us : List Value}, cs.all isOne = true → RAs M ι w cs us → ∀ u ∈ us, u.oneCell' = true
  | [], us, _, r, u, hu => by simp only [RAs] at r; subst r; simp at hu
  | c :: cs, us, h, r, u, hu => by
    simp only [RAs] at r
    obtain ⟨v, us', rfl, h1, h2⟩ := r
    simp only [List.all_cons, Bool.and_eq_true] at h
    rcases List.mem_cons.1 hu with rfl | hu
    · exact (isOne_cells h.1 h1).2
    · exact ones_of h.2 h2 u hu

theorem RA_cells {M : BSet} {ι : LMap} {w : World} {x : AV} {u : Value} (h : cellsOk x = true) (r : RA M ι w x u) :
    RAs M ι w (cellsA x) u.cells.toList ∧ (∀ c ∈ u.cells.toList, c.oneCell' = true) := by
  have one : isOne x = true → cellsA x = [x] → RAs M ι w (cellsA x) u.cells.toList ∧ (∀ c ∈ u.cells.toList, c.oneCell' = true) := by
    intro h1 h2
    obtain ⟨h3, h4⟩ := isOne_cells h1 r
    rw [h2, h3]
    refine ⟨by simp only [RAs]; exact ⟨u, [], rfl, r, rfl⟩, fun c hc => ?_⟩
    simp at hc
    subst hc
    exact h4
  cases x with
  | tr t =>
    cases t with
    | val v => exact one h rfl
    | sl sz xs => exact one h rfl
    | agg ts =>
      simp only [RA, RT] at r
      obtain ⟨us, rfl, r⟩ := r
      have r' := RAs.of_tr (ι := ι) r
      refine ⟨by simpa [Value.cells, cellsA] using r', fun c hc => ?_⟩
      simp only [Value.cells] at hc
      refine ones_of (cs := ts.map .tr) ?_ r' c hc
      simpa [cellsOk, List.all_map, Function.comp_def] using h
  | agg cs =>
    simp only [RA] at r
    obtain ⟨us, rfl, r⟩ := r
    exact ⟨by simpa [Value.cells, cellsA] using r, fun c hc => ones_of h r c (by simpa [Value.cells] using hc)⟩
  | own => exact one h rfl
  | owq => exact one h rfl
  | ptrN => exact one h rfl
  | ptr => exact one h rfl
  | rp => exact one h rfl
  | map => exact one h rfl
  | fn => exact one h rfl
  | tup => simp [cellsOk, isOne] at h
  | junk => simp [cellsOk, isOne] at h

abbrev vI (k : IntKind) (n : Int) : AV := .tr (.val (.int k n))
abbrev vB (b : Bool) : AV := .tr (.val (.bool b))
abbrev vS (s : ByteArray) : AV := .tr (.val (.string s))

theorem cell_of_heap {w : World} {b o : Nat} {arr : Array Value} {e : TypeId} {fr : Nat × Nat} (h : w.heap[b]? = some (.cells arr e fr)) : w.cell? ⟨b, o, none⟩ = arr[o]? := by
  simp [World.cell?, h]
theorem add_at (b o j : Nat) : (⟨b, o, none⟩ : Addr).add j = ⟨b, o + j, none⟩ := by unfold Addr.add; split <;> simp_all

section
variable {P : Program} {n : Nat} {ds : Fx} {E : Env} {ι : LMap} {G : GS} {ts : TS} {a : Act} {w : World} {ty : TypeId} {pos : String} {after : Array Edge} {gd : Option (Nat × Bool)} {dst : Option Tmp}

theorem P_move {x : Operand} {v : AV} (h : evA ts x = some v) : Pure1 P ⟨dst, .move x, ty, pos, after, gd⟩ ts G v :=
  fun S => ⟨_, rfl, S.ev h⟩
theorem P_assign {x : Operand} {v : AV} (h : evA ts x = some v) : Pure1 P ⟨dst, .assign x, ty, pos, after, gd⟩ ts G v :=
  fun S => ⟨_, rfl, S.ev h⟩
theorem P_pickT {c x y : Operand} {v : AV} (hc : evA ts c = some (vB true)) (h : evA ts x = some v) : Pure1 P ⟨dst, .pick c x y, ty, pos, after, gd⟩ ts G v :=
  fun S => ⟨_, by simp only [execOp, S.evV hc, asBool, Sem.run_bind, Sem.run_pure, Result.andThen_ok]; rfl, S.ev h⟩
theorem P_pickF {c x y : Operand} {v : AV} (hc : evA ts c = some (vB false)) (h : evA ts y = some v) : Pure1 P ⟨dst, .pick c x y, ty, pos, after, gd⟩ ts G v :=
  fun S => ⟨_, by simp only [execOp, S.evV hc, asBool, Sem.run_bind, Sem.run_pure, Result.andThen_ok]; rfl, S.ev h⟩
/-- A choice between truths, undecided. -/
theorem P_pickB {c x y : Operand} {b p q : Bool} (hc : evA ts c = some (vB b)) (hx : evA ts x = some (vB p)) (hy : evA ts y = some (vB q)) : Pure1 P ⟨dst, .pick c x y, ty, pos, after, gd⟩ ts G (vB (bif b then p else q)) :=
  fun S => ⟨.bool (bif b then p else q), by simp only [execOp, S.evV hc, asBool, S.evV hx, S.evV hy, Sem.run_bind, Sem.run_pure, Result.andThen_ok]; cases b <;> rfl, by simp [RA, RT]⟩

/-- Whatever a scalar operation yields, in all worlds. -/
theorem P_un {op : UnOp} {x : Operand} {tx : TypeId} {v r : Value} (h : evA ts x = some (.tr (.val v))) (hr : ∀ w, (Op.unary op v).run P w = .ok r w) : Pure1 P ⟨dst, .unOp op tx x, ty, pos, after, gd⟩ ts G (.tr (.val r)) :=
  fun S => ⟨r, by simp [execOp, S.evV h, hr], by simp [RA, RT]⟩
theorem P_not {x : Operand} {tx : TypeId} {b : Bool} (h : evA ts x = some (vB b)) : Pure1 P ⟨dst, .unOp .not tx x, ty, pos, after, gd⟩ ts G (vB (!b)) :=
  P_un h (fun _ => rfl)
theorem P_bin {op : BinOp} {x y : Operand} {tx tyy : TypeId} {v u r : Value} (h : evA ts x = some (.tr (.val v))) (h' : evA ts y = some (.tr (.val u)))
    (hr : ∀ w, ((do eqGuard op tx x y v u; binOp op tx v u) : Sem Value).run P w = .ok r w) : Pure1 P ⟨dst, .binOp op tx x y tyy, ty, pos, after, gd⟩ ts G (.tr (.val r)) :=
  fun S => ⟨r, by
    have := hr
    simp only [execOp, S.evV h, S.evV h'] 
    rename_i w
    have := hr w
    rw [Sem.run_bind, this]
    rfl, by simp [RA, RT]⟩
theorem run_guard_int (op : BinOp) (tx : TypeId) (x y : Operand) (k k' : IntKind) (p q : Int) (w : World) : (eqGuard op tx x y (.int k p) (.int k' q)).run P w = .ok () w := by
  unfold eqGuard
  split <;> rfl
theorem run_guard_str (op : BinOp) (tx : TypeId) (x y : Operand) (p q : ByteArray) (w : World) : (eqGuard op tx x y (.string p) (.string q)).run P w = .ok () w := by
  unfold eqGuard
  split <;> rfl
theorem run_guard_bool (op : BinOp) (tx : TypeId) (x y : Operand) (p q : Bool) (w : World) : (eqGuard op tx x y (.bool p) (.bool q)).run P w = .ok () w := by
  unfold eqGuard
  split <;> rfl

section ints
variable {x y : Operand} {tx tyy : TypeId} {k : IntKind} {p q : Int}
theorem P_intop {op : BinOp} {r : Value} (h : evA ts x = some (vI k p)) (h' : evA ts y = some (vI k q)) (hr : ∀ w, (binOp op tx (.int k p) (.int k q)).run P w = .ok r w) : Pure1 P ⟨dst, .binOp op tx x y tyy, ty, pos, after, gd⟩ ts G (.tr (.val r)) :=
  P_bin h h' fun w => by rw [Sem.run_bind, run_guard_int]; exact hr w
theorem P_add (h : evA ts x = some (vI k p)) (h' : evA ts y = some (vI k q)) : Pure1 P ⟨dst, .binOp .add tx x y tyy, ty, pos, after, gd⟩ ts G (vI k (k.wrap (p + q))) := P_intop h h' fun w => by simp [binOp, Op.intArith]
theorem P_sub (h : evA ts x = some (vI k p)) (h' : evA ts y = some (vI k q)) : Pure1 P ⟨dst, .binOp .sub tx x y tyy, ty, pos, after, gd⟩ ts G (vI k (k.wrap (p - q))) := P_intop h h' fun w => by simp [binOp, Op.intArith]
theorem P_mul (h : evA ts x = some (vI k p)) (h' : evA ts y = some (vI k q)) : Pure1 P ⟨dst, .binOp .mul tx x y tyy, ty, pos, after, gd⟩ ts G (vI k (k.wrap (p * q))) := P_intop h h' fun w => by simp [binOp, Op.intArith]
theorem P_quo (h : evA ts x = some (vI k p)) (h' : evA ts y = some (vI k q)) (hq : q ≠ 0) : Pure1 P ⟨dst, .binOp .quo tx x y tyy, ty, pos, after, gd⟩ ts G (vI k (k.wrap (p.tdiv q))) := P_intop h h' fun w => by simp [binOp, Op.intDiv, hq]
theorem P_rem (h : evA ts x = some (vI k p)) (h' : evA ts y = some (vI k q)) (hq : q ≠ 0) : Pure1 P ⟨dst, .binOp .rem tx x y tyy, ty, pos, after, gd⟩ ts G (vI k (p.tmod q)) := P_intop h h' fun w => by simp [binOp, Op.intDiv, hq]
theorem P_eql (h : evA ts x = some (vI k p)) (h' : evA ts y = some (vI k q)) : Pure1 P ⟨dst, .binOp .eql tx x y tyy, ty, pos, after, gd⟩ ts G (vB (decide (p = q))) := P_intop h h' fun w => by simp [binOp, Op.intCmp]; rfl
theorem P_neq (h : evA ts x = some (vI k p)) (h' : evA ts y = some (vI k q)) : Pure1 P ⟨dst, .binOp .neq tx x y tyy, ty, pos, after, gd⟩ ts G (vB (!decide (p = q))) := P_intop h h' fun w => by simp [binOp, Op.intCmp]; rfl
theorem P_lss (h : evA ts x = some (vI k p)) (h' : evA ts y = some (vI k q)) : Pure1 P ⟨dst, .binOp .lss tx x y tyy, ty, pos, after, gd⟩ ts G (vB (decide (p < q))) := P_intop h h' fun w => by simp [binOp, Op.intCmp]
theorem P_leq (h : evA ts x = some (vI k p)) (h' : evA ts y = some (vI k q)) : Pure1 P ⟨dst, .binOp .leq tx x y tyy, ty, pos, after, gd⟩ ts G (vB (decide (p ≤ q))) := P_intop h h' fun w => by simp [binOp, Op.intCmp]
theorem P_gtr (h : evA ts x = some (vI k p)) (h' : evA ts y = some (vI k q)) : Pure1 P ⟨dst, .binOp .gtr tx x y tyy, ty, pos, after, gd⟩ ts G (vB (decide (q < p))) := P_intop h h' fun w => by simp [binOp, Op.intCmp]
theorem P_geq (h : evA ts x = some (vI k p)) (h' : evA ts y = some (vI k q)) : Pure1 P ⟨dst, .binOp .geq tx x y tyy, ty, pos, after, gd⟩ ts G (vB (decide (q ≤ p))) := P_intop h h' fun w => by simp [binOp, Op.intCmp]
theorem P_bits {op : BinOp} (h : evA ts x = some (vI k p)) (h' : evA ts y = some (vI k q)) {r : Int} (hr : ∀ w, (Op.intBits op k p q).run P w = .ok (.int k r) w)
    (ho : op = .and ∨ op = .or ∨ op = .xor ∨ op = .andNot) : Pure1 P ⟨dst, .binOp op tx x y tyy, ty, pos, after, gd⟩ ts G (vI k r) := P_intop h h' fun w => by
  rcases ho with rfl | rfl | rfl | rfl <;> simp [binOp, hr]
theorem P_shl {k' : IntKind} (h : evA ts x = some (vI k p)) (h' : evA ts y = some (vI k' q)) (hq : 0 ≤ q) : Pure1 P ⟨dst, .binOp .shl tx x y tyy, ty, pos, after, gd⟩ ts G (vI k (k.wrap (p * 2 ^ (min q.toNat k.bits)))) :=
  P_bin h h' fun w => by rw [Sem.run_bind, run_guard_int]; simp only [binOp, Op.shift, Result.andThen_ok]; rw [if_neg (by omega)]; rfl
theorem P_shr {k' : IntKind} (h : evA ts x = some (vI k p)) (h' : evA ts y = some (vI k' q)) (hq : 0 ≤ q) : Pure1 P ⟨dst, .binOp .shr tx x y tyy, ty, pos, after, gd⟩ ts G (vI k (p.fdiv (2 ^ (min q.toNat k.bits)))) :=
  P_bin h h' fun w => by rw [Sem.run_bind, run_guard_int]; simp only [binOp, Op.shift, Result.andThen_ok]; rw [if_neg (by omega)]; rfl
end ints

theorem P_seql {x y : Operand} {tx tyy : TypeId} {p q : ByteArray} (h : evA ts x = some (vS p)) (h' : evA ts y = some (vS q)) : Pure1 P ⟨dst, .binOp .eql tx x y tyy, ty, pos, after, gd⟩ ts G (vB (p.toList == q.toList)) :=
  P_bin h h' fun w => by rw [Sem.run_bind, run_guard_str]; simp [binOp, Op.stringOp]
theorem P_sneq {x y : Operand} {tx tyy : TypeId} {p q : ByteArray} (h : evA ts x = some (vS p)) (h' : evA ts y = some (vS q)) : Pure1 P ⟨dst, .binOp .neq tx x y tyy, ty, pos, after, gd⟩ ts G (vB (!(p.toList == q.toList))) :=
  P_bin h h' fun w => by rw [Sem.run_bind, run_guard_str]; simp [binOp, Op.stringOp]
theorem P_sadd {x y : Operand} {tx tyy : TypeId} {p q : ByteArray} (h : evA ts x = some (vS p)) (h' : evA ts y = some (vS q)) (hs : p.size + q.size ≤ 9223372036854775807) : Pure1 P ⟨dst, .binOp .add tx x y tyy, ty, pos, after, gd⟩ ts G (vS (p ++ q)) :=
  P_bin h h' fun w => by
    rw [Sem.run_bind, run_guard_str]
    simp only [binOp, Op.stringOp, Result.andThen_ok]
    rw [if_neg (by simp [IntKind.max, IntKind.signed, IntKind.bits]; omega)]
    rfl

theorem P_conv {x : Operand} {src dt : TypeId} {v r : Value} (h : evA ts x = some (.tr (.val v))) (hr : ∀ w, (convert src dt v).run P w = .ok r w) : Pure1 P ⟨dst, .convert src dt x, ty, pos, after, gd⟩ ts G (.tr (.val r)) :=
  fun S => ⟨r, by simp [execOp, S.evV h, hr], by simp [RA, RT]⟩
theorem P_convI {x : Operand} {src dt : TypeId} {k k' : IntKind} {d : TypeDesc} {p : Int} {s1 s2 : Nat} (hs : TyIs P src d s1) (hd : TyIs P dt (.int k') s2) (h : evA ts x = some (vI k p)) : Pure1 P ⟨dst, .convert src dt x, ty, pos, after, gd⟩ ts G (vI k' (k'.wrap p)) :=
  P_conv h fun w => by simp [convert, hs.run_und, hd.run_und, Conv.intToInt]

/-- A pointer that is no nil. -/
theorem P_nilCheck {x : Operand} {l off : Nat} (h : evA ts x = some (.ptr l off)) : Pure1 P ⟨dst, .nilCheck x, ty, pos, after, gd⟩ ts G (.ptr l off) :=
  fun S => by
    have hr := S.ev h
    have hr' := hr
    simp only [RA] at hr
    obtain ⟨b, hb, e⟩ := hr
    refine ⟨_, ?_, hr'⟩
    simp [execOp, e]
theorem P_nilCheckR {x : Operand} {cs : List Tr} (h : evA ts x = some (.rp cs)) : Pure1 P ⟨dst, .nilCheck x, ty, pos, after, gd⟩ ts G (.rp cs) :=
  fun S => by
    have hr := S.ev h
    have hr' := hr
    simp only [RA] at hr
    obtain ⟨b, us, e, _⟩ := hr
    refine ⟨_, ?_, hr'⟩
    simp [execOp, e]

theorem P_fieldAddr {s : TypeId} {x : Operand} {i l off : Nat} {fs : Array Field} {sz : Nat} {f : Field} {fd : TypeDesc} {fz : Nat} (hs : TyIs P s (.struct fs) sz) (hf : fs[i]? = some f) (hz : TyIs P f.type fd (fz + 1)) (h : evA ts x = some (.ptr l off)) :
    Pure1 P ⟨dst, .fieldAddr s x i, ty, pos, after, gd⟩ ts G (.ptr l (off + f.offset)) :=
  fun S => by
    have hr := S.ev h
    simp only [RA] at hr
    obtain ⟨b, hb, e⟩ := hr
    refine ⟨.pointer (some ⟨b, off + f.offset, none⟩), ?_, ?_⟩
    · simp [execOp, e, Instr.fieldAt, hs.run_und, hf, Instr.sureAddr, fieldPlace, hz.run_size, add_at]
    · simp only [RA]; exact ⟨b, hb, rfl⟩
theorem P_fieldAddrR {s : TypeId} {x : Operand} {i : Nat} {fs : Array Field} {sz : Nat} {f : Field} {fd : TypeDesc} {fz : Nat} {cs : List Tr} (hs : TyIs P s (.struct fs) sz) (hf : fs[i]? = some f) (hz : TyIs P f.type fd (fz + 1)) (h : evA ts x = some (.rp cs)) :
    Pure1 P ⟨dst, .fieldAddr s x i, ty, pos, after, gd⟩ ts G (.rp (cs.drop f.offset)) :=
  fun S => by
    have hr := S.ev h
    simp only [RA] at hr
    obtain ⟨ad, us, e, hm, hl, hr, hc⟩ := hr
    have hblk : (ad.add f.offset).block = ad.block := by unfold Addr.add; split <;> rfl
    refine ⟨.pointer (some (ad.add f.offset)), ?_, ?_⟩
    · simp [execOp, e, Instr.fieldAt, hs.run_und, hf, Instr.sureAddr, fieldPlace, hz.run_size]
    · simp only [RA]
      refine ⟨_, us.drop f.offset, rfl, by rw [hblk]; exact hm, by rw [hblk]; exact hl, hr.drop _, fun j u hu => ?_⟩
      have ha : (ad.add f.offset).add j = ad.add (f.offset + j) := by
        unfold Addr.add
        by_cases h1 : f.offset = 0 <;> by_cases h2 : j = 0 <;> simp [h1, h2, Nat.add_assoc]
      rw [ha]
      exact hc _ _ (by simpa [List.getElem?_drop] using hu)

theorem S_row (S : Sat E n ds ι G ts a w) {l : Nat} {e : TypeId} {cs : List AV} {b : Nat} (hl : look G l = some (.row e cs)) (hb : ι l = some b) :
    ∃ (arr : Array Value) (us : List Value), w.heap[b]? = some (.cells arr e (0, 0)) ∧ RAs (Mut E.X ι G) ι w cs us ∧ ∀ (j : Nat) (u : Value), us[j]? = some u → arr[j]? = some u := by
  rcases S.hp.obj l _ hl with ⟨h, _⟩ | ⟨b', arr, us, h1, h2, h3, h4⟩
  · rw [hb] at h; cases h
  · rw [hb] at h1; injection h1 with h1; subst h1; exact ⟨arr, us, h2, h3, h4⟩

/-- One cell is loaded. -/
theorem P_load {ty' : TypeId} {x : Operand} {l off : Nat} {e : TypeId} {cs : List AV} {v : AV} {d : TypeDesc} {sz : Nat} (ht : TyIs P ty' d sz) (hd : aggD d = false) (h : evA ts x = some (.ptr l off)) (hl : look G l = some (.row e cs)) (hv : cs[off]? = some v) :
    Pure1 P ⟨dst, .load ty' x, ty, pos, after, gd⟩ ts G v :=
  fun S => by
    have hr := S.ev h
    simp only [RA] at hr
    obtain ⟨b, hb, ee⟩ := hr
    obtain ⟨arr, us, h1, h2, h3⟩ := S_row S hl hb
    obtain ⟨u, hu, hru⟩ := h2.get off v hv
    refine ⟨u, ?_, hru⟩
    have hc : ∀ w : World, w.heap[b]? = some (.cells arr e (0, 0)) → w.cell? ⟨b, off, none⟩ = some u := fun w hw => by rw [cell_of_heap hw]; exact h3 off u hu
    simp [execOp, ee, Instr.loadAt, Instr.sureAddr, loadVar, ht.run_agg, hd, hc _ h1]
theorem P_loadR {ty' : TypeId} {x : Operand} {cs : List Tr} {v : Tr} {d : TypeDesc} {sz : Nat} (ht : TyIs P ty' d sz) (hd : aggD d = false) (h : evA ts x = some (.rp cs)) (hv : cs[0]? = some v) :
    Pure1 P ⟨dst, .load ty' x, ty, pos, after, gd⟩ ts G (.tr v) :=
  fun S => by
    have hr := S.ev h
    simp only [RA] at hr
    obtain ⟨ad, us, ee, hm, hlt, hr, hc⟩ := hr
    obtain ⟨u, hu, hru⟩ := hr.get 0 v hv
    refine ⟨u, ?_, by simpa only [RA] using hru⟩
    have := hc 0 u hu
    have ha : ad.add 0 = ad := rfl
    rw [ha] at this
    simp [execOp, ee, Instr.loadAt, Instr.sureAddr, loadVar, ht.run_agg, hd, this]

/-- A struct is loaded. -/
theorem P_loadA {ty' : TypeId} {x : Operand} {l off : Nat} {e : TypeId} {cs : List AV} {d : TypeDesc} {sz : Nat} (ht : TyIs P ty' d sz) (hd : aggD d = true) (h : evA ts x = some (.ptr l off)) (hl : look G l = some (.row e cs)) (hsz : off + sz ≤ cs.length) :
    Pure1 P ⟨dst, .load ty' x, ty, pos, after, gd⟩ ts G (mkA ((cs.drop off).take sz)) :=
  fun S => by
    have hr := S.ev h
    simp only [RA] at hr
    obtain ⟨b, hb, ee⟩ := hr
    obtain ⟨arr, us, h1, h2, h3⟩ := S_row S hl hb
    have hlen := h2.length
    have hk : ((us.drop off).take sz).length = sz := by simp; omega
    refine ⟨.agg ((us.drop off).take sz).toArray, ?_, RA_mkA ((h2.drop off).take sz)⟩
    have := run_loadCells_list (P := P) _ ⟨b, off, none⟩ ((us.drop off).take sz) (fun j v hv => by
      rw [add_at, cell_of_heap h1]
      refine h3 _ _ ?_
      rw [List.getElem?_take] at hv
      split at hv
      · simpa [List.getElem?_drop] using hv
      · cases hv)
    rw [hk] at this
    simp [execOp, ee, Instr.loadAt, Instr.sureAddr, loadVar, ht.run_agg, ht.run_size, hd, this]
theorem P_loadAR {ty' : TypeId} {x : Operand} {cs : List Tr} {d : TypeDesc} {sz : Nat} (ht : TyIs P ty' d sz) (hd : aggD d = true) (h : evA ts x = some (.rp cs)) (hsz : sz ≤ cs.length) :
    Pure1 P ⟨dst, .load ty' x, ty, pos, after, gd⟩ ts G (.tr (.agg (cs.take sz))) :=
  fun S => by
    have hr := S.ev h
    simp only [RA] at hr
    obtain ⟨ad, us, ee, hm, hlt, hr, hc⟩ := hr
    have hlen := hr.length
    have hk : (us.take sz).length = sz := by simp; omega
    refine ⟨.agg (us.take sz).toArray, ?_, by simp only [RA, RT]; exact ⟨_, rfl, hr.take sz⟩⟩
    have := run_loadCells_list (P := P) _ ad (us.take sz) (fun j v hv => by
      refine hc _ _ ?_
      rw [List.getElem?_take] at hv
      split at hv
      · exact hv
      · cases hv)
    rw [hk] at this
    simp [execOp, ee, Instr.loadAt, Instr.sureAddr, loadVar, ht.run_agg, ht.run_size, hd, this]

theorem P_extract {x : Operand} {i : Nat} {xs : List AV} {v : AV} (h : evA ts x = some (.tup xs)) (hv : xs[i]? = some v) : Pure1 P ⟨dst, .extract x i, ty, pos, after, gd⟩ ts G v :=
  fun S => by
    have hr := S.ev h
    simp only [RA] at hr
    obtain ⟨us, ee, hr⟩ := hr
    obtain ⟨u, hu, hru⟩ := hr.get i v hv
    exact ⟨u, by simp [execOp, ee, Instr.extract, hu], hru⟩

theorem P_makeFunc {f : FuncId} {first cap : Array Operand} {fs cs : List AV} (h1 : evs ts first.toList = some fs) (h2 : evs ts cap.toList = some cs) : Pure1 P ⟨dst, .makeFunc (.func f) first cap, ty, pos, after, gd⟩ ts G (.fn f fs cs) :=
  fun S => ⟨_, rfl, by
    simp only [RA]
    exact ⟨_, _, by rw [← Array.toArray_toList (xs := first.map _), ← Array.toArray_toList (xs := cap.map _)], by simpa using S.evl h1, by simpa using S.evl h2⟩⟩

theorem P_lenSl {x : Operand} {st e : TypeId} {s1 sz : Nat} {xs : List Tr} (ht : TyIs P st (.slice e) s1) (h : evA ts x = some (.tr (.sl sz xs))) :
    Pure1 P ⟨dst, .call { callee := .builtin .len, args := #[x], argTypes := #[st] }, ty, pos, after, gd⟩ ts G (vI .i64 xs.length) :=
  fun S => by
    have hr := S.ev h
    simp only [RA, RT] at hr
    obtain ⟨A, cap, us, ee, _⟩ := hr
    exact ⟨.int .i64 xs.length, by simp [execOp, resolve, invoke, builtin, ee, Builtin.len_, ht.run_und, goInt], by simp [RA, RT]⟩
theorem P_lenOwn {x : Operand} {st e : TypeId} {s1 sz l off m : Nat} (ht : TyIs P st (.slice e) s1) (h : evA ts x = some (.own sz l off m)) :
    Pure1 P ⟨dst, .call { callee := .builtin .len, args := #[x], argTypes := #[st] }, ty, pos, after, gd⟩ ts G (vI .i64 m) :=
  fun S => by
    have hr := S.ev h
    simp only [RA] at hr
    obtain ⟨A, cap, ee, _⟩ := hr
    exact ⟨.int .i64 m, by simp [execOp, resolve, invoke, builtin, ee, Builtin.len_, ht.run_und, goInt], by simp [RA, RT]⟩
theorem P_lenStr {x : Operand} {st : TypeId} {s1 : Nat} {s : ByteArray} (ht : TyIs P st .string s1) (h : evA ts x = some (vS s)) :
    Pure1 P ⟨dst, .call { callee := .builtin .len, args := #[x], argTypes := #[st] }, ty, pos, after, gd⟩ ts G (vI .i64 s.size) :=
  fun S => by
    exact ⟨.int .i64 s.size, by simp [execOp, resolve, invoke, builtin, S.evV h, Builtin.len_, ht.run_und, goInt], by simp [RA, RT]⟩
theorem P_lenNil {x : Operand} {st e : TypeId} {s1 : Nat} (ht : TyIs P st (.slice e) s1) {m c : Nat} {A : Option Addr} (h : evA ts x = some (.tr (.val (.slice A m c)))) :
    Pure1 P ⟨dst, .call { callee := .builtin .len, args := #[x], argTypes := #[st] }, ty, pos, after, gd⟩ ts G (vI .i64 m) :=
  fun S => by
    exact ⟨.int .i64 m, by simp [execOp, resolve, invoke, builtin, S.evV h, Builtin.len_, ht.run_und, goInt], by simp [RA, RT]⟩
theorem P_min {x y : Operand} {ats : Array TypeId} {k : IntKind} {p q : Int} (h : evA ts x = some (vI k p)) (h' : evA ts y = some (vI k q)) :
    Pure1 P ⟨dst, .call { callee := .builtin .min, args := #[x, y], argTypes := ats }, ty, pos, after, gd⟩ ts G (vI k (if q < p then q else p)) :=
  fun S => ⟨.int k (if q < p then q else p), by simp [execOp, resolve, invoke, builtin, S.evV h, S.evV h', Builtin.min_, Builtin.min2], by simp [RA, RT]⟩
theorem P_max {x y : Operand} {ats : Array TypeId} {k : IntKind} {p q : Int} (h : evA ts x = some (vI k p)) (h' : evA ts y = some (vI k q)) :
    Pure1 P ⟨dst, .call { callee := .builtin .max, args := #[x, y], argTypes := ats }, ty, pos, after, gd⟩ ts G (vI k (if p < q then q else p)) :=
  fun S => ⟨.int k (if p < q then q else p), by simp [execOp, resolve, invoke, builtin, S.evV h, S.evV h', Builtin.max_, Builtin.max2], by simp [RA, RT]⟩

/-- Element i of a slice that is read. -/
theorem RTe.at {M : BSet} {w : World} {sz : Nat} : ∀ {xs : List Tr} {us : List Value} (i : Nat) (x : Tr), RTe M w sz xs us → xs[i]? = some x →
    ∃ v, RT M w x v ∧ v.cells.size = sz ∧ v.cells.toList = (us.drop (i * sz)).take sz
  | [], us, i, x, h, hx => by simp at hx
  | y :: ys, us, 0, x, h, hx => by
    simp only [RTe] at h
    obtain ⟨v, us', rfl, h1, h2, h3⟩ := h
    simp at hx; subst hx
    refine ⟨v, h2, h1, ?_⟩
    rw [Nat.zero_mul, List.drop_zero, List.take_append_of_le_length (by simp [h1]), List.take_of_length_le (by simp [h1])]
  | y :: ys, us, i + 1, x, h, hx => by
    simp only [RTe] at h
    obtain ⟨v, us', rfl, h1, h2, h3⟩ := h
    obtain ⟨v', hv1, hv2, hv3⟩ := RTe.at i x h3 (by simpa using hx)
    refine ⟨v', hv1, hv2, ?_⟩
    rw [hv3, Nat.succ_mul, Nat.add_comm, ← List.drop_drop]
    congr 2
    rw [List.drop_append_of_le_length (by simp [h1]), List.drop_of_length_le (by simp [h1])]
    rfl

def Tr.cells : Tr → List Tr
  | .agg cs => cs
  | t => [t]
def okTr (t : Tr) : Bool := cellsOk (.tr t)

theorem RT_cells {M : BSet} {w : World} {x : Tr} {u : Value} (h : okTr x = true) (r : RT M w x u) : RTs M w x.cells u.cells.toList := by
  cases x with
  | val v =>
    have := (isOne_cells (ι := fun _ => none) (x := .tr (.val v)) (by simpa [okTr, cellsOk] using h) (by simpa only [RA] using r)).1
    rw [this]; simp only [Tr.cells, RTs]; exact ⟨u, [], rfl, r, rfl⟩
  | sl sz xs =>
    have := (isOne_cells (ι := fun _ => none) (M := M) (w := w) (x := .tr (.sl sz xs)) rfl (by simpa only [RA] using r)).1
    rw [this]; simp only [Tr.cells, RTs]; exact ⟨u, [], rfl, r, rfl⟩
  | agg ts => simp only [RT] at r; obtain ⟨us, rfl, r⟩ := r; simpa [Value.cells, Tr.cells] using r

theorem P_indexSl {x i : Operand} {st e : TypeId} {s1 sz : Nat} {de : TypeDesc} {xs : List Tr} {k : IntKind} {j : Nat} {v : Tr} (ht : TyIs P st (.slice e) s1) (he : TyIs P e de sz) (h : evA ts x = some (.tr (.sl sz xs)))
    (hi : evA ts i = some (vI k (j : Int))) (hv : xs[j]? = some v) (hok : okTr v = true) : Pure1 P ⟨dst, .indexAddr st x i, ty, pos, after, gd⟩ ts G (.rp v.cells) :=
  fun S => by
    have hr := S.ev h
    simp only [RA, RT] at hr
    obtain ⟨A, cap, us, ee, ⟨h1, h2, h3, _, h4⟩, hr⟩ := hr
    have hj : j < xs.length := (List.getElem?_eq_some_iff.1 hv).1
    obtain ⟨ad, rfl, hm, hlt, hc⟩ := h4 (by omega)
    obtain ⟨u, hu1, hu2, hu3⟩ := hr.at j v hv
    have hblk : (ad.add (j * sz)).block = ad.block := by unfold Addr.add; split <;> rfl
    refine ⟨.pointer (some (ad.add (j * sz))), ?_, ?_⟩
    · have hel : P.elem st = e := by simp [Program.elem, ht.und]
      have hu : P.underlying st = some (.slice (P.elem st)) := by rw [hel]; exact ht.und
      simp [execOp, ee, S.evV hi, run_indexAt_slice _ _ _ _ _ _ _ hu, hel, he.run_size, hj]
    · simp only [RA]
      refine ⟨_, u.cells.toList, rfl, by rw [hblk]; exact hm, by rw [hblk]; exact hlt, RT_cells hok hu1, fun q y hy => ?_⟩
      have ha : (ad.add (j * sz)).add q = ad.add (j * sz + q) := by
        unfold Addr.add
        by_cases h1 : j * sz = 0 <;> by_cases h2 : q = 0 <;> simp [h1, h2, Nat.add_assoc]
      rw [ha]
      refine hc _ _ ?_
      rw [hu3, List.getElem?_take] at hy
      split at hy
      · simpa [List.getElem?_drop] using hy
      · cases hy

theorem P_indexOwn {x i : Operand} {st e : TypeId} {s1 sz l off m : Nat} {de : TypeDesc} {k : IntKind} {j : Nat} (ht : TyIs P st (.slice e) s1) (he : TyIs P e de sz) (h : evA ts x = some (.own sz l off m))
    (hi : evA ts i = some (vI k (j : Int))) (hj : j < m) : Pure1 P ⟨dst, .indexAddr st x i, ty, pos, after, gd⟩ ts G (.ptr l (off + j * sz)) :=
  fun S => by
    have hr := S.ev h
    simp only [RA] at hr
    obtain ⟨A, cap, ee, h1, h1', h2⟩ := hr
    rcases h2 with ⟨_, h2⟩ | ⟨b, hb, rfl, hl, hc⟩
    · omega
    · refine ⟨.pointer (some ⟨b, off + j * sz, none⟩), ?_, by simp only [RA]; exact ⟨b, hb, rfl⟩⟩
      have hel : P.elem st = e := by simp [Program.elem, ht.und]
      have hu : P.underlying st = some (.slice (P.elem st)) := by rw [hel]; exact ht.und
      simp [execOp, ee, S.evV hi, run_indexAt_slice _ _ _ _ _ _ _ hu, hel, he.run_size, hj, add_at]

/-- A byte of a string. -/
theorem P_indexStr {x i : Operand} {st : TypeId} {s1 : Nat} {s : ByteArray} {k : IntKind} {j : Nat} (ht : TyIs P st .string s1) (h : evA ts x = some (vS s)) (hi : evA ts i = some (vI k (j : Int))) (hj : j < s.size) :
    Pure1 P ⟨dst, .index st x i, ty, pos, after, gd⟩ ts G (vI .u8 ((s[j]'hj).toNat : Int)) :=
  fun S => by
    refine ⟨.int .u8 ((s[j]'hj).toNat : Int), ?_, by simp [RA, RT]⟩
    simp [execOp, S.evV h, S.evV hi, Instr.index, asIntOf, ht.run_und, hj]
end
end Go.Ab

namespace Go.Ab
open Go

def dropL (l : Nat) : GS → GS
  | [] => []
  | p :: r => bif Nat.beq p.1 l then dropL l r else p :: dropL l r
/-- Nothing is said any more of what names l. -/
def killT (l : Nat) : TS → TS
  | [] => []
  | p :: r => (p.1, bif noRef l p.2 then p.2 else .junk) :: killT l r
/-- Label l is named nowhere. -/
def freshT (l : Nat) (ts : TS) : Bool := ts.all fun p => noRef l p.2
def freshG (l : Nat) (G : GS) : Bool := G.all fun p => !(Nat.beq p.1 l) && noRefO l p.2
/-- Label l is named by no other object. -/
def aloneG (l : Nat) (G : GS) : Bool := G.all fun p => Nat.beq p.1 l || noRefO l p.2

theorem beqN_false {a b : Nat} (h : a ≠ b) : Nat.beq a b = false := by
  cases hb : Nat.beq a b with
  | false => rfl
  | true => exact absurd (Nat.eq_of_beq_eq_true hb) h
theorem beqN_self (a : Nat) : Nat.beq a a = true := by simp

theorem look_dropL_ne {l k : Nat} (h : k ≠ l) : ∀ {G : GS}, look (dropL l G) k = look G k
  | [] => rfl
  | p :: r => by
    by_cases e : p.1 = l
    · rw [dropL, e, beqN_self]
      simp only [cond_true]
      rw [look_dropL_ne h, look, show Nat.beq p.1 k = false from beqN_false (by rw [e]; exact fun x => h x.symm)]
      rfl
    · rw [dropL, beqN_false e]
      simp only [cond_false, look]
      rw [look_dropL_ne h]
theorem look_dropL_same {l : Nat} : ∀ {G : GS}, look (dropL l G) l = none
  | [] => rfl
  | p :: r => by
    by_cases e : p.1 = l
    · rw [dropL, e, beqN_self]; simp only [cond_true]; exact look_dropL_same
    · rw [dropL, beqN_false e]; simp only [cond_false, look, beqN_false e]; exact look_dropL_same
theorem look_killT {l : Nat} : ∀ {ts : TS} {t : Nat} {x : AV}, look (killT l ts) t = some x → ∃ y, look ts t = some y ∧ (x = .junk ∨ (x = y ∧ noRef l y = true))
  | [], t, x, h => by simp [killT, look] at h
  | p :: r, t, x, h => by
    rcases look_cons (t := p.1) (x := bif noRef l p.2 then p.2 else .junk) (r := killT l r) h with ⟨h1, h2⟩ | ⟨h1, h2⟩
    · subst h1
      refine ⟨p.2, look_cons_same _ _ _, ?_⟩
      cases hn : noRef l p.2 with
      | true => rw [hn] at h2; exact .inr ⟨h2.symm, rfl⟩
      | false => rw [hn] at h2; exact .inl h2.symm
    · obtain ⟨y, hy, hx⟩ := look_killT h2
      exact ⟨y, (look_cons_ne _ _ h1).trans hy, hx⟩
theorem killT_noRef {l : Nat} : ∀ {ts : TS} {p : Nat × AV}, p ∈ killT l ts → noRef l p.2 = true
  | [], p, h => by simp [killT] at h
  | q :: r, p, h => by
    rcases List.mem_cons.1 h with rfl | h
    · cases hn : noRef l q.2 with
      | true => simpa using hn
      | false => simp [noRef, allRef]
    · exact killT_noRef h

section
variable {P : Program} {n : Nat} {ds : Fx} {E : Env} {ι : LMap} {G : GS} {ts : TS} {a : Act} {w w' : World}

theorem cellsIn_of {w w' : World} {b : Nat} (h : w'.heap[b]? = w.heap[b]?) : cellsIn w' b = cellsIn w b := by unfold cellsIn; rw [h]

/-- What neither turns an old block nor takes a label. -/
theorem Sat.grow (S : Sat E n ds ι G ts a w) (hos : w'.os = w.os) (ht : w'.tape = w.tape) (ho : w'.output = w.output) (hs : w.heap.size ≤ w'.heap.size)
    (hb : ∀ b, b < w.heap.size → w'.heap[b]? = w.heap[b]?) : Sat E n ds ι G ts a w' := by
  have k : Keep (Mut E.X ι G) (Mut E.X ι G) w w' := ⟨hs, fun b hl _ => hb b hl, fun _ _ h => h, fun b hl => cellsIn_of (hb b hl)⟩
  exact {
    dfs := S.dfs
    sz := S.sz
    tm := fun t x hx => let ⟨u, hu, hr⟩ := S.tm t x hx; ⟨u, hu, hr.keep0 k⟩
    hp := {
      obj := fun l o hl => RO.keep0 k (fun i hi => hb i (S.hp.lt l i ⟨o, hl⟩ hi).1) (S.hp.obj l o hl)
      inj := S.hp.inj
      lt := fun l b hl hi => ⟨Nat.lt_of_lt_of_le (S.hp.lt l b hl hi).1 hs, (S.hp.lt l b hl hi).2⟩
      xlt := fun b hx => Nat.lt_of_lt_of_le (S.hp.xlt b hx) hs }
    fr := {
      os := hos.trans S.fr.os
      tape := ht.trans S.fr.tape
      output := ho.trans S.fr.output
      size := Nat.le_trans S.fr.size hs
      same := fun b hl hw => (hb b (Nat.lt_of_lt_of_le hl S.fr.size)).trans (S.fr.same b hl hw)
      shp := fun b hl => (cellsIn_of (hb b (Nat.lt_of_lt_of_le hl S.fr.size))).trans (S.fr.shp b hl) }
    wr := S.wr
    fx := S.fx }

theorem Sat.keepGrow (S : Sat E n ds ι G ts a w) (hs : w.heap.size ≤ w'.heap.size) (hb : ∀ b, b < w.heap.size → w'.heap[b]? = w.heap[b]?) : Keep (Mut E.X ι G) (Mut E.X ι G) w w' :=
  ⟨hs, fun b hl _ => hb b hl, fun _ _ h => h, fun b hl => cellsIn_of (hb b hl)⟩

/-- The object of one label turns; its block stays, or is new. -/
theorem Sat.turn (S : Sat E n ds ι G ts a w) (l b1 : Nat) (o : AObj) (hos : w'.os = w.os) (ht : w'.tape = w.tape) (ho : w'.output = w.output) (hs : w.heap.size ≤ w'.heap.size)
    (hsame : ∀ b, b < w.heap.size → (InDom G l → ι l ≠ some b) → w'.heap[b]? = w.heap[b]?) (hshp : ∀ b, b < w.heap.size → cellsIn w' b = cellsIn w b)
    (hb1 : b1 < w'.heap.size) (hnew : (InDom G l ∧ ι l = some b1) ∨ w.heap.size ≤ b1)
    (hfx : l ∈ ds.fx → ι l = some b1) (hT : ∀ p ∈ ts, ι l = some b1 ∨ noRef l p.2 = true) (hG : ∀ k q, k ≠ l → look G k = some q → ι l = some b1 ∨ noRefO l q = true)
    (hro : Keep (Mut E.X ι G) (Mut E.X (fun k => if k = l then some b1 else ι k) ((l, o) :: dropL l G)) w w' → RO (Mut E.X (fun k => if k = l then some b1 else ι k) ((l, o) :: dropL l G)) (fun k => if k = l then some b1 else ι k) w' o (some b1)) :
    Sat E n ds (fun k => if k = l then some b1 else ι k) ((l, o) :: dropL l G) ts a w' := by
  have dom : ∀ k, k ≠ l → (InDom ((l, o) :: dropL l G) k ↔ InDom G k) := by
    intro k hk
    unfold InDom
    rw [show look ((l, o) :: dropL l G) k = look G k from (look_cons_ne _ _ (fun e => hk e.symm)).trans (look_dropL_ne hk)]
  have k : Keep (Mut E.X ι G) (Mut E.X (fun k => if k = l then some b1 else ι k) ((l, o) :: dropL l G)) w w' := by
    refine ⟨hs, fun b hl hm => hsame b hl (fun hd e => hm (.inr ⟨l, hd, e⟩)), fun b hl hm => ?_, hshp⟩
    rcases hm with hm | ⟨q, hq, e⟩
    · exact .inl hm
    · by_cases hql : q = l
      · subst hql
        simp only [if_true] at e
        injection e with e
        subst e
        rcases hnew with ⟨hd, hi⟩ | hnew
        · exact .inr ⟨q, hd, hi⟩
        · omega
      · simp only [if_neg hql] at e
        exact .inr ⟨q, (dom q hql).1 hq, e⟩
  -- values that are kept
  have keepV : ∀ x : AV, (ι l = some b1 ∨ noRef l x = true) → ∀ u, RA (Mut E.X ι G) ι w x u → RA (Mut E.X (fun k => if k = l then some b1 else ι k) ((l, o) :: dropL l G)) (fun k => if k = l then some b1 else ι k) w' x u := by
    intro x hx u hr
    rcases hx with hx | hx
    · have e : (fun k => if k = l then some b1 else ι k) = ι := by
        funext q
        by_cases hq : q = l
        · subst hq; simp [hx]
        · simp [hq]
      rw [e] at k ⊢
      exact hr.keep0 k
    · exact RA.keep k _ (fun q hq => if_neg (beq_ne hq)) x u hx hr
  have keepO : ∀ (q : AObj) (j : Option Nat), (ι l = some b1 ∨ noRefO l q = true) → (∀ i, j = some i → w'.heap[i]? = w.heap[i]?) → RO (Mut E.X ι G) ι w q j → RO (Mut E.X (fun k => if k = l then some b1 else ι k) ((l, o) :: dropL l G)) (fun k => if k = l then some b1 else ι k) w' q j := by
    intro q j hx hj hr
    rcases hx with hx | hx
    · have e : (fun k => if k = l then some b1 else ι k) = ι := by
        funext q
        by_cases hq : q = l
        · subst hq; simp [hx]
        · simp [hq]
      rw [e] at k ⊢
      exact RO.keep0 k hj hr
    · exact RO.keep k _ (fun q hq => if_neg (beq_ne hq)) q j hj hx hr
  refine {
    dfs := S.dfs
    sz := S.sz
    tm := fun t x hx => ?_
    hp := { obj := ?_, inj := ?_, lt := ?_, xlt := fun b hx => Nat.lt_of_lt_of_le (S.hp.xlt b hx) hs }
    fr := ?_
    wr := ?_
    fx := ?_ }
  · obtain ⟨u, hu, hr⟩ := S.tm t x hx
    exact ⟨u, hu, keepV x (hT (t, x) (mem_of_look hx)) u hr⟩
  · intro q oq hq
    rcases look_cons hq with ⟨rfl, rfl⟩ | ⟨hne, hq⟩
    · simp only [if_true]; exact hro k
    · have hql : q ≠ l := fun e => hne e.symm
      rw [look_dropL_ne hql] at hq
      simp only [if_neg hql]
      refine keepO oq (ι q) (hG q oq hql hq) (fun i hi => ?_) (S.hp.obj q oq hq)
      exact hsame i (S.hp.lt q i ⟨oq, hq⟩ hi).1 (fun hd e => hql (S.hp.inj q l i ⟨oq, hq⟩ hd hi e))
  · intro q q' b hq hq' e e'
    by_cases h1 : q = l <;> by_cases h2 : q' = l
    · rw [h1, h2]
    · exfalso
      subst h1
      simp only [if_true] at e
      simp only [if_neg h2] at e'
      injection e with e
      subst e
      have hd := (dom q' h2).1 hq'
      rcases hnew with ⟨hdl, hi⟩ | hnew
      · exact h2 (S.hp.inj q' q b1 hd hdl e' hi)
      · have := (S.hp.lt q' b1 hd e').1; omega
    · exfalso
      subst h2
      simp only [if_true] at e'
      simp only [if_neg h1] at e
      injection e' with e'
      subst e'
      have hd := (dom q h1).1 hq
      rcases hnew with ⟨hdl, hi⟩ | hnew
      · exact h1 (S.hp.inj q q' b1 hd hdl e hi)
      · have := (S.hp.lt q b1 hd e).1; omega
    · simp only [if_neg h1] at e
      simp only [if_neg h2] at e'
      exact S.hp.inj q q' b ((dom q h1).1 hq) ((dom q' h2).1 hq') e e'
  · intro q b hq e
    by_cases h1 : q = l
    · subst h1
      simp only [if_true] at e
      injection e with e
      subst e
      refine ⟨hb1, ?_⟩
      rcases hnew with ⟨hdl, hi⟩ | hnew
      · exact (S.hp.lt q b1 hdl hi).2
      · intro hx; have := S.hp.xlt b1 hx; omega
    · simp only [if_neg h1] at e
      have := S.hp.lt q b ((dom q h1).1 hq) e
      exact ⟨Nat.lt_of_lt_of_le this.1 hs, this.2⟩
  · refine { os := hos.trans S.fr.os, tape := ht.trans S.fr.tape, output := ho.trans S.fr.output, size := Nat.le_trans S.fr.size hs, same := fun b hl hw => ?_, shp := fun b hl => (hshp b (Nat.lt_of_lt_of_le hl S.fr.size)).trans (S.fr.shp b hl) }
    refine (hsame b (Nat.lt_of_lt_of_le hl S.fr.size) (fun hd e => ?_)).trans (S.fr.same b hl hw)
    rcases S.wr l b hd e with h | h
    · exact hw h
    · omega
  · intro q b hq e
    by_cases h1 : q = l
    · subst h1
      simp only [if_true] at e
      injection e with e
      subst e
      rcases hnew with ⟨hdl, hi⟩ | hnew
      · exact S.wr q b1 hdl hi
      · exact .inr (Nat.le_trans S.fr.size hnew)
    · simp only [if_neg h1] at e
      exact S.wr q b ((dom q h1).1 hq) e
  · intro q hq
    by_cases h1 : q = l
    · subst h1; simp only [if_true]; rw [← hfx hq]; exact S.fx q hq
    · simp only [if_neg h1]; exact S.fx q hq

theorem Sat.kill (S : Sat E n ds ι G ts a w) (l : Nat) : Sat E n ds ι G (killT l ts) a w where
  dfs := S.dfs
  sz := S.sz
  tm := fun t x hx => by
    obtain ⟨y, hy, h⟩ := look_killT hx
    obtain ⟨u, hu, hr⟩ := S.tm t y hy
    rcases h with rfl | ⟨rfl, _⟩
    · exact ⟨u, hu, by simp [RA]⟩
    · exact ⟨u, hu, hr⟩
  hp := S.hp
  fr := S.fr
  wr := S.wr
  fx := S.fx

/-- An operation that yields a value and makes or turns memory. -/
def Eff1 (P : Program) (ds : Fx) (o : Oper) (ts : TS) (G : GS) (x : AV) (ts' : TS) (G' : GS) : Prop :=
  ∀ {E : Env} {n : Nat} {ι : LMap} {a : Act} {w : World}, Sat E n ds ι G ts a w →
    ∃ u w' ι', (execOp a.eval o).run P w = .ok (.value u) w' ∧ Sat E n ds ι' G' ts' a w' ∧ RA (Mut E.X ι' G') ι' w' x u
/-- One that yields nothing. -/
def Eff0 (P : Program) (ds : Fx) (o : Oper) (ts : TS) (G : GS) (ts' : TS) (G' : GS) : Prop :=
  ∀ {E : Env} {n : Nat} {ι : LMap} {a : Act} {w : World}, Sat E n ds ι G ts a w →
    ∃ w' ι', (execOp a.eval o).run P w = .ok .skip w' ∧ Sat E n ds ι' G' ts' a w'

theorem AL.eff {ops : Array Oper} {o : Oper} {rest : List Oper} {Q : Exit → TS → GS → Prop} {d : Tmp} {x : AV} {ts' : TS} {G' : GS} (hg : wantB ops ts o = some true) (hd : o.dst = some d) (hn : d < n)
    (hp : Eff1 P ds o ts G x ts' G') (h : AL P n ds ops rest Q ((d, x) :: ts') G') : AL P n ds ops (o :: rest) Q ts G := by
  intro E ι a w S
  refine wpList_step fun K hK => ?_
  rw [if_pos (S.want hg)]
  obtain ⟨u, w', ι', hr, S', hx⟩ := hp S
  unfold Oper.wp
  rw [hr, Oper.upon_value, hd]
  exact hK _ _ (h E ι' _ w' (S'.put hn hx))
theorem AL.eff0 {ops : Array Oper} {o : Oper} {rest : List Oper} {Q : Exit → TS → GS → Prop} {ts' : TS} {G' : GS} (hg : wantB ops ts o = some true) (hd : o.dst = none)
    (hp : Eff0 P ds o ts G ts' G') (h : AL P n ds ops rest Q ts' G') : AL P n ds ops (o :: rest) Q ts G := by
  intro E ι a w S
  refine wpList_step fun K hK => ?_
  rw [if_pos (S.want hg)]
  obtain ⟨w', ι', hr, S'⟩ := hp S
  unfold Oper.wp
  rw [hr, Oper.upon_skip, hd]
  exact hK _ _ (h E ι' _ w' (S'.putN _))

theorem size_alloc (w : World) (o : Obj) : (w.alloc o).heap.size = w.heap.size + 1 := by
  show (w.heap.push o).size = _
  simp
theorem heap_alloc_old (w : World) (o : Obj) (b : Nat) (h : b < w.heap.size) : (w.alloc o).heap[b]? = w.heap[b]? := by
  show (w.heap.push o)[b]? = _
  rw [Array.getElem?_push, if_neg (by omega)]
theorem heap_alloc_at (w : World) (o : Obj) : (w.alloc o).heap[w.heap.size]? = some o := by
  show (w.heap.push o)[w.heap.size]? = _
  simp

theorem freshG_spec {l : Nat} (h : freshG l G = true) : ¬ InDom G l ∧ ∀ k q, look G k = some q → noRefO l q = true := by
  have hm : ∀ p ∈ G, p.1 ≠ l ∧ noRefO l p.2 = true := by
    intro p hp
    have := List.all_eq_true.1 h p hp
    simp only [Bool.and_eq_true] at this
    exact ⟨beq_ne this.1, this.2⟩
  exact ⟨fun ⟨o, ho⟩ => (hm _ (mem_of_look ho)).1 rfl, fun k q hq => (hm _ (mem_of_look hq)).2⟩
theorem dropL_fresh {l : Nat} : ∀ {G : GS}, freshG l G = true → dropL l G = G
  | [], _ => rfl
  | p :: r, h => by
    simp only [freshG, List.all_cons, Bool.and_eq_true] at h
    have h1 : Nat.beq p.1 l = false := by have := h.1.1; simpa using this
    rw [dropL, h1]
    simp only [cond_false]
    rw [dropL_fresh (by simpa [freshG] using h.2)]

/-- A new block takes a new label. -/
theorem Sat.born (S : Sat E n ds ι G ts a w) (l : Nat) (o : AObj) (ob : Obj) (hF : ds.fx.contains l = false) (hT : freshT l ts = true) (hG : freshG l G = true)
    (hro : ∀ M' ι', Keep (Mut E.X ι G) M' w (w.alloc ob) → (∀ k, k ≠ l → ι' k = ι k) → RO M' ι' (w.alloc ob) o (some w.heap.size)) :
    Sat E n ds (fun k => if k = l then some w.heap.size else ι k) ((l, o) :: G) ts a (w.alloc ob) := by
  obtain ⟨hd, hG'⟩ := freshG_spec hG
  have := S.turn (w' := w.alloc ob) l w.heap.size o rfl rfl rfl (by rw [size_alloc]; omega) (fun b hb _ => heap_alloc_old w ob b hb) (fun b hb => cellsIn_of (heap_alloc_old w ob b hb))
    (by rw [size_alloc]; omega) (.inr (Nat.le_refl _)) (fun h => absurd h (by simpa using hF)) (fun p hp => .inr (List.all_eq_true.1 hT p hp)) (fun k q _ hq => .inr (hG' k q hq))
    (fun k => hro _ _ k (fun q hq => if_neg hq))
  rwa [dropL_fresh hG] at this

/-- Cells as they stand, of a new row. -/
theorem RO_new {M : BSet} {ι : LMap} {e : TypeId} {cs : List AV} {us : List Value} (h : RAs M ι (w.alloc (.cells us.toArray e)) cs us) : RO M ι (w.alloc (.cells us.toArray e)) (.row e cs) (some w.heap.size) :=
  .inr ⟨w.heap.size, us.toArray, us, rfl, heap_alloc_at _ _, h, fun j u hu => by simpa using hu⟩

structure TyZ (P : Program) (t : TypeId) (z : Value) : Prop where
  zero : (P.info? t).map (·.zero) = some (some z)
theorem TyZ.run {t : TypeId} {z : Value} (h : TyZ P t z) (w : World) : (zeroValue t).run P w = .ok z w := by
  have := h.zero
  cases hi : P.info? t with
  | none => rw [hi] at this; cases this
  | some i =>
    rw [hi] at this
    have hz : i.zero = some z := by simpa using this
    simp [zeroValue, typeInfo, hi, hz]

def valsA (us : List Value) : List AV := us.map fun v => .tr (.val v)
theorem RAs_vals {M : BSet} {ι : LMap} {w : World} : ∀ us : List Value, RAs M ι w (valsA us) us
  | [] => by simp [valsA, RAs]
  | u :: us => by simp only [valsA, List.map_cons, RAs, RA, RT]; exact ⟨u, us, rfl, rfl, RAs_vals us⟩

variable {ty : TypeId} {pos : String} {after : Array Edge} {gd : Option (Nat × Bool)} {dst : Option Tmp}

theorem E_alloc {t : TypeId} {z : Value} (l : Nat) (hz : TyZ P t z) (hF : ds.fx.contains l = false) (hT : freshT l ts = true) (hG : freshG l G = true) : Eff1 P ds ⟨dst, .alloc t, ty, pos, after, gd⟩ ts G (.ptr l 0) ts ((l, .row t (valsA z.cells.toList)) :: G) :=
  fun {E n ι a w} S => by
    refine ⟨.pointer (some ⟨w.heap.size, 0, none⟩), w.alloc (.cells z.cells t), _, ?_, S.born l _ _ hF hT hG (fun M' ι' k hι => ?_), ?_⟩
    · simp only [execOp, Instr.alloc, hz.run, newVar, newRow, Sem.run_bind, Result.andThen_ok, run_newObj, Sem.run_pure]; rfl
    · have := RO_new (w := w) (e := t) (us := z.cells.toList) (RAs_vals (M := M') (ι := ι') z.cells.toList)
      simpa using this
    · simp only [RA]; exact ⟨w.heap.size, by simp, rfl⟩

theorem E_box {t : TypeId} {x : Operand} {v : AV} (l : Nat) (hv : evA ts x = some v) (hok : cellsOk v = true) (hF : ds.fx.contains l = false) (hT : freshT l ts = true) (hG : freshG l G = true) (hN : noRef l v = true) : Eff1 P ds ⟨dst, .box t x, ty, pos, after, gd⟩ ts G (.ptr l 0) ts ((l, .row t (cellsA v)) :: G) :=
  fun {E n ι a w} S => by
    have hr := S.ev hv
    refine ⟨.pointer (some ⟨w.heap.size, 0, none⟩), w.alloc (.cells (a.eval x).cells t), _, ?_, S.born l _ _ hF hT hG (fun M' ι' k hι => ?_), ?_⟩
    · simp only [execOp, Instr.box, newVar, newRow, Sem.run_bind, Result.andThen_ok, run_newObj, Sem.run_pure]; rfl
    · have hr' : RA M' ι' (w.alloc (.cells (a.eval x).cells t)) v (a.eval x) := RA.keep k _ (fun q hq => hι q (beq_ne hq)) v _ hN hr
      have := RO_new (w := w) (e := t) (us := (a.eval x).cells.toList) (by simpa using (RA_cells hok hr').1)
      simpa using this
    · simp only [RA]; exact ⟨w.heap.size, by simp, rfl⟩

/-! ### A store -/
def setAll {α : Type} : List α → Nat → List α → List α
  | cs, _, [] => cs
  | cs, off, x :: xs => setAll (cs.set off x) (off + 1) xs
theorem RAs.setAll {M : BSet} {ι : LMap} {w : World} : ∀ {xs : List AV} {vs : List Value} {cs : List AV} {us : List Value} {off : Nat}, RAs M ι w cs us → RAs M ι w xs vs → RAs M ι w (setAll cs off xs) (setAll us off vs)
  | [], vs, cs, us, off, h, hx => by simp only [RAs] at hx; subst hx; exact h
  | x :: xs, vs, cs, us, off, h, hx => by
    simp only [RAs] at hx
    obtain ⟨v, vs', rfl, h1, h2⟩ := hx
    show RAs M ι w (Go.Ab.setAll (cs.set off x) (off + 1) xs) (Go.Ab.setAll (us.set off v) (off + 1) vs')
    exact RAs.setAll (RAs.set off x v h h1) h2
theorem setAll_length {α : Type} : ∀ (xs cs : List α) (off : Nat), (setAll cs off xs).length = cs.length
  | [], cs, off => rfl
  | x :: xs, cs, off => by rw [setAll, setAll_length]; simp
theorem setAll_prefix : ∀ (vs us : List Value) (off : Nat) (arr : Array Value), (∀ (j : Nat) (u : Value), us[j]? = some u → arr[j]? = some u) → off + vs.length ≤ us.length →
    (∀ (j : Nat) (u : Value), (setAll us off vs)[j]? = some u → (setAll arr.toList off vs).toArray[j]? = some u)
  | [], us, off, arr, h, _, j, u, hj => by simpa [setAll] using h j u hj
  | v :: vs, us, off, arr, h, hl, j, u, hj => by
    have hl' : off + 1 + vs.length ≤ us.length := by simp at hl; omega
    have := setAll_prefix vs (us.set off v) (off + 1) (arr.setIfInBounds off v) (fun q y hq => by
      rw [List.getElem?_set] at hq
      rw [Array.getElem?_setIfInBounds]
      by_cases e : off = q
      · subst e
        rw [if_pos rfl] at hq ⊢
        have hoff : off < us.length := by omega
        rw [if_pos hoff] at hq
        have : off < arr.size := by
          have := h off us[off] (List.getElem?_eq_getElem hoff)
          exact (Array.getElem?_eq_some_iff.1 this).1
        rw [if_pos this]; exact hq
      · rw [if_neg e] at hq ⊢; exact h q y hq) (by simp; omega) j u hj
    simpa [setAll] using this
theorem setCells_heap (b : Nat) : ∀ (vs : List Value) (o : Nat) (w : World) (arr : Array Value) (e : TypeId), w.heap[b]? = some (.cells arr e (0, 0)) → (w.setCells b o vs).heap[b]? = some (.cells (setAll arr.toList o vs).toArray e (0, 0))
  | [], o, w, arr, e, h => by simpa [World.setCells, setAll] using h
  | v :: vs, o, w, arr, e, h => by
    have h1 : (w.setCell ⟨b, o, none⟩ v).heap[b]? = some (.cells (arr.setIfInBounds o v) e (0, 0)) := by simp [World.setCell, Array.getElem?_modify, h]
    have := setCells_heap b vs (o + 1) _ _ e h1
    simpa [World.setCells, setAll] using this
theorem setCells_other (b : Nat) : ∀ (vs : List Value) (o : Nat) (w : World) (i : Nat), i ≠ b → (w.setCells b o vs).heap[i]? = w.heap[i]?
  | [], o, w, i, h => rfl
  | v :: vs, o, w, i, h => by
    rw [World.setCells, setCells_other b vs (o + 1) _ i h]
    simp [World.setCell, Array.getElem?_modify, Ne.symm h]
theorem setCells_same (b : Nat) : ∀ (vs : List Value) (o : Nat) (w : World), (w.setCells b o vs).os = w.os ∧ (w.setCells b o vs).tape = w.tape ∧ (w.setCells b o vs).output = w.output ∧ (w.setCells b o vs).heap.size = w.heap.size
  | [], o, w => ⟨rfl, rfl, rfl, rfl⟩
  | v :: vs, o, w => by
    obtain ⟨h1, h2, h3, h4⟩ := setCells_same b vs (o + 1) (w.setCell ⟨b, o, none⟩ v)
    exact ⟨h1, h2, h3, h4.trans (by simp [World.setCell])⟩

theorem E_store {t : TypeId} {x y : Operand} {l off : Nat} {e : TypeId} {cs : List AV} {v : AV} {d : TypeDesc} {sz : Nat} (ht : TyIs P t d sz) (hx : evA ts x = some (.ptr l off)) (hv : evA ts y = some v) (hok : cellsOk v = true)
    (hl : look G l = some (.row e cs)) (hsz : (cellsA v).length = sz) (hin : off + sz ≤ cs.length) : Eff0 P ds ⟨dst, .store t x y, ty, pos, after, gd⟩ ts G ts ((l, .row e (setAll cs off (cellsA v))) :: dropL l G) :=
  fun {E n ι a w} S => by
    have hr := S.ev hx
    simp only [RA] at hr
    obtain ⟨b, hb, ee⟩ := hr
    obtain ⟨arr, us, h1, h2, h3⟩ := S_row S hl hb
    have hv' := S.ev hv
    obtain ⟨hc1, hc2⟩ := RA_cells hok hv'
    have hlen : (a.eval y).cells.toList.length = sz := by rw [hc1.length, hsz]
    have hus := h2.length
    have hblt : b < w.heap.size := (Array.getElem?_eq_some_iff.1 h1).1
    have hcell : ∀ j, j < (a.eval y).cells.toList.length → ∃ u, arr[off + j]? = some u := by
      intro j hj
      have : off + j < us.length := by omega
      exact ⟨_, h3 _ _ (List.getElem?_eq_getElem this)⟩
    have hrun := run_storeCells_cells (P := P) b off (a.eval y).cells.toList 0 w (fun j hj => by
        obtain ⟨u, hu⟩ := hcell j hj
        rw [Nat.add_zero, cell_of_heap h1, hu]; rfl) (fun j hj => by simp [World.frozen?, h1]) hc2
    rw [Nat.add_zero] at hrun
    obtain ⟨q1, q2, q3, q4⟩ := setCells_same b (a.eval y).cells.toList off w
    have eι : (fun k => if k = l then some b else ι k) = ι := by
      funext q
      by_cases hq : q = l
      · subst hq; simp [hb]
      · simp [hq]
    refine ⟨w.setCells b off (a.eval y).cells.toList, ι, ?_, ?_⟩
    · have hsz2 : (a.eval y).cells.size = sz := by rw [← hlen]; simp
      simp [execOp, ee, Instr.storeAt, Instr.sureAddr, storeVar, ht.run_size, hsz2, hrun]
    · have := S.turn (w' := w.setCells b off (a.eval y).cells.toList) l b (.row e (setAll cs off (cellsA v))) q1 q2 q3 (by omega) (fun i hi hne => setCells_other b _ _ _ i (fun e => hne ⟨_, hl⟩ (by rw [e]; exact hb)))
        (fun i hi => by
          by_cases e : i = b
          · subst e
            have hA := setCells_heap i (a.eval y).cells.toList off w arr _ h1
            simp only [cellsIn, hA, h1]
            simp [setAll_length]
          · exact cellsIn_of (setCells_other b _ _ _ i e))
        (by omega) (.inl ⟨⟨_, hl⟩, hb⟩) (fun _ => hb) (fun _ _ => .inl hb) (fun _ _ _ _ => .inl hb)
        (fun k => by
          rw [eι] at k ⊢
          refine .inr ⟨b, (setAll arr.toList off (a.eval y).cells.toList).toArray, setAll us off (a.eval y).cells.toList, rfl, setCells_heap b _ _ _ _ _ h1, RAs.setAll (RAs.keep0 k h2) (RAs.keep0 k hc1), ?_⟩
          exact setAll_prefix _ _ _ _ h3 (by omega))
      rwa [eι] at this
end
end Go.Ab

namespace Go.Ab
open Go

/-- A call of a function, with a body or without. -/
def CallsF (P : Program) (f : FuncId) (vs : Array Value) (w : World) (R : Ending → World → Prop) : Prop :=
  match (callFunc f vs).run P w with
  | .ok (.enter f' args) w' => Calls P f' args w' R
  | .ok (.value v) w' => R (.returned v) w'
  | _ => False

theorem CallsF.mono {P : Program} {f : FuncId} {vs : Array Value} {w : World} {R R' : Ending → World → Prop} (h : CallsF P f vs w R) (hr : ∀ e w', R e w' → R' e w') : CallsF P f vs w R' := by
  unfold CallsF at *
  split at h
  · exact Calls.mono h hr
  · exact hr _ _ h
  · exact h.elim

/-- The blocks of labels. -/
def LBlk (ι : LMap) (G : GS) : BSet := fun b => ∃ l, InDom G l ∧ ι l = some b

/-- What a call comes to. B: the labels whose blocks may be others behind it. -/
def ACalls (P : Program) (f : FuncId) (args : List AV) (G : GS) (B : List Nat) (R : AV → GS → Prop) : Prop :=
  ∀ X ι w vs, HSat X ι G w → RAs (Mut X ι G) ι w args vs → CallsF P f vs.toArray w fun e w' =>
    ∃ v r G' ι', e = .returned v ∧ R r G' ∧ HSat X ι' G' w' ∧ RA (Mut X ι' G') ι' w' r v ∧ Fr w (LBlk ι G) w' ∧
      (∀ l b, InDom G' l → ι' l = some b → LBlk ι G b ∨ w.heap.size ≤ b) ∧ (∀ l, InDom G l → InDom G' l → l ∉ B → ι' l = ι l) ∧ (∀ l, ¬ InDom G' l → ι' l = ι l)

theorem ACalls.mono {P : Program} {f : FuncId} {args : List AV} {G : GS} {B : List Nat} {R R' : AV → GS → Prop} (h : ACalls P f args G B R) (hr : ∀ r G', R r G' → R' r G') : ACalls P f args G B R' :=
  fun X ι w vs hs ha => (h X ι w vs hs ha).mono fun e w' ⟨v, r, G', ι', h1, h2, h3⟩ => ⟨v, r, G', ι', h1, hr _ _ h2, h3⟩

/-- G without the labels of G0. -/
def dropAll (G0 : GS) : GS → GS
  | [] => []
  | p :: r => bif (look G0 p.1).isSome then dropAll G0 r else p :: dropAll G0 r

theorem look_dropAll {G0 : GS} : ∀ {G : GS} (k : Nat), look (dropAll G0 G) k = bif (look G0 k).isSome then none else look G k
  | [], k => by cases (look G0 k).isSome <;> rfl
  | p :: r, k => by
    have ih := look_dropAll (G0 := G0) (G := r) k
    by_cases e : p.1 = k
    · subst e
      cases h : (look G0 p.1).isSome with
      | true => rw [dropAll, h]; rw [h] at ih; simpa using ih
      | false => rw [dropAll, h]; simp [look]
    · cases h : (look G0 p.1).isSome with
      | true => rw [dropAll, h]; simp only [cond_true, look]; rw [ih, beqN_false e]; rfl
      | false => rw [dropAll, h]; simp only [cond_false, look]; rw [ih, beqN_false e]; cases (look G0 k).isSome <;> rfl

theorem look_append {α : Type} : ∀ {A C : List (Nat × α)} (k : Nat), look (A ++ C) k = (look A k).orElse fun _ => look C k
  | [], C, k => rfl
  | p :: r, C, k => by
    simp only [List.cons_append, look]
    cases Nat.beq p.1 k with
    | true => rfl
    | false => simpa using look_append k

/-- Behind a call, what is new in G' is named nowhere else. -/
def okNew (B : List Nat) (G0 G' G1 : GS) (ts : TS) : Bool :=
  G'.all fun p => !(look G1 p.1).isSome && (((look G0 p.1).isSome && !B.contains p.1) || (freshT p.1 ts && G1.all fun q => noRefO p.1 q.2))

section
variable {P : Program} {n : Nat} {ds : Fx} {E : Env} {ι : LMap} {G : GS} {ts : TS} {a : Act} {w w' : World}

theorem InDom_look {G : GS} {l : Nat} : InDom G l ↔ (look G l).isSome = true := by
  unfold InDom
  cases h : look G l <;> simp

theorem HSat.sub {X : BSet} (H : HSat X ι G w) {G0 : GS} (h : SubG G0 G) : HSat (fun b => X b ∨ LBlk ι (dropAll G0 G) b) ι G0 w := by
  have hm : ∀ b, Mut (fun b => X b ∨ LBlk ι (dropAll G0 G) b) ι G0 b → Mut X ι G b := by
    rintro b ((hx | ⟨l, hl, e⟩) | ⟨l, hl, e⟩)
    · exact .inl hx
    · refine .inr ⟨l, ?_, e⟩
      obtain ⟨o, ho⟩ := hl
      rw [look_dropAll] at ho
      cases hc : (look G0 l).isSome with
      | true => rw [hc] at ho; cases ho
      | false => rw [hc] at ho; exact ⟨o, ho⟩
    · exact .inr ⟨l, hl.sub h, e⟩
  have k : Keep (Mut X ι G) (Mut (fun b => X b ∨ LBlk ι (dropAll G0 G) b) ι G0) w w := ⟨Nat.le_refl _, fun _ _ _ => rfl, fun b _ hb => hm b hb, fun _ _ => rfl⟩
  refine { obj := fun l o ho => RO.keep0 k (fun _ _ => rfl) (H.obj l o (h _ (mem_of_look ho))), inj := fun l l' b hl hl' => H.inj l l' b (hl.sub h) (hl'.sub h), lt := ?_, xlt := ?_ }
  · intro l b hl e
    refine ⟨(H.lt l b (hl.sub h) e).1, ?_⟩
    rintro (hx | ⟨q, hq, e'⟩)
    · exact (H.lt l b (hl.sub h) e).2 hx
    · obtain ⟨o, ho⟩ := hq
      rw [look_dropAll] at ho
      cases hc : (look G0 q).isSome with
      | true => rw [hc] at ho; cases ho
      | false =>
        rw [hc] at ho
        have : q = l := H.inj q l b ⟨o, ho⟩ (hl.sub h) e' e
        subst this
        rw [InDom_look.1 hl] at hc
        cases hc
  · rintro b (hx | ⟨q, hq, e'⟩)
    · exact H.xlt b hx
    · obtain ⟨o, ho⟩ := hq
      rw [look_dropAll] at ho
      cases hc : (look G0 q).isSome with
      | true => rw [hc] at ho; cases ho
      | false => rw [hc] at ho; exact (H.lt q b ⟨o, ho⟩ e').1

/-- Behind a call. -/
theorem Sat.called (S : Sat E n ds ι G ts a w) {G0 G' : GS} {B : List Nat} {ι' : LMap} (hsub : SubG G0 G)
    (H : HSat (fun b => E.X b ∨ LBlk ι (dropAll G0 G) b) ι' G' w') (F : Fr w (LBlk ι G0) w') (hnew : ∀ l b, InDom G' l → ι' l = some b → LBlk ι G0 b ∨ w.heap.size ≤ b)
    (hfix : ∀ l, InDom G0 l → InDom G' l → l ∉ B → ι' l = ι l) (hout : ∀ l, ¬ InDom G' l → ι' l = ι l) (hok : okNew B G0 G' (dropAll G0 G) ts = true) (hF : ∀ l ∈ ds.fx, InDom G' l → InDom G0 l ∧ l ∉ B) :
    Sat E n ds ι' (G' ++ dropAll G0 G) ts a w' ∧
      (∀ b, Mut E.X ι' (G' ++ dropAll G0 G) b ↔ Mut (fun b => E.X b ∨ LBlk ι (dropAll G0 G) b) ι' G' b) := by
  -- what okNew says
  have hk : ∀ l, InDom G' l → ¬ InDom (dropAll G0 G) l ∧ ((InDom G0 l ∧ l ∉ B) ∨ (freshT l ts = true ∧ ∀ k q, look (dropAll G0 G) k = some q → noRefO l q = true)) := by
    intro l ⟨o, ho⟩
    have := List.all_eq_true.1 hok _ (mem_of_look ho)
    simp only [Bool.and_eq_true, Bool.or_eq_true, Bool.not_eq_true'] at this
    refine ⟨fun hd => by rw [InDom_look] at hd; rw [hd] at this; simp at this, this.2.imp (fun h => ⟨InDom_look.2 h.1, by simpa using h.2⟩) (fun h => ⟨h.1, fun k q hq => by have := List.all_eq_true.1 h.2 (k, q) (mem_of_look hq); exact this⟩)⟩
  have dom : ∀ l, InDom (G' ++ dropAll G0 G) l ↔ InDom G' l ∨ InDom (dropAll G0 G) l := by
    intro l
    simp only [InDom_look, look_append]
    cases look G' l <;> simp
  have d1 : ∀ l, InDom (dropAll G0 G) l → InDom G l ∧ ¬ InDom G0 l := by
    intro l ⟨o, ho⟩
    rw [look_dropAll] at ho
    cases hc : (look G0 l).isSome with
    | true => rw [hc] at ho; cases ho
    | false => rw [hc] at ho; exact ⟨⟨o, ho⟩, fun h => by rw [InDom_look.1 h] at hc; cases hc⟩
  have i2 : ∀ l, InDom (dropAll G0 G) l → ι' l = ι l := fun l hl => hout l fun h => (hk l h).1 hl
  have hmu : ∀ b, Mut E.X ι' (G' ++ dropAll G0 G) b ↔ Mut (fun b => E.X b ∨ LBlk ι (dropAll G0 G) b) ι' G' b := by
    intro b
    constructor
    · rintro (h | ⟨l, hl, e⟩)
      · exact .inl (.inl h)
      · rcases (dom l).1 hl with hl | hl
        · exact .inr ⟨l, hl, e⟩
        · exact .inl (.inr ⟨l, hl, by rw [← i2 l hl]; exact e⟩)
    · rintro ((h | ⟨l, hl, e⟩) | ⟨l, hl, e⟩)
      · exact .inl h
      · exact .inr ⟨l, (dom l).2 (.inr hl), by rw [i2 l hl]; exact e⟩
      · exact .inr ⟨l, (dom l).2 (.inl hl), e⟩
  have lblk : ∀ b, LBlk ι G0 b → Mut E.X ι G b := fun b ⟨l, hl, e⟩ => .inr ⟨l, hl.sub hsub, e⟩
  have k : Keep (Mut E.X ι G) (Mut E.X ι' (G' ++ dropAll G0 G)) w w' := by
    refine ⟨F.size, fun b hl hm => F.same b hl (fun h => hm (lblk b h)), fun b hl hm => ?_, F.shp⟩
    rcases (hmu b).1 hm with (h | ⟨l, hl', e⟩) | ⟨l, hl', e⟩
    · exact .inl h
    · exact .inr ⟨l, (d1 l hl').1, e⟩
    · rcases hnew l b hl' e with h | h
      · exact lblk b h
      · omega
  have k2 : Keep (Mut (fun b => E.X b ∨ LBlk ι (dropAll G0 G) b) ι' G') (Mut E.X ι' (G' ++ dropAll G0 G)) w' w' := ⟨Nat.le_refl _, fun _ _ _ => rfl, fun b _ hm => (hmu b).1 hm, fun _ _ => rfl⟩
  -- labels that keep their blocks
  let p : Nat → Bool := fun l => bif (look G' l).isSome then (look G0 l).isSome && !B.contains l else true
  have hp : ∀ l, p l = true → ι' l = ι l := by
    intro l hl
    by_cases hd : InDom G' l
    · simp only [p, InDom_look.1 hd, cond_true, Bool.and_eq_true] at hl
      exact hfix l (InDom_look.2 hl.1) hd (by simpa using hl.2)
    · exact hout l hd
  have named : ∀ l, (∀ (_ : InDom G' l), ¬ (InDom G0 l ∧ l ∉ B) → False) → p l = true := by
    intro l h
    simp only [p]
    cases hd : (look G' l).isSome with
    | false => rfl
    | true =>
      simp only [cond_true, Bool.and_eq_true]
      by_cases hc : InDom G0 l ∧ l ∉ B
      · exact ⟨InDom_look.1 hc.1, by simpa using hc.2⟩
      · exact (h (InDom_look.2 hd) hc).elim
  refine ⟨{ dfs := S.dfs, sz := S.sz, tm := ?_, hp := { obj := ?_, inj := ?_, lt := ?_, xlt := fun b h => Nat.lt_of_lt_of_le (S.hp.xlt b h) F.size }, fr := ?_, wr := ?_, fx := ?_ }, hmu⟩
  · intro t x hx
    obtain ⟨u, hu, hr⟩ := S.tm t x hx
    refine ⟨u, hu, RA.keep k p hp x u (allRef_of x fun l hl => named l fun hd hno => ?_) hr⟩
    rcases (hk l hd).2 with h | h
    · exact hno h
    · have := List.all_eq_true.1 h.1 _ (mem_of_look hx)
      rw [this] at hl
      cases hl
  · intro l o ho
    rw [look_append] at ho
    cases hg : look G' l with
    | some o' =>
      rw [hg] at ho
      simp at ho
      subst ho
      exact RO.keep0 k2 (fun _ _ => rfl) (H.obj l _ hg)
    | none =>
      rw [hg] at ho
      simp at ho
      have hd : InDom (dropAll G0 G) l := ⟨o, ho⟩
      have hG : look G l = some o := by
        rw [look_dropAll] at ho
        cases hc : (look G0 l).isSome with
        | true => rw [hc] at ho; cases ho
        | false => rw [hc] at ho; exact ho
      rw [i2 l hd]
      refine RO.keep k p hp o (ι l) (fun i hi => ?_) (allRefO_of o fun q hq => named q fun hd' hno => ?_) (S.hp.obj l o hG)
      · refine F.same i (S.hp.lt l i ⟨o, hG⟩ hi).1 ?_
        rintro ⟨q, hq, e⟩
        have : q = l := S.hp.inj q l i (hq.sub hsub) ⟨o, hG⟩ e hi
        subst this
        exact (d1 q hd).2 hq
      · rcases (hk q hd').2 with h | h
        · exact hno h
        · have := h.2 l o ho
          rw [this] at hq
          cases hq
  · intro l l' b hl hl' e e'
    rcases (dom l).1 hl with h | h <;> rcases (dom l').1 hl' with h' | h'
    · exact H.inj l l' b h h' e e'
    · exfalso
      exact (H.lt l b h e).2 (.inr ⟨l', h', by rw [← i2 l' h']; exact e'⟩)
    · exfalso
      exact (H.lt l' b h' e').2 (.inr ⟨l, h, by rw [← i2 l h]; exact e⟩)
    · rw [i2 l h] at e
      rw [i2 l' h'] at e'
      exact S.hp.inj l l' b (d1 l h).1 (d1 l' h').1 e e'
  · intro l b hl e
    rcases (dom l).1 hl with h | h
    · have := H.lt l b h e
      exact ⟨this.1, fun hx => this.2 (.inl hx)⟩
    · rw [i2 l h] at e
      have := S.hp.lt l b (d1 l h).1 e
      exact ⟨Nat.lt_of_lt_of_le this.1 F.size, this.2⟩
  · refine { os := F.os.trans S.fr.os, tape := F.tape.trans S.fr.tape, output := F.output.trans S.fr.output, size := Nat.le_trans S.fr.size F.size, same := fun b hl hw => ?_, shp := fun b hl => (F.shp b (Nat.lt_of_lt_of_le hl S.fr.size)).trans (S.fr.shp b hl) }
    refine (F.same b (Nat.lt_of_lt_of_le hl S.fr.size) ?_).trans (S.fr.same b hl hw)
    rintro ⟨q, hq, e⟩
    rcases S.wr q b (hq.sub hsub) e with h | h
    · exact hw h
    · omega
  · intro l b hl e
    rcases (dom l).1 hl with h | h
    · rcases hnew l b h e with ⟨q, hq, e'⟩ | h'
      · exact S.wr q b (hq.sub hsub) e'
      · exact .inr (Nat.le_trans S.fr.size h')
    · rw [i2 l h] at e
      exact S.wr l b (d1 l h).1 e
  · intro l hl
    by_cases hd : InDom G' l
    · obtain ⟨h1, h2⟩ := hF l hl hd
      rw [hfix l h1 hd h2]; exact S.fx l hl
    · rw [hout l hd]; exact S.fx l hl

theorem upon_callF {P : Program} {o : Oper} {a : Act} {f : FuncId} {vs : Array Value} {w : World} {K : Act → World → Prop} {Q : Exit → Act → World → Prop}
    (hrun : (execOp a.eval o).run P w = (callFunc f vs).run P w) (h : CallsF P f vs w fun e w' => ∃ v, e = .returned v ∧ K (a.put o.dst v) w') : o.wp P a w K Q := by
  unfold Oper.wp
  rw [hrun]
  unfold CallsF at h
  split at h
  · rename_i f' args w' hr
    rw [hr, Oper.upon_enter]
    refine Calls.mono h ?_
    rintro e w'' ⟨v, rfl, hk⟩
    exact hk
  · rename_i v w' hr
    rw [hr, Oper.upon_value]
    obtain ⟨v', e, hk⟩ := h
    injection e with e
    subst e
    exact hk
  · exact h.elim

def notFx (fx : List Nat) (B : List Nat) (G0 G' : GS) : Bool := fx.all fun l => !(look G' l).isSome || ((look G0 l).isSome && !B.contains l)

/-- A call by its contract. -/
theorem AL.call {ops : Array Oper} {rest : List Oper} {Q : Exit → TS → GS → Prop} {f : FuncId} {xs : Array Operand} {d : Tmp} {ty : TypeId} {pos : String} {after : Array Edge} {gd : Option (Nat × Bool)} {ats : Array TypeId}
    {args : List AV} {G0 : GS} {B : List Nat} {R : AV → GS → Prop} (c : ACalls P f args G0 B R) (fv : Operand) (first cap : List AV) (args0 : List AV) (hg : wantB ops ts ⟨some d, .call { callee := .value fv, args := xs, argTypes := ats }, ty, pos, after, gd⟩ = some true) (hn : d < n)
    (hfv : evA ts fv = some (.fn f first cap)) (hargs : evs ts xs.toList = some args0) (hall : first ++ args0 ++ cap = args) (hsub : SubG G0 G)
    (next : ∀ r G', R r G' → okNew B G0 G' (dropAll G0 G) ts = true ∧ notFx ds.fx B G0 G' = true ∧ AL P n ds ops rest Q ((d, r) :: ts) (G' ++ dropAll G0 G)) :
    AL P n ds ops (⟨some d, .call { callee := .value fv, args := xs, argTypes := ats }, ty, pos, after, gd⟩ :: rest) Q ts G := by
  intro E ι a w S
  refine wpList_step fun K hK => ?_
  rw [if_pos (S.want hg)]
  have hf := S.ev hfv
  simp only [RA] at hf
  obtain ⟨fs, cs, hfe, hf1, hf2⟩ := hf
  have ha := S.evl hargs
  have hal := (hf1.append ha).append hf2
  rw [hall] at hal
  have hsub' : HSat (fun b => E.X b ∨ LBlk ι (dropAll G0 G) b) ι G0 w := S.hp.sub hsub
  have hm : ∀ b, Mut (fun b => E.X b ∨ LBlk ι (dropAll G0 G) b) ι G0 b → Mut E.X ι G b := by
    rintro b ((hx | ⟨l, hl, e⟩) | ⟨l, hl, e⟩)
    · exact .inl hx
    · refine .inr ⟨l, ?_, e⟩
      obtain ⟨o, ho⟩ := hl
      rw [look_dropAll] at ho
      cases hc : (look G0 l).isSome with
      | true => rw [hc] at ho; cases ho
      | false => rw [hc] at ho; exact ⟨o, ho⟩
    · exact .inr ⟨l, hl.sub hsub, e⟩
  have k : Keep (Mut E.X ι G) (Mut (fun b => E.X b ∨ LBlk ι (dropAll G0 G) b) ι G0) w w := ⟨Nat.le_refl _, fun _ _ _ => rfl, fun b _ hb => hm b hb, fun _ _ => rfl⟩
  have hc := c _ ι w _ hsub' (RAs.keep0 k hal)
  refine upon_callF (f := f) (vs := (fs ++ xs.toList.map a.eval ++ cs).toArray) ?_ (hc.mono ?_)
  · simp only [execOp, resolve, hfe, Deferred.ofValue, Sem.run_bind, Sem.run_pure, Result.andThen_ok, invoke]
    congr 2
    apply Array.ext'
    simp
  · rintro e w' ⟨v, r, G', ι', rfl, hR, H, hr, F, hnew, hfix, hout⟩
    obtain ⟨hok, hfx, hnext⟩ := next r G' hR
    obtain ⟨S', hmut⟩ := S.called hsub H F hnew hfix hout hok (fun l hl hd => by
      have := List.all_eq_true.1 hfx l hl
      simp only [Bool.or_eq_true, Bool.not_eq_true', Bool.and_eq_true] at this
      rcases this with h | h
      · rw [InDom_look.1 hd] at h; cases h
      · exact ⟨InDom_look.2 h.1, by simpa using h.2⟩)
    have k2 : Keep (Mut (fun b => E.X b ∨ LBlk ι (dropAll G0 G) b) ι' G') (Mut E.X ι' (G' ++ dropAll G0 G)) w' w' := ⟨Nat.le_refl _, fun _ _ _ => rfl, fun b _ hm => (hmut b).1 hm, fun _ _ => rfl⟩
    exact ⟨v, rfl, hK _ _ (hnext E ι' _ w' (S'.put hn (RA.keep0 k2 hr)))⟩

/-! ### A function by its body -/
/-- What a function hands back. -/
inductive ResA (P : Program) (ts : TS) (G : GS) : ResultVar → AV → Prop
  | tmp {t : Nat} {v : AV} (h : look ts t = some v) : ResA P ts G (.tmp t) v
  | cell {t l off : Nat} {T e : TypeId} {d : TypeDesc} {sz : Nat} {cs : List AV} {v : AV} (h : look ts t = some (.ptr l off)) (hl : look G l = some (.row e cs)) (ht : TyIs P T d sz) (hd : aggD d = false) (hv : cs[off]? = some v) : ResA P ts G (.cell t T) v
  | cellA {t l off : Nat} {T e : TypeId} {d : TypeDesc} {sz : Nat} {cs : List AV} (h : look ts t = some (.ptr l off)) (hl : look G l = some (.row e cs)) (ht : TyIs P T d sz) (hd : aggD d = true) (hsz : off + sz ≤ cs.length) : ResA P ts G (.cell t T) (mkA ((cs.drop off).take sz))

inductive ResL (P : Program) (ts : TS) (G : GS) : List ResultVar → List AV → Prop
  | nil : ResL P ts G [] []
  | cons {r : ResultVar} {rs : List ResultVar} {v : AV} {vs : List AV} (h : ResA P ts G r v) (h' : ResL P ts G rs vs) : ResL P ts G (r :: rs) (v :: vs)

def oneOr : List AV → AV
  | [v] => v
  | vs => .tup vs

/-- What is left at a function's end. F: the labels that stand fast; G': what the caller keeps of the objects. -/
def Post (P : Program) (res : List ResultVar) (fx : List Nat) (R : AV → GS → Prop) (ex : Exit) (ts : TS) (G : GS) : Prop :=
  (ex = .normal ∨ ex = .ret) ∧ ∃ vs G', ResL P ts G res vs ∧ SubG G' G ∧ R (oneOr vs) G' ∧ allRef (fun l => (look G' l).isSome || fx.contains l) (oneOr vs) = true ∧
    (G'.all fun p => allRefO (fun l => (look G' l).isSome || fx.contains l) p.2) = true

def resOne (tmps : Array Value) : ResultVar → Sem Value
  | .tmp t => pure (tmps.getD t undef)
  | .cell x t => do loadVar t (← asAddr (tmps.getD x undef))
theorem results_eq (fn : Func) (tmps : Array Value) : results fn tmps = (do let vs ← fn.results.mapM (resOne tmps); pure (if h : vs.size = 1 then vs[0] else .tuple vs)) := by
  rfl

theorem ResA.run {fv : ResultVar} {v : AV} (S : Sat E n ds ι G ts a w) (h : ResA P ts G fv v) : ∃ u, (resOne a.tmps fv).run P w = .ok u w ∧ RA (Mut E.X ι G) ι w v u := by
  cases h with
  | tmp h =>
    obtain ⟨u, hu, hr⟩ := S.tm _ _ h
    exact ⟨u, by simp [resOne, hu], hr⟩
  | cell h hl ht hd hv =>
    obtain ⟨u, hu, hr⟩ := P_load (dst := none) (ty := 0) (pos := "") (after := #[]) (gd := none) ht hd (x := .tmp _) h hl hv S
    refine ⟨u, ?_, hr⟩
    have h' := S.ev (x := .tmp _) h
    simp only [RA, Act.eval] at h'
    obtain ⟨b, hb, e⟩ := h'
    simp only [execOp, Act.eval, e, Instr.loadAt, Instr.sureAddr, Sem.run_bind, Sem.run_pure, Result.andThen_ok] at hu
    simp only [resOne, e, asAddr, Sem.run_bind, Sem.run_pure, Result.andThen_ok]
    cases hq : (loadVar _ ⟨b, _, none⟩).run P w with
    | ok q w2 => rw [hq] at hu; simp at hu; obtain ⟨rfl, rfl⟩ := hu; rfl
    | halt x w2 => rw [hq] at hu; simp at hu
  | cellA h hl ht hd hsz =>
    obtain ⟨u, hu, hr⟩ := P_loadA (dst := none) (ty := 0) (pos := "") (after := #[]) (gd := none) ht hd (x := .tmp _) h hl hsz S
    refine ⟨u, ?_, hr⟩
    have h' := S.ev (x := .tmp _) h
    simp only [RA, Act.eval] at h'
    obtain ⟨b, hb, e⟩ := h'
    simp only [execOp, Act.eval, e, Instr.loadAt, Instr.sureAddr, Sem.run_bind, Sem.run_pure, Result.andThen_ok] at hu
    simp only [resOne, e, asAddr, Sem.run_bind, Sem.run_pure, Result.andThen_ok]
    cases hq : (loadVar _ ⟨b, _, none⟩).run P w with
    | ok q w2 => rw [hq] at hu; simp at hu; obtain ⟨rfl, rfl⟩ := hu; rfl
    | halt x w2 => rw [hq] at hu; simp at hu

theorem ResL.run (S : Sat E n ds ι G ts a w) : ∀ {rs : List ResultVar} {vs : List AV}, ResL P ts G rs vs → ∃ us, (rs.mapM (resOne a.tmps)).run P w = .ok us w ∧ RAs (Mut E.X ι G) ι w vs us
  | [], _, .nil => ⟨[], by simp, by simp [RAs]⟩
  | r :: rs, v :: vs, .cons h h' => by
    obtain ⟨u, hu, hr⟩ := h.run S
    obtain ⟨us, hus, hrs⟩ := ResL.run S h'
    refine ⟨u :: us, ?_, by simp only [RAs]; exact ⟨u, us, rfl, hr, hrs⟩⟩
    rw [List.mapM_cons, Sem.run_bind, hu, Result.andThen_ok, Sem.run_bind, hus]
    rfl

/-- The arguments, as the first temporaries. -/
def argsT : Nat → List AV → TS
  | _, [] => []
  | k, x :: xs => (k, x) :: argsT (k + 1) xs

theorem argsT_look : ∀ {xs : List AV} {k t : Nat} {x : AV}, look (argsT k xs) t = some x → k ≤ t ∧ xs[t - k]? = some x
  | [], k, t, x, h => by simp [argsT, look] at h
  | y :: ys, k, t, x, h => by
    rcases look_cons h with ⟨rfl, rfl⟩ | ⟨hne, h⟩
    · exact ⟨Nat.le_refl _, by simp⟩
    · obtain ⟨h1, h2⟩ := argsT_look h
      refine ⟨by omega, ?_⟩
      rw [show t - k = (t - (k + 1)) + 1 by omega]
      simpa using h2

theorem acalls_of_body {f : FuncId} {fn : Func} {c : Code} {args : List AV} {B : List Nat} {R : AV → GS → Prop} (nt : Nat) (fx : List Nat) (hf : P.funcs[f]? = some fn) (hb : fn.body = some c) (hname : (fn.name == "runtime.NumGoroutine") = false)
    (hnt : fn.ntmps = nt) (hlen : args.length ≤ nt) (hfx : G.all (fun p => fx.contains p.1 || B.contains p.1) = true)
    (h : AW P nt ⟨[], fx⟩ c (Post P fn.results.toList fx R) (argsT 0 args) G) : ACalls P f args G B R := by
  subst hnt
  intro X ι w vs H ha
  unfold CallsF
  have hcall : (callFunc f vs.toArray).run P w = .ok (.enter f vs.toArray) w := by
    simp only [callFunc, Sem.run_bind, run_program, Result.andThen_ok, hf]
    rw [hname]
    simp [hb]
  rw [hcall]
  simp only
  have hvl := ha.length
  refine calls_of_wp hf hb ?_
  let E : Env := ⟨X, w, LBlk ι G, ι⟩
  have S : Sat E fn.ntmps ⟨[], fx⟩ ι G (argsT 0 args) { tmps := vs.toArray ++ Array.replicate (fn.ntmps - vs.toArray.size) undef, defers := [] } w := {
    dfs := rfl
    sz := by simp; omega
    tm := fun t x hx => by
      obtain ⟨_, hx⟩ := argsT_look hx
      obtain ⟨u, hu, hr⟩ := ha.get _ _ hx
      refine ⟨u, ?_, hr⟩
      have hlt : t < vs.length := by have := (List.getElem?_eq_some_iff.1 hu).1; omega
      rw [Array.getElem?_append_left (by simpa using hlt)]
      simpa using hu
    hp := H
    fr := Fr.refl _ _
    wr := fun l b hl e => .inl ⟨l, hl, e⟩
    fx := fun _ _ => rfl }
  refine wp_mono (h E ι _ w S) ?_
  rintro ex a' w' ⟨ts', G2, ι', ⟨hex, rs, G', hres, hsub, hR, hr1, hr2⟩, S'⟩
  obtain ⟨us, hus, hru⟩ := ResL.run S' hres
  have hdef := S'.dfs
  -- the value
  have hval : ∃ v, (results fn a'.tmps).run P w' = .ok v w' ∧ RA (Mut X ι' G2) ι' w' (oneOr rs) v := by
    have hm : (fn.results.mapM (resOne a'.tmps)).run P w' = .ok us.toArray w' := by
      rw [Array.mapM_eq_mapM_toList, Sem.run_map, hus]
      rfl
    have hl := hru.length
    match rs, us, hru, hl, hm with
    | [], [], hru, _, hm => exact ⟨.tuple #[], by simp only [results_eq, Sem.run_bind, hm, Result.andThen_ok]; rfl, by simp only [oneOr, RA]; exact ⟨[], rfl, hru⟩⟩
    | [r], [u], hru, _, hm => exact ⟨u, by simp only [results_eq, Sem.run_bind, hm, Result.andThen_ok]; rfl, by simp only [RAs] at hru; obtain ⟨u', us', e, h1, h2⟩ := hru; injection e with e1 e2; subst e1; exact h1⟩
    | r :: r' :: rs, u :: u' :: us, hru, _, hm =>
      refine ⟨.tuple (u :: u' :: us).toArray, ?_, by simp only [oneOr, RA]; exact ⟨_, rfl, hru⟩⟩
      simp only [results_eq, Sem.run_bind, hm, Result.andThen_ok]
      rw [dif_neg (by simp)]
      rfl
  obtain ⟨v, hv, hrv⟩ := hval
  have S2 := S'.weakG hsub
  -- the labels that are not handed back read as ahead
  let ι2 : LMap := fun l => if (look G' l).isSome = true then ι' l else ι l
  have hp : ∀ l, ((look G' l).isSome || fx.contains l) = true → ι2 l = ι' l := by
    intro l hl
    simp only [ι2]
    by_cases hd : (look G' l).isSome = true
    · rw [if_pos hd]
    · rw [if_neg hd]
      have : fx.contains l = true := by simpa [hd] using hl
      exact (S'.fx l (by simpa using this)).symm
  have hd2 : ∀ l, InDom G' l → ι2 l = ι' l := fun l hl => if_pos (InDom_look.1 hl)
  have hmut : ∀ b, Mut X ι2 G' b ↔ Mut X ι' G' b := by
    intro b
    constructor
    · rintro (h | ⟨l, hl, e⟩)
      · exact .inl h
      · exact .inr ⟨l, hl, by rw [← hd2 l hl]; exact e⟩
    · rintro (h | ⟨l, hl, e⟩)
      · exact .inl h
      · exact .inr ⟨l, hl, by rw [hd2 l hl]; exact e⟩
  have k : Keep (Mut X ι' G2) (Mut X ι2 G') w' w' := ⟨Nat.le_refl _, fun _ _ _ => rfl, fun b _ hm => Mut.sub hsub ((hmut b).1 hm), fun _ _ => rfl⟩
  have k' : Keep (Mut X ι' G') (Mut X ι2 G') w' w' := ⟨Nat.le_refl _, fun _ _ _ => rfl, fun b _ hm => (hmut b).1 hm, fun _ _ => rfl⟩
  have fin : ∃ v r G' ι', Ending.returned v = .returned v ∧ R r G' ∧ HSat X ι' G' w' ∧ RA (Mut X ι' G') ι' w' r v ∧ Fr w (LBlk ι G) w' ∧
      (∀ l b, InDom G' l → ι' l = some b → LBlk ι G b ∨ w.heap.size ≤ b) ∧ (∀ l, InDom G l → InDom G' l → l ∉ B → ι' l = ι l) ∧ (∀ l, ¬ InDom G' l → ι' l = ι l) ∧ (results fn a'.tmps).run P w' = .ok v w' := by
    refine ⟨v, oneOr rs, G', ι2, rfl, hR, ?_, RA.keep k _ hp _ _ hr1 hrv, S'.fr, ?_, ?_, fun l hl => if_neg (fun h => hl (InDom_look.2 h)), hv⟩
    · refine { obj := fun l o ho => ?_, inj := fun l l' b hl hl' e e' => ?_, lt := fun l b hl e => ?_, xlt := S2.hp.xlt }
      · rw [hd2 l ⟨o, ho⟩]
        exact RO.keep k' _ hp o _ (fun _ _ => rfl) (List.all_eq_true.1 hr2 _ (mem_of_look ho)) (S2.hp.obj l o ho)
      · rw [hd2 l hl] at e
        rw [hd2 l' hl'] at e'
        exact S2.hp.inj l l' b hl hl' e e'
      · rw [hd2 l hl] at e
        exact S2.hp.lt l b hl e
    · intro l b hl e
      rw [hd2 l hl] at e
      exact S2.wr l b hl e
    · intro l hl hl' hB
      rw [hd2 l hl']
      obtain ⟨o, ho⟩ := hl
      have := List.all_eq_true.1 hfx _ (mem_of_look ho)
      simp only [Bool.or_eq_true, List.contains_iff_mem] at this
      exact S'.fx l (this.resolve_right hB)
  obtain ⟨v, r, G3, ι3, _, q1, q2, q3, q4, q5, q6, q7, q8⟩ := fin
  rcases hex with rfl | rfl
  · exact ⟨hdef, v, q8, v, r, G3, ι3, rfl, q1, q2, q3, q4, q5, q6, q7⟩
  · exact ⟨hdef, v, q8, v, r, G3, ι3, rfl, q1, q2, q3, q4, q5, q6, q7⟩
end
end Go.Ab

namespace Go.Ab
open Go

section
variable {P : Program} {n : Nat} {ds : Fx} {E : Env} {ι : LMap} {G : GS} {ts : TS} {a : Act} {w w' : World} {ty : TypeId} {pos : String} {after : Array Edge} {gd : Option (Nat × Bool)} {dst : Option Tmp}

theorem Pure1.cast {o : Oper} {x y : AV} (h : Pure1 P o ts G x) (e : x = y) : Pure1 P o ts G y := e ▸ h

section
variable {x y : Operand} {tx tyy : TypeId} {k : IntKind} {p q : Int}
theorem P_addN (h : evA ts x = some (vI .i64 p)) (h' : evA ts y = some (vI .i64 q)) (h0 : -9223372036854775808 ≤ p + q) (h1 : p + q ≤ 9223372036854775807) : Pure1 P ⟨dst, .binOp .add tx x y tyy, ty, pos, after, gd⟩ ts G (vI .i64 (p + q)) :=
  Pure1.cast (P_add h h') (by rw [IntWalk.i64_in _ ⟨h0, h1⟩])
theorem P_subN (h : evA ts x = some (vI .i64 p)) (h' : evA ts y = some (vI .i64 q)) (h0 : -9223372036854775808 ≤ p - q) (h1 : p - q ≤ 9223372036854775807) : Pure1 P ⟨dst, .binOp .sub tx x y tyy, ty, pos, after, gd⟩ ts G (vI .i64 (p - q)) :=
  Pure1.cast (P_sub h h') (by rw [IntWalk.i64_in _ ⟨h0, h1⟩])
theorem P_mulN (h : evA ts x = some (vI .i64 p)) (h' : evA ts y = some (vI .i64 q)) (h0 : -9223372036854775808 ≤ p * q) (h1 : p * q ≤ 9223372036854775807) : Pure1 P ⟨dst, .binOp .mul tx x y tyy, ty, pos, after, gd⟩ ts G (vI .i64 (p * q)) :=
  Pure1.cast (P_mul h h') (by rw [IntWalk.i64_in _ ⟨h0, h1⟩])
theorem P_quoN (h : evA ts x = some (vI .i64 p)) (h' : evA ts y = some (vI .i64 q)) (h0 : 0 ≤ p ∧ p ≤ 9223372036854775807) (h1 : 0 < q) : Pure1 P ⟨dst, .binOp .quo tx x y tyy, ty, pos, after, gd⟩ ts G (vI .i64 (p / q)) :=
  Pure1.cast (P_quo h h' (by omega)) (by
    have e : p.tdiv q = p / q := Int.tdiv_eq_ediv_of_nonneg h0.1
    have h2 : 0 ≤ p / q := Int.ediv_nonneg h0.1 (by omega)
    have h3 : p / q ≤ p := Int.ediv_le_self _ h0.1
    rw [e, IntWalk.i64_in _ ⟨by omega, by omega⟩])
theorem P_remN (h : evA ts x = some (vI k p)) (h' : evA ts y = some (vI k q)) (h0 : 0 ≤ p) (h1 : 0 < q) : Pure1 P ⟨dst, .binOp .rem tx x y tyy, ty, pos, after, gd⟩ ts G (vI k (p % q)) :=
  Pure1.cast (P_rem h h' (by omega)) (by rw [Int.tmod_eq_emod_of_nonneg h0])
theorem P_shrN {k' : IntKind} (h : evA ts x = some (vI k p)) (h' : evA ts y = some (vI k' q)) (j : Nat) (hj : q = (j : Int)) (hb : j < k.bits) : Pure1 P ⟨dst, .binOp .shr tx x y tyy, ty, pos, after, gd⟩ ts G (vI k (p / 2 ^ j)) :=
  Pure1.cast (P_shr h h' (by omega)) (by
    have : min q.toNat k.bits = j := by subst hj; simp; omega
    rw [this, Int.fdiv_eq_ediv_of_nonneg _ (by exact_mod_cast Nat.zero_le (2 ^ j))])
end

section
variable {x : Operand} {src dt : TypeId} {k : IntKind} {d : TypeDesc} {p : Int} {s1 s2 : Nat}
theorem P_conv_i64 (hs : TyIs P src d s1) (hd : TyIs P dt (.int .i64) s2) (h : evA ts x = some (vI k p)) (h0 : -9223372036854775808 ≤ p) (h1 : p ≤ 9223372036854775807) : Pure1 P ⟨dst, .convert src dt x, ty, pos, after, gd⟩ ts G (vI .i64 p) :=
  Pure1.cast (P_convI hs hd h) (by rw [IntWalk.i64_in _ ⟨h0, h1⟩])
theorem P_conv_u64 (hs : TyIs P src d s1) (hd : TyIs P dt (.int .u64) s2) (h : evA ts x = some (vI k p)) (h0 : 0 ≤ p) (h1 : p ≤ 18446744073709551615) : Pure1 P ⟨dst, .convert src dt x, ty, pos, after, gd⟩ ts G (vI .u64 p) :=
  Pure1.cast (P_convI hs hd h) (by rw [IntWalk.u64_in _ ⟨h0, h1⟩])
theorem P_conv_u32 (hs : TyIs P src d s1) (hd : TyIs P dt (.int .u32) s2) (h : evA ts x = some (vI k p)) (h0 : 0 ≤ p) (h1 : p ≤ 4294967295) : Pure1 P ⟨dst, .convert src dt x, ty, pos, after, gd⟩ ts G (vI .u32 p) :=
  Pure1.cast (P_convI hs hd h) (by rw [IntWalk.u32_in _ ⟨h0, h1⟩])
theorem P_conv_u8 (hs : TyIs P src d s1) (hd : TyIs P dt (.int .u8) s2) (h : evA ts x = some (vI k p)) (h0 : 0 ≤ p) (h1 : p ≤ 255) : Pure1 P ⟨dst, .convert src dt x, ty, pos, after, gd⟩ ts G (vI .u8 p) :=
  Pure1.cast (P_convI hs hd h) (by rw [IntWalk.u8_in _ ⟨h0, h1⟩])
theorem P_convSS {s : ByteArray} (hs : TyIs P src .string s1) (hd : TyIs P dt .string s2) (h : evA ts x = some (vS s)) : Pure1 P ⟨dst, .convert src dt x, ty, pos, after, gd⟩ ts G (vS s) :=
  P_conv h fun w => by simp [convert, hs.run_und, hd.run_und]
end

/-- A length is an int. -/
theorem AL_lenSl {ops : Array Oper} {rest : List Oper} {Q : Exit → TS → GS → Prop} {x : Operand} {st e : TypeId} {s1 sz : Nat} {xs : List Tr} {d : Tmp}
    (hg : wantB ops ts ⟨some d, .call { callee := .builtin .len, args := #[x], argTypes := #[st] }, ty, pos, after, gd⟩ = some true) (hd : (⟨some d, .call { callee := .builtin .len, args := #[x], argTypes := #[st] }, ty, pos, after, gd⟩ : Oper).dst = some d) (hn : d < n) (ht : TyIs P st (.slice e) s1) (h : evA ts x = some (.tr (.sl sz xs)))
    (next : (xs.length : Int) ≤ 9223372036854775807 → AL P n ds ops rest Q ((d, vI .i64 xs.length) :: ts) G) :
    AL P n ds ops (⟨some d, .call { callee := .builtin .len, args := #[x], argTypes := #[st] }, ty, pos, after, gd⟩ :: rest) Q ts G := by
  intro E ι a w S
  have hr := S.ev h
  simp only [RA, RT] at hr
  obtain ⟨A, cap, us, ee, ⟨h1, h2, h3, _⟩, _⟩ := hr
  exact AL.pure hg rfl hn (P_lenSl ht h) (next (by omega)) E ι a w S
theorem AL_lenOwn {ops : Array Oper} {rest : List Oper} {Q : Exit → TS → GS → Prop} {x : Operand} {st e : TypeId} {s1 sz l off m : Nat} {d : Tmp}
    (hg : wantB ops ts ⟨some d, .call { callee := .builtin .len, args := #[x], argTypes := #[st] }, ty, pos, after, gd⟩ = some true) (hd : (⟨some d, .call { callee := .builtin .len, args := #[x], argTypes := #[st] }, ty, pos, after, gd⟩ : Oper).dst = some d) (hn : d < n) (ht : TyIs P st (.slice e) s1) (h : evA ts x = some (.own sz l off m))
    (next : (m : Int) ≤ 9223372036854775807 → AL P n ds ops rest Q ((d, vI .i64 m) :: ts) G) :
    AL P n ds ops (⟨some d, .call { callee := .builtin .len, args := #[x], argTypes := #[st] }, ty, pos, after, gd⟩ :: rest) Q ts G := by
  intro E ι a w S
  have hr := S.ev h
  simp only [RA] at hr
  obtain ⟨A, cap, ee, h1, h2, _⟩ := hr
  have hm : m ≤ 9223372036854775807 := by simp only [maxLen] at h2; omega
  exact AL.pure hg rfl hn (P_lenOwn ht h) (next (by omega)) E ι a w S

/-! ### Slices of slices that are read -/
theorem RTe.append {M : BSet} {w : World} {sz : Nat} : ∀ {xs ys : List Tr} {us vs : List Value}, RTe M w sz xs us → RTe M w sz ys vs → RTe M w sz (xs ++ ys) (us ++ vs)
  | [], ys, us, vs, h, h' => by simp only [RTe] at h; subst h; simpa using h'
  | x :: xs, ys, us, vs, h, h' => by
    simp only [RTe] at h
    obtain ⟨v, us', rfl, h1, h2, h3⟩ := h
    simp only [List.cons_append, RTe]
    exact ⟨v, us' ++ vs, by simp, h1, h2, RTe.append h3 h'⟩
theorem RTe.length {M : BSet} {w : World} {sz : Nat} : ∀ {xs : List Tr} {us : List Value}, RTe M w sz xs us → us.length = xs.length * sz
  | [], us, h => by simp only [RTe] at h; subst h; simp
  | x :: xs, us, h => by
    simp only [RTe] at h
    obtain ⟨v, us', rfl, h1, h2, h3⟩ := h
    simp [h1, RTe.length h3, Nat.succ_mul]; omega
theorem RTe.drop {M : BSet} {w : World} {sz : Nat} : ∀ (k : Nat) {xs : List Tr} {us : List Value}, RTe M w sz xs us → RTe M w sz (xs.drop k) (us.drop (k * sz))
  | 0, xs, us, h => by simpa using h
  | k + 1, [], us, h => by simp only [RTe] at h; subst h; simp [RTe]
  | k + 1, x :: xs, us, h => by
    simp only [RTe] at h
    obtain ⟨v, us', rfl, h1, h2, h3⟩ := h
    have : (v.cells.toList ++ us').drop ((k + 1) * sz) = us'.drop (k * sz) := by
      rw [Nat.succ_mul, Nat.add_comm, ← List.drop_drop]
      congr 1
      rw [List.drop_append_of_le_length (by simp [h1]), List.drop_of_length_le (by simp [h1])]
      rfl
    rw [this]
    simpa using RTe.drop k h3
theorem RTe.take {M : BSet} {w : World} {sz : Nat} : ∀ (k : Nat) {xs : List Tr} {us : List Value}, RTe M w sz xs us → RTe M w sz (xs.take k) (us.take (k * sz))
  | 0, xs, us, h => by simp [RTe]
  | k + 1, [], us, h => by simp only [RTe] at h; subst h; simp [RTe]
  | k + 1, x :: xs, us, h => by
    simp only [RTe] at h
    obtain ⟨v, us', rfl, h1, h2, h3⟩ := h
    have : (v.cells.toList ++ us').take ((k + 1) * sz) = v.cells.toList ++ us'.take (k * sz) := by
      rw [Nat.succ_mul, Nat.add_comm, List.take_append, List.take_of_length_le (by simp [h1]), show sz + k * sz - v.cells.toList.length = k * sz by simp [h1]]
    rw [this]
    simp only [List.take_succ_cons, RTe]
    exact ⟨v, _, rfl, h1, h2, RTe.take k h3⟩

/-- A cut of what is read. -/
theorem slc_cut {M : BSet} {w : World} {sz cap : Nat} {A : Option Addr} {us : List Value} {N : Nat} (h : SlcAt M w sz A N cap us) (lo hi : Nat) (h1 : lo ≤ hi) (h2 : hi ≤ N) :
    SlcAt M w sz (if cap = lo then A else A.map (·.add (lo * sz))) (hi - lo) (cap - lo) ((us.take (hi * sz)).drop (lo * sz)) := by
  obtain ⟨q1, q2, q3, q5, q4⟩ := h
  refine ⟨by omega, ?_, by omega, fun u hu => q5 u (List.mem_of_mem_take (List.mem_of_mem_drop hu)), fun hn => ?_⟩
  · have e1 : (us.take (hi * sz)).length = hi * sz := by
      rw [List.length_take, q2]
      exact Nat.min_eq_left (Nat.mul_le_mul_right _ h2)
    rw [List.length_drop, e1, Nat.sub_mul]
  · obtain ⟨ad, rfl, hm, hl, hc⟩ := q4 (by omega)
    rw [if_neg (by omega)]
    have hblk : (ad.add (lo * sz)).block = ad.block := by unfold Addr.add; split <;> rfl
    refine ⟨ad.add (lo * sz), rfl, by rw [hblk]; exact hm, by rw [hblk]; exact hl, fun j u hu => ?_⟩
    have ha : (ad.add (lo * sz)).add j = ad.add (lo * sz + j) := by
      unfold Addr.add
      by_cases e1 : lo * sz = 0 <;> by_cases e2 : j = 0 <;> simp [e1, e2, Nat.add_assoc]
    rw [ha]
    refine hc _ _ ?_
    rw [List.getElem?_drop, List.getElem?_take] at hu
    split at hu
    · exact hu
    · cases hu

theorem P_slice {x : Operand} {lo hi : Option Operand} {st e : TypeId} {s1 sz : Nat} {de : TypeDesc} {xs : List Tr} (L H : Nat) (ht : TyIs P st (.slice e) s1) (he : TyIs P e de sz) (h : evA ts x = some (.tr (.sl sz xs)))
    (hrun : ∀ {E : Env} {n : Nat} {ds : Fx} {ι : LMap} {a : Act} {w : World}, Sat E n ds ι G ts a w → ∀ A cap, xs.length ≤ cap → (Instr.slice st (.slice A xs.length cap) (lo.map a.eval) (hi.map a.eval) none).run P w = .ok (.slice (if cap = L then A else A.map (·.add (L * sz))) (H - L) (cap - L)) w)
    (h1 : L ≤ H) (h2 : H ≤ xs.length) : Pure1 P ⟨dst, .slice st x lo hi none, ty, pos, after, gd⟩ ts G (.tr (.sl sz ((xs.take H).drop L))) :=
  fun {E n ds ι a w} S => by
    have hr := S.ev h
    simp only [RA, RT] at hr
    obtain ⟨A, cap, us, ee, hs, hr⟩ := hr
    have hel : P.elem st = e := by simp [Program.elem, ht.und]
    have hu : P.underlying st = some (.slice (P.elem st)) := by rw [hel]; exact ht.und
    refine ⟨.slice (if cap = L then A else A.map (·.add (L * sz))) (H - L) (cap - L), ?_, ?_⟩
    · simp only [execOp, ee, Option.map_none, run_sliceAt_slice _ _ _ _ _ _ hu, Sem.run_bind, hrun S A cap hs.1, Result.andThen_ok, Sem.run_pure]
    · simp only [RA, RT]
      have hl : ((xs.take H).drop L).length = H - L := by simp; omega
      refine ⟨_, _, (us.take (H * sz)).drop (L * sz), by rw [hl], by rw [hl]; exact slc_cut hs L H h1 h2, (hr.take H).drop L⟩

theorem sliced_eq (A : Option Addr) (l h cap s : Nat) : sliced A l h cap s = .slice (if cap = l then A else A.map (·.add (l * s))) (h - l) (cap - l) := rfl

section
variable {x lo hi : Operand} {st e : TypeId} {s1 sz : Nat} {de : TypeDesc} {xs : List Tr} {k k' : IntKind} {p q : Int}
theorem P_sliceLH (ht : TyIs P st (.slice e) s1) (he : TyIs P e de sz) (h : evA ts x = some (.tr (.sl sz xs))) (hp : evA ts lo = some (vI k p)) (hq : evA ts hi = some (vI k' q)) (h0 : 0 ≤ p ∧ p ≤ q) (h1 : q ≤ xs.length) :
    Pure1 P ⟨dst, .slice st x (some lo) (some hi) none, ty, pos, after, gd⟩ ts G (.tr (.sl sz ((xs.take q.toNat).drop p.toNat))) :=
  P_slice p.toNat q.toNat ht he h (fun {E n ds ι a w} S A cap hc => by
    have hel : P.elem st = e := by simp [Program.elem, ht.und]
    have hu : P.underlying st = some (.slice (P.elem st)) := by rw [hel]; exact ht.und
    simp only [Option.map_some, S.evV hp, S.evV hq]
    rw [run_slice_lh w st A xs.length cap hu k k' p q h0.1 h0.2 (by omega), hel, he.run_size]
    rfl) (by omega) (by omega)
theorem P_sliceL (ht : TyIs P st (.slice e) s1) (he : TyIs P e de sz) (h : evA ts x = some (.tr (.sl sz xs))) (hp : evA ts lo = some (vI k p)) (h0 : 0 ≤ p ∧ p ≤ xs.length) :
    Pure1 P ⟨dst, .slice st x (some lo) none none, ty, pos, after, gd⟩ ts G (.tr (.sl sz (xs.drop p.toNat))) :=
  Pure1.cast (P_slice p.toNat xs.length ht he h (fun {E n ds ι a w} S A cap hc => by
    have hel : P.elem st = e := by simp [Program.elem, ht.und]
    have hu : P.underlying st = some (.slice (P.elem st)) := by rw [hel]; exact ht.und
    simp only [Option.map_some, Option.map_none, S.evV hp]
    rw [run_slice_l w st A xs.length cap hu k p h0.1 (by omega), hel, he.run_size]
    rfl) (by omega) (by omega)) (by rw [List.take_length])
theorem P_sliceH (ht : TyIs P st (.slice e) s1) (he : TyIs P e de sz) (h : evA ts x = some (.tr (.sl sz xs))) (hq : evA ts hi = some (vI k' q)) (h0 : 0 ≤ q ∧ q ≤ xs.length) :
    Pure1 P ⟨dst, .slice st x none (some hi) none, ty, pos, after, gd⟩ ts G (.tr (.sl sz (xs.take q.toNat))) :=
  Pure1.cast (P_slice 0 q.toNat ht he h (fun {E n ds ι a w} S A cap hc => by
    have hel : P.elem st = e := by simp [Program.elem, ht.und]
    have hu : P.underlying st = some (.slice (P.elem st)) := by rw [hel]; exact ht.und
    simp only [Option.map_some, Option.map_none, S.evV hq]
    rw [run_slice_h w st A xs.length cap hu k' q h0.1 (by omega), hel, he.run_size]
    rfl) (by omega) (by omega)) (by rw [List.drop_zero])
/-- s[lo:hi] of a string. -/
theorem P_sliceSLH {s : ByteArray} (ht : TyIs P st .string s1) (h : evA ts x = some (vS s)) (hp : evA ts lo = some (vI k p)) (hq : evA ts hi = some (vI k' q)) (h0 : 0 ≤ p ∧ p ≤ q) (h1 : q ≤ s.size) :
    Pure1 P ⟨dst, .slice st x (some lo) (some hi) none, ty, pos, after, gd⟩ ts G (vS (s.extract p.toNat q.toNat)) :=
  fun {E n ds ι a w} S => by
    refine ⟨.string (s.extract p.toNat q.toNat), ?_, by simp [RA, RT]⟩
    have e1 : (q.toNat : Int) = q := Int.toNat_of_nonneg (by omega)
    simp [execOp, S.evV h, S.evV hp, S.evV hq, Instr.sliceAt, ht.run_und, Instr.slice, Instr.sliceBounds, Instr.sliceBound, asIntOf, h0.1, h0.2, h1, e1, (by omega : 0 ≤ q)]
theorem P_sliceSL {s : ByteArray} (ht : TyIs P st .string s1) (h : evA ts x = some (vS s)) (hp : evA ts lo = some (vI k p)) (h0 : 0 ≤ p ∧ p ≤ s.size) :
    Pure1 P ⟨dst, .slice st x (some lo) none none, ty, pos, after, gd⟩ ts G (vS (s.extract p.toNat s.size)) :=
  fun {E n ds ι a w} S => by
    refine ⟨.string (s.extract p.toNat s.size), ?_, by simp [RA, RT]⟩
    simp [execOp, S.evV h, S.evV hp, Instr.sliceAt, ht.run_und, Instr.slice, Instr.sliceBounds, Instr.sliceBound, asIntOf, h0.1, h0.2]
end

/-! ### What is made and read alone -/
/-- An operation that makes something that no one writes; labels and objects stand. -/
def Mk1 (P : Program) (o : Oper) (ts : TS) (G : GS) (x : AV) : Prop :=
  ∀ {E : Env} {n : Nat} {ds : Fx} {ι : LMap} {a : Act} {w : World}, Sat E n ds ι G ts a w →
    ∃ u w', (execOp a.eval o).run P w = .ok (.value u) w' ∧ Sat E n ds ι G ts a w' ∧ RA (Mut E.X ι G) ι w' x u
theorem Pure1.mk1 {o : Oper} {x : AV} (h : Pure1 P o ts G x) : Mk1 P o ts G x := fun S => let ⟨u, hr, hx⟩ := h S; ⟨u, _, hr, S, hx⟩
theorem Mk1.eff {o : Oper} {x : AV} (h : Mk1 P o ts G x) : Eff1 P ds o ts G x ts G := fun S => let ⟨u, w', hr, S', hx⟩ := h S; ⟨u, w', _, hr, S', hx⟩
theorem AL.mk {ops : Array Oper} {o : Oper} {rest : List Oper} {Q : Exit → TS → GS → Prop} {d : Tmp} {x : AV} (hg : wantB ops ts o = some true) (hd : o.dst = some d) (hn : d < n)
    (hp : Mk1 P o ts G x) (h : AL P n ds ops rest Q ((d, x) :: ts) G) : AL P n ds ops (o :: rest) Q ts G := AL.eff hg hd hn hp.eff h

/-- The parts of a literal, in order, each there. -/
def litA (ts : TS) : Nat → List (Nat × Operand) → Option (List Tr)
  | _, [] => some []
  | i, (j, x) :: r => bif Nat.beq i j then (match evA ts x, litA ts (i + 1) r with
    | some (.tr t), some l => some (t :: l)
    | _, _ => none) else none

theorem litA_spec (S : Sat E n ds ι G ts a w) : ∀ {i : Nat} {parts : List (Nat × Operand)} {xs : List Tr}, litA ts i parts = some xs →
    ∃ vs : List Value, parts.map (fun q => (q.1, a.eval q.2)) = (vs.zipIdx i).map (fun q => (q.2, q.1)) ∧ vs.length = xs.length ∧ ∀ (j : Nat) (t : Tr), xs[j]? = some t → ∃ v, vs[j]? = some v ∧ RT (Mut E.X ι G) w t v
  | i, [], xs, h => by simp only [litA, Option.some.injEq] at h; subst h; exact ⟨[], rfl, rfl, fun j t ht => by simp at ht⟩
  | i, (j, x) :: r, xs, h => by
    simp only [litA] at h
    cases hb : Nat.beq i j with
    | false => rw [hb] at h; simp at h
    | true =>
      have e := Nat.eq_of_beq_eq_true hb
      subst e
      rw [hb] at h
      simp only [cond_true] at h
      split at h
      · rename_i t l h1 h2
        injection h with h
        subst h
        obtain ⟨vs, q1, q2, q3⟩ := litA_spec S h2
        have hr := S.ev h1
        simp only [RA] at hr
        refine ⟨a.eval x :: vs, by simp [q1], by simp [q2], fun k t' ht => ?_⟩
        match k with
        | 0 => simp at ht; subst ht; exact ⟨_, by simp, hr⟩
        | k + 1 => simp at ht; obtain ⟨v, hv, hr'⟩ := q3 k t' ht; exact ⟨v, by simpa using hv, hr'⟩
      · cases h

theorem foldl_setAll (arr : Array Value) (off : Nat) : ∀ (l : List Value) (k : Nat) (arr : Array Value), (l.zipIdx k).foldl (fun cs p => cs.setIfInBounds (off + p.2) p.1) arr = (setAll arr.toList (off + k) l).toArray
  | [], k, arr => by simp [setAll]
  | v :: l, k, arr => by
    simp only [List.zipIdx_cons, List.foldl_cons]
    rw [foldl_setAll arr off l (k + 1)]
    simp [setAll, Nat.add_assoc]

theorem fill_step (place : Nat → Option (Nat × Nat)) (cells : Array Value) (i : Nat) (v : Value) (rest : List (Nat × Value)) (off size : Nat) (h : place i = some (off, size)) (hs : v.cells.size = size) (hin : off + size ≤ cells.size) :
    Instr.fill place cells ((i, v) :: rest) = Instr.fill place (setAll cells.toList off v.cells.toList).toArray rest := by
  simp only [Instr.fill, h]
  rw [if_neg (by rw [hs]; simp; omega)]
  congr 1
  have := foldl_setAll cells off v.cells.toList 0 cells
  rw [Nat.add_zero] at this
  rw [← this, ← Array.foldl_toList]
  congr 1
  simp

/-- A literal's cells, one part behind the other. -/
theorem fill_seq (size : Nat) : ∀ (vs : List Value) (i : Nat) (pre : List Value) (post : List Value), pre.length = i * size → post.length = vs.length * size → (∀ v ∈ vs, v.cells.size = size) →
    Instr.fill (fun i => some (i * size, size)) (pre ++ post).toArray ((vs.zipIdx i).map (fun q => (q.2, q.1))) = some (pre ++ vs.flatMap (·.cells.toList)).toArray
  | [], i, pre, post, h1, h2, h3 => by
    have : post = [] := List.eq_nil_of_length_eq_zero (by simpa using h2)
    subst this
    simp [Instr.fill]
  | v :: vs, i, pre, post, h1, h2, h3 => by
    have hv : v.cells.size = size := h3 v (by simp)
    have hle : size ≤ post.length := by rw [h2]; simp [Nat.succ_mul]
    simp only [List.zipIdx_cons, List.map_cons]
    rw [fill_step _ _ _ _ _ (i * size) size rfl hv (by simp [h1]; omega)]
    have hset : ∀ (xs pre post : List Value), xs.length ≤ post.length → setAll (pre ++ post) pre.length xs = pre ++ xs ++ post.drop xs.length := by
      intro xs
      induction xs with
      | nil => intro pre post _; simp [setAll]
      | cons x xs ih =>
        intro pre post hl
        match post, hl with
        | [], hl => simp at hl
        | p :: post, hl =>
          simp only [setAll]
          have := ih (pre ++ [x]) post (by simpa using hl)
          have e : (pre ++ p :: post).set pre.length x = pre ++ [x] ++ post := by simp
          rw [e, show pre.length + 1 = (pre ++ [x]).length by simp, this]
          simp
    rw [← h1]
    have e := hset v.cells.toList pre post (by simp [hv]; exact hle)
    rw [show (pre ++ post).toArray.toList = pre ++ post from rfl, e]
    have := fill_seq size vs (i + 1) (pre ++ v.cells.toList) (post.drop v.cells.toList.length) (by simp [h1, hv, Nat.succ_mul]) (by simp [h2, hv, Nat.succ_mul]) (fun u hu => h3 u (by simp [hu]))
    rw [this]
    simp

theorem RTe_of {M : BSet} {w : World} {sz : Nat} : ∀ {xs : List Tr} {vs : List Value}, vs.length = xs.length → (∀ (j : Nat) (t : Tr), xs[j]? = some t → ∃ v, vs[j]? = some v ∧ RT M w t v) → (∀ v ∈ vs, v.cells.size = sz) → RTe M w sz xs (vs.flatMap (·.cells.toList))
  | [], vs, h, _, _ => by have : vs = [] := List.eq_nil_of_length_eq_zero h; subst this; simp [RTe]
  | x :: xs, [], h, _, _ => by simp at h
  | x :: xs, v :: vs, h, hr, hs => by
    obtain ⟨v', e, hx⟩ := hr 0 x (by simp)
    simp at e
    subst e
    simp only [List.flatMap_cons, RTe]
    exact ⟨v, _, rfl, hs v (by simp), hx, RTe_of (by simpa using h) (fun j t ht => by simpa using hr (j + 1) t (by simpa using ht)) (fun u hu => hs u (by simp [hu]))⟩

def litOk (sz : Nat) (xs : List Tr) : Bool := xs.all fun t => okTr t && Nat.beq t.cells.length sz

theorem cells_of_okTr {M : BSet} {w : World} {t : Tr} {v : Value} (h : okTr t = true) (r : RT M w t v) : v.cells.size = t.cells.length := by
  have := RT_cells h r
  rw [← this.length]
  simp

theorem newRow_tr (S : Sat E n ds ι G ts a w) {e : TypeId} {sz : Nat} {xs : List Tr} {us : List Value} (hr : RTe (Mut E.X ι G) w sz xs us) (hone : ∀ u ∈ us, u.oneCell' = true) (hl : xs.length ≤ 9223372036854775807) (cap : Nat) (hc : xs.length ≤ cap) (more : List Value) :
    Sat E n ds ι G ts a (w.alloc (.cells (us ++ more).toArray e)) ∧ RA (Mut E.X ι G) ι (w.alloc (.cells (us ++ more).toArray e)) (.tr (.sl sz xs)) (.slice (some ⟨w.heap.size, 0, none⟩) xs.length cap) := by
  have S' : Sat E n ds ι G ts a (w.alloc (.cells (us ++ more).toArray e)) := S.grow rfl rfl rfl (by rw [size_alloc]; omega) (fun b hb => heap_alloc_old w _ b hb)
  have k : Keep (Mut E.X ι G) (Mut E.X ι G) w (w.alloc (.cells (us ++ more).toArray e)) := S.keepGrow (by rw [size_alloc]; omega) (fun b hb => heap_alloc_old w _ b hb)
  refine ⟨S', ?_⟩
  simp only [RA, RT]
  refine ⟨_, cap, us, rfl, ⟨hc, hr.length, hl, hone, fun hn => ⟨_, rfl, ?_, by simp only [size_alloc]; omega, fun j u hu => ?_⟩⟩, RTe.keep k sz xs us hr⟩
  · rintro (h | ⟨l, hl, e⟩)
    · have := S.hp.xlt _ h; simp at this
    · have := (S.hp.lt l _ hl e).1; simp at this
  · rw [add_at, Nat.zero_add, cell_of_heap (heap_alloc_at w _)]
    have := (List.getElem?_eq_some_iff.1 hu).1
    simp [List.getElem?_append_left this, hu]

theorem E_lit {st e : TypeId} {s1 sz len : Nat} {de : TypeDesc} {z : Value} {parts : Array (Nat × Operand)} {xs : List Tr} (ht : TyIs P st (.slice e) s1) (he : TyIs P e de sz) (hz : TyZ P e z) (hx : litA ts 0 parts.toList = some xs)
    (hok : (Nat.beq xs.length len && litOk sz xs && Nat.ble (len * sz) 16777216 && Nat.beq z.cells.size sz && Nat.ble 1 sz) = true) : Mk1 P ⟨dst, .buildSlice st len parts, ty, pos, after, gd⟩ ts G (.tr (.sl sz xs)) :=
  fun {E n ds ι a w} S => by
    simp only [Bool.and_eq_true] at hok
    obtain ⟨⟨⟨⟨h1, h2⟩, h3⟩, h4⟩, h5⟩ := hok
    have e1 := Nat.eq_of_beq_eq_true h1
    have e4 := Nat.eq_of_beq_eq_true h4
    have e3 := Nat.le_of_ble_eq_true h3
    have e5 := Nat.le_of_ble_eq_true h5
    obtain ⟨vs, q1, q2, q3⟩ := litA_spec S hx
    have hvs : ∀ v ∈ vs, v.cells.size = sz := by
      intro v hv
      obtain ⟨j, hj, rfl⟩ := List.getElem_of_mem hv
      have hjx : j < xs.length := by omega
      obtain ⟨v', e', hr⟩ := q3 j xs[j] (List.getElem?_eq_getElem hjx)
      rw [List.getElem?_eq_getElem hj] at e'
      injection e' with e'
      have := List.all_eq_true.1 h2 xs[j] (List.getElem_mem hjx)
      simp only [Bool.and_eq_true] at this
      rw [e', cells_of_okTr this.1 hr]
      exact Nat.eq_of_beq_eq_true this.2
    have hr := RTe_of q2 q3 hvs
    have hone : ∀ u ∈ vs.flatMap (·.cells.toList), u.oneCell' = true := by
      intro u hu
      obtain ⟨v, hv, hu⟩ := List.mem_flatMap.1 hu
      obtain ⟨j, hj, rfl⟩ := List.getElem_of_mem hv
      have hjx : j < xs.length := by omega
      obtain ⟨v', e', hr⟩ := q3 j xs[j] (List.getElem?_eq_getElem hjx)
      rw [List.getElem?_eq_getElem hj] at e'
      injection e' with e'
      have := List.all_eq_true.1 h2 xs[j] (List.getElem_mem hjx)
      simp only [Bool.and_eq_true] at this
      rw [e'] at hu
      exact (RA_cells (ι := ι) (x := .tr xs[j]) this.1 (by simpa only [RA] using hr)).2 u hu
    have hlen : len ≤ len * sz := Nat.le_mul_of_pos_right _ e5
    obtain ⟨S', hR⟩ := newRow_tr S (e := e) hr hone (by omega) len (by omega) []
    refine ⟨_, _, ?_, S', hR⟩
    have hp : ((parts.map fun (i, x) => (i, a.eval x)).toList) = (vs.zipIdx 0).map (fun q => (q.2, q.1)) := by simpa using q1
    have hinit : ∃ init : List Value, (Array.range (len * sz)).map (z.cells[· % z.cells.size]!) = init.toArray ∧ init.length = vs.length * sz := ⟨((Array.range (len * sz)).map (z.cells[· % z.cells.size]!)).toList, Array.toArray_toList.symm, by simp; rw [q2, e1]⟩
    obtain ⟨init, hi1, hi2⟩ := hinit
    have hfill := fill_seq sz vs 0 [] init (by simp) hi2 hvs
    simp only [List.nil_append] at hfill
    simp only [execOp, Instr.buildSlice, ht.run_und, he.run_size, Sem.run_bind, Result.andThen_ok, Sem.run_pure]
    rw [if_neg (by omega)]
    by_cases hz0 : len * sz = 0
    · have : vs = [] := by
        have : len = 0 := by rcases Nat.mul_eq_zero.1 hz0 with h | h <;> omega
        exact List.eq_nil_of_length_eq_zero (by omega)
      subst this
      have hinit0 : init = [] := List.eq_nil_of_length_eq_zero (by simpa using hi2)
      subst hinit0
      simp only [hz0, if_true, pure_bind]
      have hrange : (Array.range 0).map (fun x => (#[] : Array Value)[x % (#[] : Array Value).size]!) = #[] := by simp
      rw [hrange, hp]
      simp only [List.zipIdx_nil, List.map_nil, Instr.fill, newRow, run_newObj, Sem.run_bind, Result.andThen_ok, Sem.run_pure]
      have hx0 : xs.length = 0 := by simpa using q2.symm
      simp [← e1, hx0]
    · rw [if_neg hz0]
      simp only [Sem.run_bind, hz.run, Result.andThen_ok, Sem.run_pure]
      rw [hi1, hp, hfill]
      simp only [newRow, run_newObj, Sem.run_bind, Result.andThen_ok, Sem.run_pure, e1, List.append_nil]
      rfl
end
end Go.Ab

namespace Go.Ab
open Go

section
variable {P : Program} {n : Nat} {ds : Fx} {E : Env} {ι : LMap} {G : GS} {ts : TS} {a : Act} {w w' : World} {ty : TypeId} {pos : String} {after : Array Edge} {gd : Option (Nat × Bool)} {dst : Option Tmp}

/-! ### Pointers and slices held against nil -/
theorem run_eql_ptr_nil {t e : TypeId} {sz : Nat} (ht : TyIs P t (.pointer e) sz) (a : Addr) (w : World) : (Op.equal t (.pointer (some a)) (.pointer none)).run P w = .ok false w := by
  unfold Op.equal Op.maxDepth
  rw [Op.equalIn]
  rw [Sem.run_bind, ht.run_und]
  rfl
theorem run_eql_nil_nil {t e : TypeId} {sz : Nat} (ht : TyIs P t (.pointer e) sz) (w : World) : (Op.equal t (.pointer none) (.pointer none)).run P w = .ok true w := by
  unfold Op.equal Op.maxDepth
  rw [Op.equalIn]
  rw [Sem.run_bind, ht.run_und]
  rfl
theorem run_guard_ptr (op : BinOp) (tx : TypeId) (x y : Operand) (p q : Option Addr) (w : World) : (eqGuard op tx x y (.pointer p) (.pointer q)).run P w = .ok () w := by
  unfold eqGuard
  split <;> rfl
theorem P_eqlPN {x y : Operand} {tx tyy e : TypeId} {sz l off : Nat} (ht : TyIs P tx (.pointer e) sz) (h : evA ts x = some (.ptr l off)) (h' : evA ts y = some (.tr (.val (.pointer none)))) : Pure1 P ⟨dst, .binOp .eql tx x y tyy, ty, pos, after, gd⟩ ts G (vB false) :=
  fun {E n ds ι a w} S => by
    have hr := S.ev h
    simp only [RA] at hr
    obtain ⟨b, hb, ee⟩ := hr
    refine ⟨.bool false, ?_, by simp [RA, RT]⟩
    simp only [execOp, ee, S.evV h', Sem.run_bind, run_guard_ptr, Result.andThen_ok, binOp, run_eql_ptr_nil ht, Sem.run_pure]
theorem P_neqPN {x y : Operand} {tx tyy e : TypeId} {sz l off : Nat} (ht : TyIs P tx (.pointer e) sz) (h : evA ts x = some (.ptr l off)) (h' : evA ts y = some (.tr (.val (.pointer none)))) : Pure1 P ⟨dst, .binOp .neq tx x y tyy, ty, pos, after, gd⟩ ts G (vB true) :=
  fun {E n ds ι a w} S => by
    have hr := S.ev h
    simp only [RA] at hr
    obtain ⟨b, hb, ee⟩ := hr
    refine ⟨.bool true, ?_, by simp [RA, RT]⟩
    simp only [execOp, ee, S.evV h', Sem.run_bind, run_guard_ptr, Result.andThen_ok, binOp, run_eql_ptr_nil ht, Sem.run_pure]
    rfl
theorem P_eqlNN {x y : Operand} {tx tyy e : TypeId} {sz : Nat} (ht : TyIs P tx (.pointer e) sz) (h : evA ts x = some (.tr (.val (.pointer none)))) (h' : evA ts y = some (.tr (.val (.pointer none)))) : Pure1 P ⟨dst, .binOp .eql tx x y tyy, ty, pos, after, gd⟩ ts G (vB true) :=
  P_bin h h' fun w => by simp only [Sem.run_bind, run_guard_ptr, Result.andThen_ok, binOp, run_eql_nil_nil ht, Sem.run_pure]
theorem P_neqNN {x y : Operand} {tx tyy e : TypeId} {sz : Nat} (ht : TyIs P tx (.pointer e) sz) (h : evA ts x = some (.tr (.val (.pointer none)))) (h' : evA ts y = some (.tr (.val (.pointer none)))) : Pure1 P ⟨dst, .binOp .neq tx x y tyy, ty, pos, after, gd⟩ ts G (vB false) :=
  P_bin h h' fun w => by simp only [Sem.run_bind, run_guard_ptr, Result.andThen_ok, binOp, run_eql_nil_nil ht, Sem.run_pure]; rfl

/-! ### A struct, an array built -/
/-- Where the fields lie, and how many cells they have. -/
structure FldIs (P : Program) (fs : Array Field) (pl : List (Nat × Nat)) : Prop where
  out : (fs.toList.mapM fun f => (P.info? f.type).map fun i => (f.offset, i.size)) = some pl

theorem FldIs.run {fs : Array Field} {pl : List (Nat × Nat)} (h : FldIs P fs pl) (w : World) : (fs.mapM fun f => (do pure (f.offset, ← sizeOf f.type) : Sem (Nat × Nat))).run P w = .ok pl.toArray w := by
  have key : ∀ (l : List Field) (pl : List (Nat × Nat)), (l.mapM fun f => (P.info? f.type).map fun i => (f.offset, i.size)) = some pl → (l.mapM fun f => (do pure (f.offset, ← sizeOf f.type) : Sem (Nat × Nat))).run P w = .ok pl w := by
    intro l
    induction l with
    | nil => intro pl h; simp at h; subst h; simp
    | cons f l ih =>
      intro pl h
      rw [List.mapM_cons] at h
      cases hi : P.info? f.type with
      | none => rw [hi] at h; simp at h
      | some i =>
        rw [hi] at h
        simp only [Option.map_some, Option.bind_eq_bind, Option.bind_some] at h
        cases hl : (l.mapM fun f => (P.info? f.type).map fun i => (f.offset, i.size)) with
        | none => rw [hl] at h; simp at h
        | some pl' =>
          rw [hl] at h
          simp at h
          subst h
          rw [List.mapM_cons]
          simp only [Sem.run_bind, sizeOf, typeInfo, run_program, Result.andThen_ok, hi, Sem.run_pure]
          have := ih pl' hl
          simp only [Sem.run_bind, sizeOf, typeInfo, run_program] at this
          rw [this]; simp
  rw [Array.mapM_eq_mapM_toList, Sem.run_map, key _ _ h.out]
  rfl

/-- Parts laid into cells. -/
def fillA (ts : TS) (place : Nat → Option (Nat × Nat)) : List AV → List (Nat × Operand) → Option (List AV)
  | cs, [] => some cs
  | cs, (i, x) :: r =>
    match place i, evA ts x with
    | some (off, size), some v => bif cellsOk v && Nat.beq (cellsA v).length size && Nat.ble (off + size) cs.length then fillA ts place (setAll cs off (cellsA v)) r else none
    | _, _ => none

theorem fillA_spec (S : Sat E n ds ι G ts a w) (place : Nat → Option (Nat × Nat)) : ∀ {parts : List (Nat × Operand)} {cs cs' : List AV} {us : List Value}, fillA ts place cs parts = some cs' → RAs (Mut E.X ι G) ι w cs us →
    ∃ us', Instr.fill place us.toArray (parts.map fun q => (q.1, a.eval q.2)) = some us'.toArray ∧ RAs (Mut E.X ι G) ι w cs' us'
  | [], cs, cs', us, h, r => by simp only [fillA, Option.some.injEq] at h; subst h; exact ⟨us, rfl, r⟩
  | (i, x) :: parts, cs, cs', us, h, r => by
    simp only [fillA] at h
    split at h
    · rename_i off size v hp hv
      cases hb : (cellsOk v && Nat.beq (cellsA v).length size && Nat.ble (off + size) cs.length) with
      | false => rw [hb] at h; simp at h
      | true =>
        rw [hb] at h
        simp only [cond_true] at h
        simp only [Bool.and_eq_true] at hb
        obtain ⟨⟨h1, h2⟩, h3⟩ := hb
        have e2 := Nat.eq_of_beq_eq_true h2
        have e3 := Nat.le_of_ble_eq_true h3
        obtain ⟨hc1, hc2⟩ := RA_cells h1 (S.ev hv)
        have hlen := hc1.length
        have hus := r.length
        have hsz : (a.eval x).cells.size = size := by rw [← e2, ← hlen]; simp
        obtain ⟨us', q1, q2⟩ := fillA_spec S place h (RAs.setAll r hc1)
        refine ⟨us', ?_, q2⟩
        simp only [List.map_cons]
        rw [fill_step place us.toArray i (a.eval x) _ off size hp hsz (by simp; omega)]
        exact q1
    · cases h

theorem P_build {t : TypeId} {fs : Array Field} {sz : Nat} {pl : List (Nat × Nat)} {z : Value} {parts : Array (Nat × Operand)} {cs : List AV} (ht : TyIs P t (.struct fs) sz) (hz : TyZ P t z) (hf : FldIs P fs pl)
    (hc : fillA ts (fun i : Nat => pl[i]?) (valsA z.cells.toList) parts.toList = some cs) : Pure1 P ⟨dst, .build t parts, ty, pos, after, gd⟩ ts G (mkA cs) :=
  fun {E n ds ι a w} S => by
    obtain ⟨us', q1, q2⟩ := fillA_spec S _ hc (RAs_vals z.cells.toList)
    refine ⟨.agg us'.toArray, ?_, RA_mkA q2⟩
    have hp : ((parts.map fun (i, x) => (i, a.eval x)).toList) = parts.toList.map fun q => (q.1, a.eval q.2) := by simp
    have hpl : (fun i : Nat => pl.toArray[i]?) = (fun i : Nat => pl[i]?) := by funext i; simp
    simp only [execOp, Instr.build, hz.run, ht.run_und, hf.run, Sem.run_bind, Result.andThen_ok, hp, hpl]
    rw [show z.cells = z.cells.toList.toArray by simp, q1]
    rfl
theorem P_buildArr {t e : TypeId} {m sz sze : Nat} {de : TypeDesc} {z : Value} {parts : Array (Nat × Operand)} {cs : List AV} (ht : TyIs P t (.array m e) sz) (he : TyIs P e de sze) (hz : TyZ P t z)
    (hc : fillA ts (fun i => some (i * sze, sze)) (valsA z.cells.toList) parts.toList = some cs) : Pure1 P ⟨dst, .build t parts, ty, pos, after, gd⟩ ts G (mkA cs) :=
  fun {E n ds ι a w} S => by
    obtain ⟨us', q1, q2⟩ := fillA_spec S _ hc (RAs_vals z.cells.toList)
    refine ⟨.agg us'.toArray, ?_, RA_mkA q2⟩
    have hp : ((parts.map fun (i, x) => (i, a.eval x)).toList) = parts.toList.map fun q => (q.1, a.eval q.2) := by simp
    simp only [execOp, Instr.build, hz.run, ht.run_und, he.run_size, Sem.run_bind, Result.andThen_ok, hp]
    rw [show z.cells = z.cells.toList.toArray by simp, q1]
    rfl

/-! ### Rows of one's own -/
theorem S_els (S : Sat E n ds ι G ts a w) {l : Nat} {e : TypeId} {sz : Nat} {xs : List Tr} {b : Nat} (hl : look G l = some (.els e sz xs)) (hb : ι l = some b) :
    ∃ us more : List Value, w.heap[b]? = some (.cells (us ++ more).toArray e (0, 0)) ∧ RTe (Mut E.X ι G) w sz xs us ∧ ∀ u ∈ us, u.oneCell' = true := by
  rcases S.hp.obj l _ hl with ⟨h, _⟩ | ⟨b', us, more, h1, h2, h3, h4⟩
  · rw [hb] at h; cases h
  · rw [hb] at h1; injection h1 with h1; subst h1; exact ⟨us, more, h2, h3, fun u hu => h4 u (List.mem_append_left _ hu)⟩
theorem S_elsM (S : Sat E n ds ι G ts a w) {l : Nat} {e : TypeId} {sz : Nat} {xs : List Tr} {b : Nat} (hl : look G l = some (.els e sz xs)) (hb : ι l = some b) :
    ∃ us more : List Value, w.heap[b]? = some (.cells (us ++ more).toArray e (0, 0)) ∧ RTe (Mut E.X ι G) w sz xs us ∧ ∀ u ∈ us ++ more, u.oneCell' = true := by
  rcases S.hp.obj l _ hl with ⟨h, _⟩ | ⟨b', us, more, h1, h2, h3, h4⟩
  · rw [hb] at h; cases h
  · rw [hb] at h1; injection h1 with h1; subst h1; exact ⟨us, more, h2, h3, h4⟩

theorem Sat.ghost (S : Sat E n ds ι G ts a w) (t l : Nat) (e : TypeId) (sz : Nat) (h : look ts t = some (.tr (.val (.slice none 0 0)))) (hF : ds.fx.contains l = false) (hT : freshT l ts = true) (hG : freshG l G = true) :
    ∃ ι', Sat E n ds ι' ((l, .els e sz []) :: G) ((t, .own sz l 0 0) :: ts) a w := by
  obtain ⟨hd, hG'⟩ := freshG_spec hG
  let ι' : LMap := fun k => if k = l then none else ι k
  have hι : ∀ k, (!(Nat.beq k l)) = true → ι' k = ι k := fun k hk => if_neg (beq_ne hk)
  have dom : ∀ k, k ≠ l → (InDom ((l, AObj.els e sz []) :: G) k ↔ InDom G k) := by
    intro k hk
    unfold InDom
    rw [look_cons_ne _ _ (fun e => hk e.symm)]
  have hmu : ∀ b, Mut E.X ι' ((l, .els e sz []) :: G) b → Mut E.X ι G b := by
    rintro b (h | ⟨k, hk, e⟩)
    · exact .inl h
    · by_cases h1 : k = l
      · subst h1; simp [ι'] at e
      · simp only [ι', if_neg h1] at e; exact .inr ⟨k, (dom k h1).1 hk, e⟩
  have k : Keep (Mut E.X ι G) (Mut E.X ι' ((l, .els e sz []) :: G)) w w := ⟨Nat.le_refl _, fun _ _ _ => rfl, fun b _ h => hmu b h, fun _ _ => rfl⟩
  refine ⟨ι', { dfs := S.dfs, sz := S.sz, tm := ?_, hp := { obj := ?_, inj := ?_, lt := ?_, xlt := S.hp.xlt }, fr := S.fr, wr := ?_, fx := ?_ }⟩
  · intro t' x hx
    rcases look_cons hx with ⟨rfl, rfl⟩ | ⟨_, hx⟩
    · obtain ⟨u, hu, hr⟩ := S.tm _ _ h
      simp only [RA, RT] at hr
      subst hr
      exact ⟨_, hu, by simp only [RA]; exact ⟨none, 0, rfl, Nat.le_refl _, Nat.zero_le _, .inl ⟨rfl, rfl⟩⟩⟩
    · obtain ⟨u, hu, hr⟩ := S.tm _ _ hx
      exact ⟨u, hu, RA.keep k _ hι x u (List.all_eq_true.1 hT _ (mem_of_look hx)) hr⟩
  · intro q o ho
    rcases look_cons ho with ⟨rfl, rfl⟩ | ⟨hne, ho⟩
    · exact .inl ⟨by simp [ι'], rfl⟩
    · have : ι' q = ι q := if_neg fun e => hne e.symm
      rw [this]
      exact RO.keep k _ hι o _ (fun _ _ => rfl) (hG' q o ho) (S.hp.obj q o ho)
  · intro q q' b hq hq' e1 e2
    by_cases h1 : q = l
    · subst h1; simp [ι'] at e1
    · by_cases h2 : q' = l
      · subst h2; simp [ι'] at e2
      · simp only [ι', if_neg h1] at e1
        simp only [ι', if_neg h2] at e2
        exact S.hp.inj q q' b ((dom q h1).1 hq) ((dom q' h2).1 hq') e1 e2
  · intro q b hq e1
    by_cases h1 : q = l
    · subst h1; simp [ι'] at e1
    · simp only [ι', if_neg h1] at e1
      exact S.hp.lt q b ((dom q h1).1 hq) e1
  · intro q b hq e1
    by_cases h1 : q = l
    · subst h1; simp [ι'] at e1
    · simp only [ι', if_neg h1] at e1
      exact S.wr q b ((dom q h1).1 hq) e1
  · intro q hq
    by_cases h1 : q = l
    · subst h1; simp [hq] at hF; 
    · simp only [ι', if_neg h1]; exact S.fx q hq

/-- A nil slice that is going to be appended to. -/
theorem AL.ghost {ops : Array Oper} {rest : List Oper} {Q : Exit → TS → GS → Prop} (t l : Nat) (e : TypeId) (sz : Nat) (h : look ts t = some (.tr (.val (.slice none 0 0)))) (hF : ds.fx.contains l = false) (hT : freshT l ts = true) (hG : freshG l G = true)
    (next : AL P n ds ops rest Q ((t, .own sz l 0 0) :: ts) ((l, .els e sz []) :: G)) : AL P n ds ops rest Q ts G := by
  intro E ι a w S
  obtain ⟨ι', S'⟩ := S.ghost t l e sz h hF hT hG
  exact next E ι' a w S'
theorem AW.ghost {c : Code} {Q : Exit → TS → GS → Prop} (t l : Nat) (e : TypeId) (sz : Nat) (h : look ts t = some (.tr (.val (.slice none 0 0)))) (hF : ds.fx.contains l = false) (hT : freshT l ts = true) (hG : freshG l G = true)
    (next : AW P n ds c Q ((t, .own sz l 0 0) :: ts) ((l, .els e sz []) :: G)) : AW P n ds c Q ts G := by
  intro E ι a w S
  obtain ⟨ι', S'⟩ := S.ghost t l e sz h hF hT hG
  exact next E ι' a w S'

theorem Mut_drop {l b : Nat} (S : Sat E n ds ι G ts a w) (h : ι l = some b) (hd : InDom G l) : ¬ Mut E.X ι (dropL l G) b := by
  rintro (hx | ⟨k, hk, e⟩)
  · exact (S.hp.lt l b hd h).2 hx
  · by_cases e1 : k = l
    · subst e1; obtain ⟨o, ho⟩ := hk; rw [look_dropL_same] at ho; cases ho
    · have hk' : InDom G k := by obtain ⟨o, ho⟩ := hk; rw [look_dropL_ne e1] at ho; exact ⟨o, ho⟩
      exact e1 (S.hp.inj k l b hk' hd e h)

theorem SubG_drop (l : Nat) : ∀ G : GS, ∀ p ∈ dropL l G, p.1 ≠ l ∧ p ∈ G
  | [], p, h => by simp [dropL] at h
  | q :: r, p, h => by
    by_cases e : q.1 = l
    · rw [dropL, e, beqN_self] at h
      have := SubG_drop l r p h
      exact ⟨this.1, List.mem_cons_of_mem _ this.2⟩
    · rw [dropL, beqN_false e] at h
      simp only [cond_false] at h
      rcases List.mem_cons.1 h with rfl | h
      · exact ⟨e, by simp⟩
      · have := SubG_drop l r p h
        exact ⟨this.1, List.mem_cons_of_mem _ this.2⟩
end
end Go.Ab
