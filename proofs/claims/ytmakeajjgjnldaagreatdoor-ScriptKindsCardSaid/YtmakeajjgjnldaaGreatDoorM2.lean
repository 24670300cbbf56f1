/- The abstract machine, texts 8 to 15: laws of its own over the model, with no program in sight. -/
import Derived.Test.YtmakeajjgjnldaaGreatDoorM1
import Derived.Laws.BytesArg
import Derived.Laws.MakeOwn
import Derived.Lib.AppendZerosOnto
import Derived.Lib.ConvBytes
import Derived.Maps.AppendAt
import Derived.Orders
set_option linter.unusedVariables false
set_option linter.unusedSimpArgs false
namespace Go.Ab
open Go

/-- Cells that name l are said nothing of any more. -/
def killA (l : Nat) (c : AV) : AV := bif noRef l c then c else .junk
def killO (l : Nat) : AObj → AObj
  | .row e cs => .row e (cs.map (killA l))
  | .map es => .map (es.map fun p => (p.1, killA l p.2))
  | .mapS es => .mapS (es.map fun p => (p.1, killA l p.2))
  | o => o
def killG (l : Nat) (G : GS) : GS := G.map fun p => (p.1, killO l p.2)

theorem look_killG {l k : Nat} : ∀ {G : GS}, look (killG l G) k = (look G k).map (killO l)
  | [] => rfl
  | p :: r => by
    show look ((p.1, killO l p.2) :: killG l r) k = _
    by_cases e : p.1 = k
    · subst e; rw [look_cons_same, look_cons_same]; rfl
    · rw [look_cons_ne _ _ e, show look (p :: r) k = look r k from look_cons_ne _ _ e]; exact look_killG
theorem InDom_killG {l k : Nat} {G : GS} : InDom (killG l G) k ↔ InDom G k := by
  unfold InDom; rw [look_killG]; cases look G k <;> simp
theorem Mut_killG {X : BSet} {ι : LMap} {G : GS} {l : Nat} : Mut X ι (killG l G) = Mut X ι G := by
  funext b; unfold Mut; simp only [InDom_killG]
theorem RA_killA {M : BSet} {ι : LMap} {w : World} {l : Nat} {c : AV} {u : Value} (h : RA M ι w c u) : RA M ι w (killA l c) u := by
  unfold killA; cases noRef l c with
  | true => exact h
  | false => simp [RA]
theorem noRef_killA (l : Nat) (c : AV) : noRef l (killA l c) = true := by
  unfold killA; cases h : noRef l c with
  | true => exact h
  | false => rfl
theorem RAs_killA {M : BSet} {ι : LMap} {w : World} {l : Nat} : ∀ {cs : List AV} {us : List Value}, RAs M ι w cs us → RAs M ι w (cs.map (killA l)) us
  | [], us, h => h
  | c :: cs, us, h => by
    simp only [RAs] at h
    obtain ⟨u, us', rfl, h1, h2⟩ := h
    simp only [List.map_cons, RAs]
    exact ⟨u, us', rfl, RA_killA h1, RAs_killA h2⟩
theorem REnts_killA {M : BSet} {ι : LMap} {w : World} {l : Nat} : ∀ {es : List (Value × AV)} {arr : List MapEntry}, REnts M ι w es arr → REnts M ι w (es.map fun p => (p.1, killA l p.2)) arr
  | [], arr, h => h
  | p :: es, arr, h => by
    simp only [REnts, List.map_cons] at h ⊢
    obtain ⟨e, r, rfl, h1, h2, h3⟩ := h
    exact ⟨e, r, rfl, h1, RA_killA h2, REnts_killA h3⟩
theorem RO_killO {M : BSet} {ι : LMap} {w : World} {l : Nat} {o : AObj} {b : Option Nat} (h : RO M ι w o b) : RO M ι w (killO l o) b := by
  cases o with
  | row e cs =>
    rcases h with ⟨h1, h2⟩ | ⟨b', arr, us, h1, h2, h3, h4⟩
    · subst h2; exact .inl ⟨h1, rfl⟩
    · exact .inr ⟨b', arr, us, h1, h2, RAs_killA h3, h4⟩
  | els e sz xs => exact h
  | map es => obtain ⟨b', arr, c, h1, h2, h3, h4⟩ := h; exact ⟨b', arr, c, h1, h2, REnts_killA h3, h4⟩
  | mapT es => exact h
  | mapS es => obtain ⟨es', hp, b', arr, c, h1, h2, h3, h4⟩ := h; exact ⟨_, hp.map _, b', arr, c, h1, h2, REnts_killA h3, h4⟩
  | cst q ob => exact h
theorem noRefO_killO (l : Nat) (o : AObj) : noRefO l (killO l o) = true := by
  have h : ∀ cs : List AV, allRefs (fun k => !(Nat.beq k l)) (cs.map (killA l)) = true := by
    intro cs
    induction cs with
    | nil => rfl
    | cons c cs ih => simp only [List.map_cons, allRefs, Bool.and_eq_true]; exact ⟨noRef_killA l c, ih⟩
  cases o with
  | row e cs => exact h cs
  | els e sz xs => rfl
  | map es =>
    show (List.all (es.map fun p => (p.1, killA l p.2)) fun p => allRef _ p.2) = true
    rw [List.all_eq_true]
    intro p hp
    obtain ⟨q, hq, rfl⟩ := List.mem_map.1 hp
    exact noRef_killA l q.2
  | mapT es => rfl
  | mapS es =>
    show (List.all (es.map fun p => (p.1, killA l p.2)) fun p => allRef _ p.2) = true
    rw [List.all_eq_true]
    intro p hp
    obtain ⟨q, hq, rfl⟩ := List.mem_map.1 hp
    exact noRef_killA l q.2
  | cst q ob => rfl

section
variable {P : Program} {n : Nat} {ds : Fx} {E : Env} {ι : LMap} {G : GS} {ts : TS} {a : Act} {w w' : World} {ty : TypeId} {pos : String} {after : Array Edge} {gd : Option (Nat × Bool)} {dst : Option Tmp}

theorem Sat.killG (S : Sat E n ds ι G ts a w) (l : Nat) : Sat E n ds ι (killG l G) ts a w where
  dfs := S.dfs
  sz := S.sz
  tm := fun t x hx => by rw [Mut_killG]; exact S.tm t x hx
  hp := { obj := fun k o ho => by
            rw [Mut_killG]
            rw [look_killG] at ho
            cases hg : look G k with
            | none => rw [hg] at ho; cases ho
            | some q => rw [hg] at ho; injection ho with ho; subst ho; exact RO_killO (S.hp.obj k q hg)
          inj := fun k k' b h h' => S.hp.inj k k' b (InDom_killG.1 h) (InDom_killG.1 h')
          lt := fun k b h => S.hp.lt k b (InDom_killG.1 h)
          xlt := S.hp.xlt }
  fr := S.fr
  wr := fun k b h => S.wr k b (InDom_killG.1 h)
  fx := S.fx

/-- Another word for the object of a label. -/
theorem Sat.reO (S : Sat E n ds ι G ts a w) {l : Nat} {o : AObj} (hd : InDom G l) (ho : RO (Mut E.X ι G) ι w o (ι l)) : Sat E n ds ι ((l, o) :: dropL l G) ts a w := by
  have dom : ∀ k, InDom ((l, o) :: dropL l G) k ↔ InDom G k := by
    intro k
    unfold InDom
    by_cases h : k = l
    · subst h; rw [look_cons_same]; exact ⟨fun _ => hd, fun _ => ⟨_, rfl⟩⟩
    · rw [show look ((l, o) :: dropL l G) k = look G k from (look_cons_ne _ _ (fun e => h e.symm)).trans (look_dropL_ne h)]
  have hm : Mut E.X ι ((l, o) :: dropL l G) = Mut E.X ι G := by funext b; unfold Mut; simp only [dom]
  exact { dfs := S.dfs, sz := S.sz, tm := fun t x hx => by rw [hm]; exact S.tm t x hx
          hp := { obj := fun k q hq => by
                    rw [hm]
                    by_cases h : k = l
                    · subst h; rw [look_cons_same] at hq; injection hq with hq; subst hq; exact ho
                    · rw [show look ((l, o) :: dropL l G) k = look G k from (look_cons_ne _ _ (fun e => h e.symm)).trans (look_dropL_ne h)] at hq
                      exact S.hp.obj k q hq
                  inj := fun k k' b h h' => S.hp.inj k k' b ((dom k).1 h) ((dom k').1 h')
                  lt := fun k b h => S.hp.lt k b ((dom k).1 h)
                  xlt := S.hp.xlt }
          fr := S.fr, wr := fun k b h => S.wr k b ((dom k).1 h), fx := S.fx }

structure TyB (P : Program) (t : TypeId) (b : Nat) : Prop where
  out : (P.info? t).map (·.bytes) = some b

theorem TyB.get {t : TypeId} {d : TypeDesc} {sz b : Nat} {z : Value} (he : TyIs P t d sz) (hz : TyZ P t z) (hb : TyB P t b) : ∃ i, P.info? t = some i ∧ i.size = sz ∧ i.zero = some z ∧ i.bytes = b := by
  obtain ⟨i, h1, h2⟩ := he.info
  refine ⟨i, h1, h2, ?_, ?_⟩
  · have := hz.zero; rw [h1] at this; simpa using this
  · have := hb.out; rw [h1] at this; simpa using this

/-- A new row under a label that nothing names. -/
theorem Sat.newEls (S : Sat E n ds ι G ts a w) {l : Nat} {e : TypeId} {sz : Nat} {xs : List Tr} {vs more : List Value} (hT : ∀ p ∈ ts, noRef l p.2 = true) (hG : ∀ k q, k ≠ l → look G k = some q → noRefO l q = true) (hF : ds.fx.contains l = false)
    (hos : w'.os = w.os) (ht : w'.tape = w.tape) (ho : w'.output = w.output) (hs : w'.heap.size = w.heap.size + 1) (hold : ∀ b, b < w.heap.size → w'.heap[b]? = w.heap[b]?) (hat : w'.heap[w.heap.size]? = some (.cells (vs ++ more).toArray e (0, 0)))
    (hr : RTe (Mut E.X ι G) w sz xs vs) (h1 : ∀ u ∈ vs ++ more, u.oneCell' = true) :
    Sat E n ds (fun k => if k = l then some w.heap.size else ι k) ((l, .els e sz xs) :: dropL l G) ts a w' :=
  S.turn l w.heap.size (.els e sz xs) hos ht ho (by omega) (fun b hb _ => hold b hb) (fun b hb => cellsIn_of (hold b hb)) (by omega) (.inr (Nat.le_refl _)) (fun h => absurd h (by simpa using hF))
    (fun p hp => .inr (hT p hp)) (fun k q hk hq => .inr (hG k q hk hq)) (fun k => .inr ⟨w.heap.size, vs, more, rfl, hat, RTe.keep k sz xs vs hr, h1⟩)
/-- A row that is turned in its place. -/
theorem Sat.turnEls (S : Sat E n ds ι G ts a w) {l b : Nat} {e : TypeId} {sz : Nat} {xs : List Tr} {vs more : List Value} (hd : InDom G l) (hb : ι l = some b)
    (hos : w'.os = w.os) (ht : w'.tape = w.tape) (ho : w'.output = w.output) (hs : w'.heap.size = w.heap.size) (hold : ∀ i, i ≠ b → w'.heap[i]? = w.heap[i]?) (hc : cellsIn w' b = cellsIn w b) (hat : w'.heap[b]? = some (.cells (vs ++ more).toArray e (0, 0)))
    (hr : RTe (Mut E.X ι G) w sz xs vs) (h1 : ∀ u ∈ vs ++ more, u.oneCell' = true) :
    Sat E n ds ι ((l, .els e sz xs) :: dropL l G) ts a w' := by
  have eι : (fun k => if k = l then some b else ι k) = ι := by
    funext q
    by_cases hq : q = l
    · subst hq; simp [hb]
    · simp [hq]
  have := S.turn (w' := w') l b (.els e sz xs) hos ht ho (by omega) (fun i hi hne => hold i (fun e => hne hd (by rw [e]; exact hb)))
    (fun i hi => by
      by_cases e : i = b
      · subst e; exact hc
      · exact cellsIn_of (hold i e))
    (by have := (S.hp.lt l b hd hb).1; omega) (.inl ⟨hd, hb⟩) (fun _ => hb) (fun _ _ => .inl hb) (fun _ _ _ _ => .inl hb)
    (fun k => by
      rw [eι] at k ⊢
      exact .inr ⟨b, vs, more, hb ▸ rfl, hat, RTe.keep k sz xs vs hr, h1⟩)
  rwa [eι] at this

theorem madeCells_flat (z : Array Value) : ∀ n : Nat, (madeCells z (n * z.size)).toList = (List.replicate n z.toList).flatten
  | 0 => by simp [madeCells]
  | n + 1 => by
    have ih := madeCells_flat z n
    rw [List.replicate_succ', List.flatten_append, ← ih]
    by_cases hz : z.size = 0
    · have : z = #[] := Array.eq_empty_of_size_eq_zero hz
      subst this; simp [madeCells]
    apply List.ext_getElem?
    intro i
    rw [List.getElem?_append]
    simp only [madeCells, Array.toList_map, Array.toList_range, List.getElem?_map, List.length_map, List.length_range, List.flatten_cons, List.flatten_nil, List.append_nil]
    by_cases h1 : i < n * z.size
    · rw [if_pos h1, List.getElem?_range h1, List.getElem?_range (by rw [Nat.succ_mul]; omega)]
    · rw [if_neg h1]
      by_cases h2 : i < (n + 1) * z.size
      · rw [List.getElem?_range h2]
        have h3 : i - n * z.size < z.size := by rw [Nat.succ_mul] at h2; omega
        have h4 : i % z.size = i - n * z.size := by
          have : i = (i - n * z.size) + z.size * n := by rw [Nat.mul_comm z.size n]; omega
          have h5 := Nat.add_mul_mod_self_left (i - n * z.size) z.size n
          rw [← this] at h5
          rw [h5, Nat.mod_eq_of_lt h3]
        simp [h4, h3]
      · rw [List.getElem?_eq_none (by simp; omega), List.getElem?_eq_none (by rw [Nat.succ_mul] at h2; simp; omega)]
        rfl

theorem zeroCells_one {z : Array Value} (h : ∀ c ∈ z.toList, c.oneCell' = true) (n : Nat) : ∀ u ∈ (Builtin.zeroCells z n).toList, u.oneCell' = true := by
  intro u hu
  have : (Builtin.zeroCells z n).toList = (List.replicate n z.toList).flatten := madeCells_flat z n
  rw [this] at hu
  obtain ⟨l, hl, hu⟩ := List.mem_flatten.1 hu
  rw [List.eq_of_mem_replicate hl] at hu
  exact h u hu

/-! ### append -/
theorem E_append {x y : Operand} {st e : TypeId} {s1 sz by_ l m : Nat} {de : TypeDesc} {z : Value} {xs ys : List Tr} (ht : TyIs P st (.slice e) s1) (he : TyIs P e de sz) (hz : TyZ P e z) (hb : TyB P e by_)
    (hsz : (Nat.beq z.cells.size sz && Nat.ble 1 sz && z.cells.toList.all (·.oneCell')) = true) (hx : evA ts x = some (.own sz l 0 m)) (hy : evA ts y = some (.tr (.sl sz ys))) (hl : look G l = some (.els e sz xs)) (hF : ds.fx.contains l = false)
    (hm : m ≤ xs.length) (hbig : (m + ys.length) * by_ ≤ 140737488355328 ∧ m + ys.length ≤ 9223372036854775807) :
    Eff1 P ds ⟨dst, .call { callee := .builtin .append, args := #[x, y], argTypes := #[st, st] }, ty, pos, after, gd⟩ ts G (.own sz l 0 (m + ys.length)) (killT l ts) ((l, .els e sz (xs.take m ++ ys)) :: dropL l (killG l G)) :=
  fun {E n ι a w} S => by
    simp only [Bool.and_eq_true] at hsz
    have hz1 := Nat.eq_of_beq_eq_true hsz.1.1
    have hz2 := Nat.le_of_ble_eq_true hsz.1.2
    have hzo : ∀ c ∈ z.cells.toList, c.oneCell' = true := fun c hc => List.all_eq_true.1 hsz.2 c hc
    obtain ⟨i, hi1, hi2, hi3, hi4⟩ := TyB.get he hz hb
    have hrx := S.ev hx
    have hry := S.ev hy
    simp only [RA] at hrx
    simp only [RA, RT] at hry
    obtain ⟨A, cap, ex, hc1, hc2, hown⟩ := hrx
    obtain ⟨A2, cap2, vs, ey, ⟨y1, y2, y3, y4, y5⟩, hre⟩ := hry
    have S1 : Sat E n ds ι (killG l G) (killT l ts) a w := (S.kill l).killG l
    have hlk : look (killG l G) l = some (.els e sz xs) := by rw [look_killG, hl]; rfl
    have hdk : InDom (killG l G) l := ⟨_, hlk⟩
    have hmu : Mut E.X ι (killG l G) = Mut E.X ι G := Mut_killG
    have hobj := S.hp.obj l _ hl
    have htake : RO (Mut E.X ι G) ι w (.els e sz (xs.take m)) (ι l) := by
      rcases hobj with ⟨h1, h2⟩ | ⟨b', us, more, h1, h2, h3, h4⟩
      · left; subst h2; exact ⟨h1, by simp⟩
      · right
        refine ⟨b', us.take (m * sz), us.drop (m * sz) ++ more, h1, ?_, RTe.take m h3, fun u hu => h4 u (by rw [← List.append_assoc, List.take_append_drop] at hu; exact hu)⟩
        rw [← List.append_assoc, List.take_append_drop]; exact h2
    have hT0 : ∀ p ∈ killT l ts, ∀ q : Prop, q ∨ noRef l p.2 = true := fun p hp q => .inr (killT_noRef hp)
    have hG0 : ∀ k q, k ≠ l → look (killG l G) k = some q → noRefO l q = true := by
      intro k q _ hq
      rw [look_killG] at hq
      cases hg : look G k with
      | none => rw [hg] at hq; cases hq
      | some o => rw [hg] at hq; injection hq with hq; subst hq; exact noRefO_killO l o
    have hexec : ∀ v w1, (Builtin.append_ #[st, st] ty #[a.eval x, a.eval y]).run P w = .ok v w1 → (execOp a.eval ⟨dst, .call { callee := .builtin .append, args := #[x, y], argTypes := #[st, st] }, ty, pos, after, gd⟩).run P w = .ok (.value v) w1 := by
      intro v w1 h
      simp only [execOp, resolve, invoke, builtin, Sem.run_bind, Sem.run_pure, Result.andThen_ok, List.map_toArray, List.map_cons, List.map_nil, h]
    by_cases hny : ys.length = 0
    · have hys : ys = [] := List.eq_nil_of_length_eq_zero hny
      subst hys
      refine ⟨.slice A m cap, w, ι, hexec _ _ ?_, S1.reO hdk (by rw [hmu, List.append_nil]; exact htake), ?_⟩
      · rw [ex, ey]
        cases A <;> cases A2 <;> simp [Builtin.append_, run_underlying ht.und, sizeOf, typeInfo, hi1, Builtin.lenOf, Builtin.firstCells, loadCells, loadCellsFrom, hc1, storeCells]
      · simp only [RA]; exact ⟨A, cap, rfl, hc1, hc2, hown⟩
    · obtain ⟨ad, rfl, hm2, hlt2, hcell⟩ := y5 (by omega)
      have hvl : vs.length = ys.length * i.size := by rw [hi2]; exact y2
      have fin : ∀ (us0 : List Value) (nc : Nat) (w1 : World), us0.length = m * sz → RTe (Mut E.X ι G) w sz (xs.take m) us0 → (∀ u ∈ us0, u.oneCell' = true) → m + ys.length ≤ nc → nc ≤ maxLen →
          w1 = w.drew.alloc (.cells (us0.toArray ++ vs.toArray ++ Builtin.zeroCells z.cells (nc - (m + ys.length))) e) →
          (Builtin.append_ #[st, st] ty #[a.eval x, a.eval y]).run P w = .ok (.slice (some ⟨w.heap.size, 0, none⟩) (m + ys.length) nc) w1 →
          ∃ u w' ι', (execOp a.eval ⟨dst, .call { callee := .builtin .append, args := #[x, y], argTypes := #[st, st] }, ty, pos, after, gd⟩).run P w = .ok (.value u) w' ∧
            Sat E n ds ι' ((l, .els e sz (xs.take m ++ ys)) :: dropL l (Go.Ab.killG l G)) (killT l ts) a w' ∧ RA (Mut E.X ι' ((l, .els e sz (xs.take m ++ ys)) :: dropL l (Go.Ab.killG l G))) ι' w' (.own sz l 0 (m + ys.length)) u := by
        intro us0 nc w1 h1 h2 h3 h4 h5 hw1 hrun
        have e1 : us0.toArray ++ vs.toArray ++ Builtin.zeroCells z.cells (nc - (m + ys.length)) = ((us0 ++ vs) ++ (Builtin.zeroCells z.cells (nc - (m + ys.length))).toList).toArray := by apply Array.ext'; simp
        have hat : w1.heap[w.heap.size]? = some (.cells ((us0 ++ vs) ++ (Builtin.zeroCells z.cells (nc - (m + ys.length))).toList).toArray e (0, 0)) := by
          rw [hw1, e1]; exact heap_alloc_at w.drew _
        refine ⟨_, w1, _, hexec _ _ hrun, S1.newEls (w' := w1) (vs := us0 ++ vs) (more := (Builtin.zeroCells z.cells (nc - (m + ys.length))).toList) (fun p hp => killT_noRef hp) hG0 hF (by rw [hw1]; rfl) (by rw [hw1]; rfl) (by rw [hw1]; rfl) (by rw [hw1]; exact size_alloc w.drew _)
          (fun b hb => by rw [hw1]; exact heap_alloc_old w.drew _ b hb) hat (by rw [hmu]; exact RTe.append h2 hre) (fun u hu => by
            rcases List.mem_append.1 hu with hu | hu
            · exact (List.mem_append.1 hu).elim (h3 u) (y4 u)
            · exact zeroCells_one hzo _ u hu), ?_⟩
        simp only [RA]
        refine ⟨_, nc, rfl, h4, h5, .inr ⟨w.heap.size, by simp, rfl, by rw [hw1]; exact Nat.lt_of_lt_of_eq (Nat.lt_succ_self _) (size_alloc w.drew _).symm, ?_⟩⟩
        refine Nat.le_of_eq ?_
        simp only [cellsIn, hat]
        simp only [List.size_toArray, List.length_append, h1, Array.length_toList, size_zeroCells, hz1, y2, ← Nat.add_mul]
        rw [Nat.zero_add]
        congr 1; omega
      rcases hown with ⟨rfl, hcap⟩ | ⟨b, hbι, rfl, hblt, hcells⟩
      · have hm0 : m = 0 := by omega
        subst hm0
        subst hcap
        have hrun := run_append_nil (P := P) w st ty e i z ht.und hi1 hi3 ad ys.length cap2 vs hvl hcell (by omega) (by omega) (by rw [hi4]; have hq := hbig.1; rw [Nat.zero_add] at hq; omega)
        refine fin [] (grownCap w ys.length 0 e) (w.drew.alloc (.cells (([] : List Value).toArray ++ vs.toArray ++ Builtin.zeroCells z.cells (grownCap w ys.length 0 e - (0 + ys.length))) e)) (by simp) (by simp [RTe]) (by simp) ?_ ?_ ?_ ?_
        · rw [Nat.zero_add]; exact grownCap_ge w ys.length 0 e
        · exact grownCap_le_maxLen w ys.length 0 e (by simp only [maxLen]; omega)
        · rfl
        · rw [ex, ey, hrun, Nat.zero_add]; simp
      · obtain ⟨us, more, hh, hus, huM⟩ := S_elsM S hl hbι
        have huo : ∀ u ∈ us, u.oneCell' = true := fun u hu => huM u (List.mem_append_left _ hu)
        have hul := hus.length
        have hcs : cap * sz ≤ (us ++ more).length := by
          have := hcells; simp only [cellsIn, hh, List.size_toArray] at this; omega
        have hmz : m * sz ≤ us.length := by rw [hul]; exact Nat.mul_le_mul_right _ hm
        by_cases hroom : m + ys.length ≤ cap
        · have hfit : m * i.size + vs.length ≤ (us ++ more).toArray.size := by rw [hvl, ← Nat.add_mul, hi2, List.size_toArray]; exact Nat.le_trans (Nat.mul_le_mul_right _ hroom) hcs
          have hrun := run_append_room (P := P) w st ty e i ht.und hi1 b m cap (us ++ more).toArray hh ad ys.length cap2 vs hvl hcell y4 hroom hfit
          rw [hi2] at hrun hfit
          have ecur : (((us ++ more).toArray.toList.take (m * sz) ++ vs ++ (us ++ more).toArray.toList.drop (m * sz + vs.length))) = (us.take (m * sz) ++ vs) ++ (us ++ more).drop (m * sz + vs.length) := by
            simp only [List.toList_toArray]
            rw [List.take_append_of_le_length hmz]
          rw [ecur] at hrun
          have hat := setRow_heap w b (us ++ more).toArray ((us.take (m * sz) ++ vs) ++ (us ++ more).drop (m * sz + vs.length)).toArray e (0, 0) hh
          have hclen : ((us.take (m * sz) ++ vs) ++ (us ++ more).drop (m * sz + vs.length)).length = (us ++ more).length := by
            simp only [List.size_toArray] at hfit
            simp only [List.length_append, List.length_take, List.length_drop, Nat.min_eq_left hmz] at hfit ⊢
            omega
          have hci : cellsIn (w.setRow b ((us.take (m * sz) ++ vs) ++ (us ++ more).drop (m * sz + vs.length)).toArray) b = cellsIn w b := by
            simp only [cellsIn, hat, hh, List.size_toArray, hclen]
          have hsize : (w.setRow b ((us.take (m * sz) ++ vs) ++ (us ++ more).drop (m * sz + vs.length)).toArray).heap.size = w.heap.size := by simp [World.setRow]
          refine ⟨_, w.setRow b ((us.take (m * sz) ++ vs) ++ (us ++ more).drop (m * sz + vs.length)).toArray, ι, hexec _ _ (by rw [ex, ey]; exact hrun), S1.turnEls (vs := us.take (m * sz) ++ vs) (more := (us ++ more).drop (m * sz + vs.length)) hdk hbι rfl rfl rfl hsize (fun k hk => setRow_other w b k _ hk) hci hat ?_ ?_, ?_⟩
          · rw [hmu]; exact RTe.append (RTe.take m hus) hre
          · intro u hu
            rcases List.mem_append.1 hu with hu | hu
            · rcases List.mem_append.1 hu with hu | hu
              · exact huo u (List.mem_of_mem_take hu)
              · exact y4 u hu
            · exact huM u (List.mem_of_mem_drop hu)
          · simp only [RA]
            exact ⟨_, cap, rfl, hroom, hc2, .inr ⟨b, hbι, rfl, by rw [hsize]; exact hblt, by rw [hci]; exact hcells⟩⟩
        · have hrun := run_append_grow (P := P) w st ty e i z ht.und hi1 hi3 ⟨b, 0, none⟩ m cap (us.take (m * sz)) (by rw [hi2, List.length_take]; omega) (fun j v hv => by
              rw [add_at, Nat.zero_add, cell_of_heap hh]
              rw [List.getElem?_take] at hv
              split at hv
              · have := (List.getElem?_eq_some_iff.1 hv).1
                simp [List.getElem?_append_left this, hv]
              · cases hv) ad ys.length cap2 vs hvl hcell (by omega) (by omega) (by rw [hi4]; exact growslice_fits (by omega) hbig.1)
          refine fin (us.take (m * sz)) (grownCap w (m + ys.length) cap e) _ (by rw [List.length_take]; omega) (RTe.take m hus) (fun u hu => huo u (List.mem_of_mem_take hu)) (grownCap_ge w _ cap e) (grownCap_le_maxLen w _ cap e (by simp only [maxLen]; omega)) rfl ?_
          rw [ex, ey]; exact hrun
end
end Go.Ab

namespace Go.Ab
open Go

theorem setAll_eq {α : Type} : ∀ (vs us : List α) (off : Nat), off + vs.length ≤ us.length → setAll us off vs = us.take off ++ vs ++ us.drop (off + vs.length)
  | [], us, off, h => by simp [setAll]
  | v :: vs, us, off, h => by
    simp only [List.length_cons] at h
    rw [setAll, setAll_eq vs (us.set off v) (off + 1) (by simp; omega)]
    have h1 : (us.set off v).take (off + 1) = us.take off ++ [v] := by
      apply List.ext_getElem?
      intro i
      rw [List.getElem?_take, List.getElem?_set, List.getElem?_append]
      simp only [List.length_take, Nat.min_eq_left (show off ≤ us.length by omega)]
      by_cases e1 : i < off + 1
      · by_cases e2 : i < off
        · rw [if_pos e1, if_neg (by omega), if_pos e2, List.getElem?_take, if_pos e2]
        · have : i = off := by omega
          subst this
          rw [if_pos e1, if_pos rfl, if_neg e2, if_pos (by omega)]; simp
      · rw [if_neg e1, if_neg (by omega)]
        rw [List.getElem?_eq_none (by simp; omega)]
    have h2 : (us.set off v).drop (off + 1 + vs.length) = us.drop (off + (vs.length + 1)) := by
      rw [List.drop_set_of_lt (by omega)]
      congr 1; omega
    rw [h1, h2]; simp

theorem RTe.set {M : BSet} {w : World} {sz : Nat} {t : Tr} {u : Value} (hr : RT M w t u) (hc : u.cells.size = sz) : ∀ {xs : List Tr} {us : List Value} {j : Nat}, RTe M w sz xs us → j < xs.length →
    RTe M w sz (xs.set j t) (setAll us (j * sz) u.cells.toList)
  | [], us, j, h, hj => by simp at hj
  | x :: xs, us, 0, h, hj => by
    have hl := h.length
    simp only [RTe] at h
    obtain ⟨v, us', rfl, h1, h2, h3⟩ := h
    rw [Nat.zero_mul, setAll_eq _ _ _ (by simp [hc, h1])]
    simp only [List.set_cons_zero, RTe]
    refine ⟨u, us', ?_, hc, hr, h3⟩
    simp only [List.take_zero, List.nil_append, Nat.zero_add, Array.length_toList, hc]
    rw [List.drop_append_of_le_length (by simp [h1]), List.drop_of_length_le (by simp [h1])]; rfl
  | x :: xs, us, j + 1, h, hj => by
    have hl := h.length
    simp only [RTe] at h
    obtain ⟨v, us', rfl, h1, h2, h3⟩ := h
    have hj' : j < xs.length := by simpa using hj
    have hl' := h3.length
    have ih := RTe.set hr hc h3 hj'
    have hle : j * sz + sz ≤ us'.length := by rw [hl', ← Nat.succ_mul]; exact Nat.mul_le_mul_right _ hj'
    rw [setAll_eq _ _ _ (by simp [hc]; omega)] at ih
    rw [setAll_eq _ _ _ (by simp [hc, h1, Nat.succ_mul]; omega)]
    simp only [List.set_cons_succ, RTe]
    refine ⟨v, _, ?_, h1, h2, ih⟩
    have e1 : (j + 1) * sz = v.cells.toList.length + j * sz := by simp [h1, Nat.succ_mul]; omega
    rw [e1, List.take_append, List.take_of_length_le (by omega)]
    rw [show v.cells.toList.length + j * sz - v.cells.toList.length = j * sz by omega]
    rw [show v.cells.toList.length + j * sz + u.cells.toList.length = v.cells.toList.length + (j * sz + u.cells.toList.length) by omega]
    rw [List.drop_append, List.drop_of_length_le (by omega)]
    rw [show v.cells.toList.length + (j * sz + u.cells.toList.length) - v.cells.toList.length = j * sz + u.cells.toList.length by omega]
    simp

section
variable {P : Program} {n : Nat} {ds : Fx} {E : Env} {ι : LMap} {G : GS} {ts : TS} {a : Act} {w w' : World} {ty : TypeId} {pos : String} {after : Array Edge} {gd : Option (Nat × Bool)} {dst : Option Tmp}

/-! ### make -/
/-- The tree of a value without memory. -/
def valT : Value → Tr
  | .agg cs => .agg (cs.toList.map fun v => .val v)
  | v => .val v
theorem RT_valT {M : BSet} {w : World} (v : Value) : RT M w (valT v) v := by
  have h : ∀ us : List Value, RTs M w (us.map fun v => Tr.val v) us := by
    intro us
    induction us with
    | nil => simp [RTs]
    | cons u us ih => simp only [List.map_cons, RTs]; exact ⟨u, us, rfl, by simp [RT], ih⟩
  cases v with
  | agg cs => simp only [valT, RT]; exact ⟨cs.toList, by simp, h _⟩
  | _ => simp [valT, RT]

theorem RTe_replicate {M : BSet} {w : World} {sz : Nat} {t : Tr} {u : Value} (hr : RT M w t u) (hc : u.cells.size = sz) : ∀ n : Nat, RTe M w sz (List.replicate n t) (List.replicate n u.cells.toList).flatten
  | 0 => by simp [RTe]
  | n + 1 => by
    simp only [List.replicate_succ, List.flatten_cons, RTe]
    exact ⟨u, _, rfl, hc, hr, RTe_replicate hr hc n⟩

theorem E_make {x y : Operand} {st e : TypeId} {s1 sz by_ : Nat} {de : TypeDesc} {z : Value} {k k' : IntKind} {p : Int} (l : Nat) (ht : TyIs P st (.slice e) s1) (he : TyIs P e de sz) (hz : TyZ P e z) (hb : TyB P e by_)
    (hsz : (Nat.beq z.cells.size sz && z.cells.toList.all Value.oneCell') = true) (hx : evA ts x = some (vI k p)) (hy : evA ts y = some (vI k' p)) (hp : 0 ≤ p ∧ by_ * p ≤ 281474976710656 ∧ p ≤ 9223372036854775807)
    (hF : ds.fx.contains l = false) (hT : freshT l ts = true) (hG : freshG l G = true) :
    Eff1 P ds ⟨dst, .makeSlice st x y, ty, pos, after, gd⟩ ts G (.own sz l 0 p.toNat) ts ((l, .els e sz (List.replicate p.toNat (valT z))) :: G) :=
  fun {E n ι a w} S => by
    simp only [Bool.and_eq_true] at hsz
    have hz1 := Nat.eq_of_beq_eq_true hsz.1
    obtain ⟨i, hi1, hi2, hi3, hi4⟩ := TyB.get he hz hb
    have hrun := run_make (P := P) w st e i z ht.und hi1 hi3 k k' p p hp.1 (Int.le_refl _) (by rw [hi4]; exact hp.2.1) hp.2.2
    rw [hi2, ← hz1] at hrun
    have hcells : madeCells z.cells (p.toNat * z.cells.size) = (((List.replicate p.toNat z.cells.toList).flatten) ++ []).toArray := by
      apply Array.ext'; rw [madeCells_flat]; simp
    rw [hcells] at hrun
    refine ⟨.slice (some ⟨w.heap.size, 0, none⟩) p.toNat p.toNat, w.alloc (.cells (((List.replicate p.toNat z.cells.toList).flatten) ++ []).toArray e), _, ?_, S.born l _ _ hF hT hG (fun M' ι' kk hι => ?_), ?_⟩
    · simp only [execOp, S.evV hx, S.evV hy, Sem.run_bind, hrun, Result.andThen_ok, Sem.run_pure]
    · refine .inr ⟨w.heap.size, _, [], rfl, heap_alloc_at _ _, RTe_replicate (RT_valT z) hz1 p.toNat, fun u hu => ?_⟩
      rw [List.append_nil] at hu
      obtain ⟨q, hq, hu⟩ := List.mem_flatten.1 hu
      have := List.eq_of_mem_replicate hq
      subst this
      exact List.all_eq_true.1 hsz.2 u hu
    · simp only [RA]
      refine ⟨_, p.toNat, rfl, Nat.le_refl _, by simp only [maxLen]; omega, .inr ⟨w.heap.size, by simp, rfl, by rw [size_alloc]; omega, ?_⟩⟩
      refine Nat.le_of_eq ?_
      simp only [cellsIn, heap_alloc_at]
      simp [hz1]

/-! ### Elements -/
theorem P_indexOwn1 {x i : Operand} {st e : TypeId} {s1 l m : Nat} {de : TypeDesc} {k : IntKind} {j : Nat} (ht : TyIs P st (.slice e) s1) (he : TyIs P e de 1) (h : evA ts x = some (.own 1 l 0 m))
    (hi : evA ts i = some (vI k (j : Int))) (hj : j < m) : Pure1 P ⟨dst, .indexAddr st x i, ty, pos, after, gd⟩ ts G (.ptr l j) := by
  exact Pure1.cast (P_indexOwn ht he h hi hj) (by rw [Nat.zero_add, Nat.mul_one])
theorem P_indexOwn0 {x i : Operand} {st e : TypeId} {s1 sz l m : Nat} {de : TypeDesc} {k : IntKind} {j : Nat} (ht : TyIs P st (.slice e) s1) (he : TyIs P e de sz) (h : evA ts x = some (.own sz l 0 m))
    (hi : evA ts i = some (vI k (j : Int))) (hj : j < m) : Pure1 P ⟨dst, .indexAddr st x i, ty, pos, after, gd⟩ ts G (.ptr l (j * sz)) := by
  exact Pure1.cast (P_indexOwn ht he h hi hj) (by rw [Nat.zero_add])

theorem P_loadE {ty' : TypeId} {x : Operand} {l off : Nat} {e : TypeId} {sz : Nat} {xs : List Tr} {t v : Tr} {d : TypeDesc} {s2 : Nat} (j k : Nat) (ht : TyIs P ty' d s2) (hd : aggD d = false) (h : evA ts x = some (.ptr l off)) (hl : look G l = some (.els e sz xs))
    (ho : off = j * sz + k) (hk : k < sz) (hx : xs[j]? = some t) (hok : okTr t = true) (hv : t.cells[k]? = some v) : Pure1 P ⟨dst, .load ty' x, ty, pos, after, gd⟩ ts G (.tr v) :=
  fun {E n ds ι a w} S => by
    have hr := S.ev h
    simp only [RA] at hr
    obtain ⟨b, hb, ee⟩ := hr
    obtain ⟨us, more, h1, h2, h3⟩ := S_els S hl hb
    obtain ⟨u, hu1, hu2, hu3⟩ := h2.at j t hx
    have hrc := RT_cells hok hu1
    obtain ⟨q, hq, hqv⟩ := hrc.get k v hv
    refine ⟨q, ?_, by simpa only [RA] using hqv⟩
    have hcell : w.cell? ⟨b, off, none⟩ = some q := by
      rw [cell_of_heap h1, ho]
      rw [hu3, List.getElem?_take, if_pos hk, List.getElem?_drop] at hq
      have := (List.getElem?_eq_some_iff.1 hq).1
      simp [List.getElem?_append_left this, hq]
    simp [execOp, ee, Instr.loadAt, Instr.sureAddr, loadVar, ht.run_agg, hd, hcell]
theorem P_loadE1 {ty' : TypeId} {x : Operand} {l off : Nat} {e : TypeId} {xs : List Tr} {v : Tr} {d : TypeDesc} {s2 : Nat} (ht : TyIs P ty' d s2) (hd : aggD d = false) (h : evA ts x = some (.ptr l off)) (hl : look G l = some (.els e 1 xs))
    (hx : xs[off]? = some v) (hok : okTr v = true) (hv : v.cells = [v]) : Pure1 P ⟨dst, .load ty' x, ty, pos, after, gd⟩ ts G (.tr v) :=
  P_loadE off 0 ht hd h hl (by omega) (by omega) hx hok (by rw [hv]; rfl)
theorem P_loadEA {ty' : TypeId} {x : Operand} {l off : Nat} {e : TypeId} {sz : Nat} {xs : List Tr} {t : Tr} {d : TypeDesc} (j : Nat) (ht : TyIs P ty' d sz) (hd : aggD d = true) (h : evA ts x = some (.ptr l off)) (hl : look G l = some (.els e sz xs))
    (ho : off = j * sz) (hx : xs[j]? = some t) (hok : okTr t = true) : Pure1 P ⟨dst, .load ty' x, ty, pos, after, gd⟩ ts G (.tr (.agg t.cells)) :=
  fun {E n ds ι a w} S => by
    have hr := S.ev h
    simp only [RA] at hr
    obtain ⟨b, hb, ee⟩ := hr
    obtain ⟨us, more, h1, h2, h3⟩ := S_els S hl hb
    obtain ⟨u, hu1, hu2, hu3⟩ := h2.at j t hx
    have hrc := RT_cells hok hu1
    refine ⟨.agg u.cells, ?_, by simp only [RA, RT]; exact ⟨u.cells.toList, by simp, hrc⟩⟩
    have := run_loadCells_list (P := P) w ⟨b, off, none⟩ u.cells.toList (fun q v hv => by
      rw [add_at, cell_of_heap h1, ho]
      rw [hu3, List.getElem?_take] at hv
      split at hv
      · rw [List.getElem?_drop] at hv
        have := (List.getElem?_eq_some_iff.1 hv).1
        simp [List.getElem?_append_left this, hv]
      · cases hv)
    simp only [Array.length_toList, hu2] at this
    simp [execOp, ee, Instr.loadAt, Instr.sureAddr, loadVar, ht.run_agg, ht.run_size, hd, this]

/-- Cells of a row stored into. -/
theorem els_store (S : Sat E n ds ι G ts a w) {l b off : Nat} {e : TypeId} {sz : Nat} {xs xs' : List Tr} {us more vs : List Value} (hl : look G l = some (.els e sz xs)) (hb : ι l = some b) (hh : w.heap[b]? = some (.cells (us ++ more).toArray e (0, 0)))
    (hus : ∀ u ∈ us ++ more, u.oneCell' = true) (hvs : ∀ u ∈ vs, u.oneCell' = true) (hin : off + vs.length ≤ us.length) (hr : RTe (Mut E.X ι G) w sz xs' (setAll us off vs)) :
    (storeCells ⟨b, off, none⟩ vs).run P w = .ok () (w.setCells b off vs) ∧ Sat E n ds ι ((l, .els e sz xs') :: dropL l G) ts a (w.setCells b off vs) := by
  have hrun := run_storeCells_cells (P := P) b off vs 0 w (fun j hj => by
      rw [Nat.add_zero, cell_of_heap hh]
      have : off + j < us.length := by omega
      simp [List.getElem?_append_left this, List.getElem?_eq_getElem this]) (fun j hj => by simp [World.frozen?, hh]) hvs
  rw [Nat.add_zero] at hrun
  obtain ⟨q1, q2, q3, q4⟩ := setCells_same b vs off w
  have hA := setCells_heap b vs off w _ _ hh
  have hset : setAll (us ++ more) off vs = setAll us off vs ++ more := by
    rw [setAll_eq _ _ _ (by simp; omega), setAll_eq _ _ _ hin, List.take_append_of_le_length (by omega), List.drop_append_of_le_length (by omega)]; simp
  simp only [List.toList_toArray] at hA
  rw [hset] at hA
  refine ⟨hrun, S.turnEls (vs := setAll us off vs) (more := more) ⟨_, hl⟩ hb q1 q2 q3 q4 (fun i hi => setCells_other b _ _ _ i hi) ?_ hA hr ?_⟩
  · simp only [cellsIn, hA, hh, List.size_toArray, List.length_append, setAll_length]
  · intro u hu
    rw [setAll_eq _ _ _ hin] at hu
    rcases List.mem_append.1 hu with hu | hu
    · rcases List.mem_append.1 hu with hu | hu
      · rcases List.mem_append.1 hu with hu | hu
        · exact hus u (List.mem_append_left _ (List.mem_of_mem_take hu))
        · exact hvs u hu
      · exact hus u (List.mem_append_left _ (List.mem_of_mem_drop hu))
    · exact hus u (List.mem_append_right _ hu)

theorem E_storeE {t' : TypeId} {x y : Operand} {l off : Nat} {e : TypeId} {sz : Nat} {xs : List Tr} {v : Tr} {d : TypeDesc} (j : Nat) (ht : TyIs P t' d sz) (hx : evA ts x = some (.ptr l off)) (hv : evA ts y = some (.tr v)) (hok : okTr v = true)
    (hl : look G l = some (.els e sz xs)) (ho : off = j * sz) (hj : j < xs.length) (hsz : v.cells.length = sz) : Eff0 P ds ⟨dst, .store t' x y, ty, pos, after, gd⟩ ts G ts ((l, .els e sz (xs.set j v)) :: dropL l G) :=
  fun {E n ι a w} S => by
    have hr := S.ev hx
    simp only [RA] at hr
    obtain ⟨b, hb, ee⟩ := hr
    obtain ⟨us, more, h1, h2, h3⟩ := S_elsM S hl hb
    have hv' := S.ev hv
    obtain ⟨hc1, hc2⟩ := RA_cells (x := .tr v) hok hv'
    have hsize : (a.eval y).cells.size = sz := by
      have := cells_of_okTr hok (by simpa only [RA] using hv' : RT (Mut E.X ι G) w v (a.eval y)); omega
    have hul := h2.length
    have hin : j * sz + (a.eval y).cells.toList.length ≤ us.length := by
      rw [hul, Array.length_toList, hsize, ← Nat.succ_mul]; exact Nat.mul_le_mul_right _ hj
    obtain ⟨q1, q2⟩ := els_store (P := P) S (off := j * sz) (vs := (a.eval y).cells.toList) hl hb h1 h3 hc2 hin (RTe.set (by simpa only [RA] using hv') hsize h2 hj)
    refine ⟨_, ι, ?_, q2⟩
    subst ho
    simp [execOp, ee, Instr.storeAt, Instr.sureAddr, storeVar, ht.run_size, hsize, q1]
theorem E_storeE1 {t' : TypeId} {x y : Operand} {l off : Nat} {e : TypeId} {xs : List Tr} {v : Tr} {d : TypeDesc} (ht : TyIs P t' d 1) (hx : evA ts x = some (.ptr l off)) (hv : evA ts y = some (.tr v)) (hok : okTr v = true)
    (hl : look G l = some (.els e 1 xs)) (hj : off < xs.length) (hsz : v.cells.length = 1) : Eff0 P ds ⟨dst, .store t' x y, ty, pos, after, gd⟩ ts G ts ((l, .els e 1 (xs.set off v)) :: dropL l G) :=
  E_storeE off ht hx hv hok hl (Nat.mul_one _).symm hj hsz

/-! ### A row let go: it is data from now on -/
theorem Sat.letGo (S : Sat E n ds ι G ts a w) {t l off m j : Nat} {e : TypeId} {sz : Nat} {xs : List Tr} (h : look ts t = some (.own sz l off m)) (hl : look G l = some (.els e sz xs)) (ho : off = j * sz) (hz : 1 ≤ sz) (hF : ds.fx.contains l = false)
    (hm : j + m ≤ xs.length) : Sat E n ds ι (Go.Ab.killG l (dropL l G)) ((t, .tr (.sl sz ((xs.drop j).take m))) :: killT l ts) a w := by
  have S1 := (S.kill l).killG l
  have hd : InDom G l := ⟨_, hl⟩
  have dom : ∀ k, InDom (Go.Ab.killG l (dropL l G)) k → k ≠ l ∧ InDom G k := by
    intro k hk
    have hk := InDom_killG.1 hk
    have hne : k ≠ l := by rintro rfl; obtain ⟨o, ho⟩ := hk; rw [look_dropL_same] at ho; cases ho
    exact ⟨hne, by obtain ⟨o, ho⟩ := hk; rw [look_dropL_ne hne] at ho; exact ⟨o, ho⟩⟩
  have hsub : ∀ b, Mut E.X ι (Go.Ab.killG l (dropL l G)) b → Mut E.X ι G b := by
    rintro b (h | ⟨k, hk, e⟩)
    · exact .inl h
    · exact .inr ⟨k, (dom k hk).2, e⟩
  have k : Keep (Mut E.X ι G) (Mut E.X ι (Go.Ab.killG l (dropL l G))) w w := ⟨Nat.le_refl _, fun _ _ _ => rfl, fun b _ hb => hsub b hb, fun _ _ => rfl⟩
  refine { dfs := S.dfs, sz := S.sz, tm := ?_, hp := { obj := ?_, inj := ?_, lt := ?_, xlt := S.hp.xlt }, fr := S.fr, wr := ?_, fx := S.fx }
  · intro t' x hx
    rcases look_cons hx with ⟨rfl, rfl⟩ | ⟨_, hx⟩
    · obtain ⟨u, hu, hr⟩ := S.tm _ _ h
      refine ⟨u, hu, ?_⟩
      simp only [RA] at hr
      obtain ⟨A, cap, rfl, hc1, hc2, hown⟩ := hr
      simp only [RA, RT]
      have hlen : ((xs.drop j).take m).length = m := by simp; omega
      rcases hown with ⟨rfl, hcap⟩ | ⟨b, hbι, rfl, hblt, hcells⟩
      · have hm0 : m = 0 := by omega
        subst hm0
        refine ⟨none, cap, [], by simp, ⟨by simp, by simp, by simp, by simp, by simp⟩, by simp [RTe]⟩
      · obtain ⟨us, more, hh, hus, huo⟩ := S_els S hl hbι
        have hul := hus.length
        have hcut := RTe.take m (RTe.drop j hus)
        have hcl := hcut.length
        refine ⟨_, cap, (us.drop (j * sz)).take (m * sz), by rw [hlen], ⟨by rw [hlen]; exact hc1, hcut.length, by rw [hlen]; simp only [maxLen] at hc2; omega, fun u hu => huo u (List.mem_of_mem_drop (List.mem_of_mem_take hu)), fun _ => ⟨_, rfl, ?_, hblt, ?_⟩⟩, RTe.keep k _ _ _ hcut⟩
        · rintro (hx | ⟨q, hq, eq⟩)
          · exact (S.hp.lt l b hd hbι).2 hx
          · exact (dom q hq).1 (S.hp.inj q l b (dom q hq).2 hd eq hbι)
        · intro q u hu
          rw [add_at, cell_of_heap hh, ho]
          rw [List.getElem?_take] at hu
          split at hu
          · rw [List.getElem?_drop] at hu
            have := (List.getElem?_eq_some_iff.1 hu).1
            simp [List.getElem?_append_left this, hu]
          · cases hu
    · obtain ⟨u, hu, hr⟩ := S1.tm _ _ hx
      rw [Mut_killG] at hr
      exact ⟨u, hu, RA.keep0 k hr⟩
  · intro q o ho
    have hne := (dom q ⟨_, ho⟩).1
    rw [look_killG, look_dropL_ne hne] at ho
    cases hg : look G q with
    | none => rw [hg] at ho; cases ho
    | some o' =>
      rw [hg] at ho; injection ho with ho; subst ho
      exact RO.keep0 k (fun _ _ => rfl) (RO_killO (S.hp.obj q o' hg))
  · exact fun q q' b hq hq' => S.hp.inj q q' b (dom q hq).2 (dom q' hq').2
  · exact fun q b hq => S.hp.lt q b (dom q hq).2
  · exact fun q b hq => S.wr q b (dom q hq).2

theorem AL.letGo {ops : Array Oper} {rest : List Oper} {Q : Exit → TS → GS → Prop} {off m : Nat} {e : TypeId} {sz : Nat} {xs : List Tr} (t l j : Nat) (h : look ts t = some (.own sz l off m)) (hl : look G l = some (.els e sz xs)) (ho : off = j * sz) (hz : 1 ≤ sz) (hF : ds.fx.contains l = false)
    (hm : j + m ≤ xs.length) (next : AL P n ds ops rest Q ((t, .tr (.sl sz ((xs.drop j).take m))) :: killT l ts) (killG l (dropL l G))) : AL P n ds ops rest Q ts G :=
  fun E ι a w S => next E ι a w (S.letGo h hl ho hz hF hm)
theorem AW.letGo {c : Code} {Q : Exit → TS → GS → Prop} {off m : Nat} {e : TypeId} {sz : Nat} {xs : List Tr} (t l j : Nat) (h : look ts t = some (.own sz l off m)) (hl : look G l = some (.els e sz xs)) (ho : off = j * sz) (hz : 1 ≤ sz) (hF : ds.fx.contains l = false)
    (hm : j + m ≤ xs.length) (next : AW P n ds c Q ((t, .tr (.sl sz ((xs.drop j).take m))) :: killT l ts) (killG l (dropL l G))) : AW P n ds c Q ts G :=
  fun E ι a w S => next E ι a w (S.letGo h hl ho hz hF hm)
end
end Go.Ab

namespace Go.Ab
open Go

/-! ### Bytes as data -/
abbrev b8 (x : UInt8) : Tr := .val (.int .u8 (x.toNat : Int))
abbrev bs (l : List UInt8) : List Tr := l.map b8
abbrev sB (l : List UInt8) : AV := .tr (.sl 1 (bs l))
abbrev i8 (n : Int) : Tr := .val (.int .i64 n)
theorem bs_at {l : List UInt8} {j : Nat} (h : j < l.length) : (bs l)[j]? = some (b8 (l.getD j 0)) := by
  simp [bs, List.getElem?_eq_getElem h, List.getD, h]
theorem u8_lt (x : UInt8) : (x.toNat : Int) ≤ 255 := by have := x.toNat_lt; omega
theorem u8_nn (x : UInt8) : (0 : Int) ≤ (x.toNat : Int) := by omega
theorem bs_length (l : List UInt8) : (bs l).length = l.length := by simp [bs]
theorem RTe_one {α : Type} {M : BSet} {w : World} {f : α → Tr} {g : α → Value} (h : ∀ x, RT M w (f x) (g x) ∧ (g x).cells = #[g x]) : ∀ l : List α, RTe M w 1 (l.map f) (l.map g)
  | [] => by simp [RTe]
  | x :: l => by simp only [List.map_cons, RTe]; exact ⟨g x, _, by rw [(h x).2]; rfl, by rw [(h x).2]; rfl, (h x).1, RTe_one h l⟩
theorem RTe_vals {α : Type} {M : BSet} {w : World} {g : α → Value} : ∀ {l : List α} {us : List Value}, (∀ x, (g x).cells = #[g x]) → RTe M w 1 (l.map fun x => Tr.val (g x)) us → us = l.map g
  | [], us, h, r => by simpa [RTe] using r
  | x :: l, us, h, r => by
    simp only [List.map_cons, RTe, RT] at r
    obtain ⟨v, us', rfl, _, rfl, h3⟩ := r
    rw [h x, RTe_vals h h3]; rfl

/-- The bytes of a string as a list, and back. -/
def strL (l : List UInt8) : ByteArray := ⟨l.toArray⟩

section
variable {P : Program} {n : Nat} {ds : Fx} {E : Env} {ι : LMap} {G : GS} {ts : TS} {a : Act} {w w' : World} {ty : TypeId} {pos : String} {after : Array Edge} {gd : Option (Nat × Bool)} {dst : Option Tmp}

theorem E_convSB {x : Operand} {src dt e : TypeId} {u : TypeDesc} {s0 s1 s2 : Nat} {s : ByteArray} (hs : TyIs P src u s0) (hd : TyIs P dt (.slice e) s1) (he : TyIs P e (.int .u8) s2) (h : evA ts x = some (vS s)) (hl : s.size ≤ 9223372036854775807) :
    Mk1 P ⟨dst, .convert src dt x, ty, pos, after, gd⟩ ts G (sB s.data.toList) :=
  fun {E n ds ι a w} S => by
    have hrun := Lib.run_convert_string_bytes (P := P) w src dt e s hs.und hd.und he.und
    have S' : Sat E n ds ι G ts a (Lib.bytesWorld w e s) := S.grow (w' := Lib.bytesWorld w e s) (by simp [Lib.bytesWorld, World.freeze]; rfl) (by simp [Lib.bytesWorld, World.freeze]) (by simp [Lib.bytesWorld, World.freeze]; rfl) (by rw [Lib.bytesWorld_size]; omega) (fun b hb => Lib.bytesWorld_at_old w e s b hb)
    refine ⟨.slice (some ⟨w.heap.size, 0, none⟩) s.size (grownCap w s.size 0 e), _, ?_, S', ?_⟩
    · simp only [execOp, S.evV h, Sem.run_bind, hrun, Result.andThen_ok, Sem.run_pure]
    · simp only [RA, RT]
      have hlen : (bs s.data.toList).length = s.size := by show (s.data.toList.map b8).length = s.data.size; simp
      refine ⟨_, grownCap w s.size 0 e, s.data.toList.map fun x => Value.int .u8 (x.toNat : Int), by rw [hlen], ⟨by rw [hlen]; exact grownCap_ge w _ 0 e, by simp, by rw [hlen]; exact hl, ?_, fun _ => ⟨_, rfl, ?_, by simp only [Lib.bytesWorld_size]; omega, ?_⟩⟩, ?_⟩
      · intro q hq
        obtain ⟨z, _, rfl⟩ := List.mem_map.1 hq
        rfl
      · rintro (hx | ⟨l, hl, e1⟩)
        · have := S.hp.xlt _ hx; simp at this
        · have := (S.hp.lt l _ hl e1).1; simp at this
      · intro j q hq
        have hj : j < s.size := by have := (List.getElem?_eq_some_iff.1 hq).1; show j < s.data.size; simpa using this
        rw [add_at, Nat.zero_add, Lib.bytesWorld_cell w e s j hj]
        rw [List.getElem?_map] at hq
        cases hq2 : s.data.toList[j]? with
        | none => rw [hq2] at hq; cases hq
        | some z => rw [hq2] at hq; simp at hq; subst hq; simp [List.getD, hq2]
      · exact RTe_one (fun x => ⟨by simp [RT], rfl⟩) _

theorem strOfNums_bytes (l : List UInt8) : strOfNums (l.map fun x => (x.toNat : Int)) = strL l := by
  unfold strOfNums strL
  congr 1
  apply Array.ext'
  simp only [List.map_map, List.toList_toArray]
  conv => rhs; rw [← List.map_id l]
  apply List.map_congr_left
  intro x _
  simp

theorem P_convBS {x : Operand} {src dt e : TypeId} {s0 s1 s2 : Nat} {l : List UInt8} (hs : TyIs P src (.slice e) s0) (hd : TyIs P dt .string s1) (he : TyIs P e (.int .u8) s2) (h : evA ts x = some (sB l)) : Pure1 P ⟨dst, .convert src dt x, ty, pos, after, gd⟩ ts G (vS (strL l)) :=
  fun {E n ds ι a w} S => by
    have hr := S.ev h
    simp only [RA, RT] at hr
    obtain ⟨A, cap, us, ee, ⟨h1, h2, h3, _, h4⟩, hre⟩ := hr
    have hus := RTe_vals (g := fun x : UInt8 => Value.int .u8 (x.toNat : Int)) (fun _ => rfl) hre
    refine ⟨.string (strL l), ?_, by simp [RA, RT]⟩
    simp only [execOp, Sem.run_bind, ee]
    rw [run_convert_bytes_string w src dt e A _ cap hs.und he.und hd.und]
    cases A with
    | none =>
      have : l = [] := by
        cases l with
        | nil => rfl
        | cons y r => obtain ⟨ad, ea, _⟩ := h4 (by simp [bs]); cases ea
      subst this
      simp [Conv.bytesToString, strL]; rfl
    | some ad =>
      have hl : (loadCells ad (bs l).length).run P w = .ok ((l.map fun x => (x.toNat : Int)).map (Value.int .u8)).toArray w := by
        have := run_loadCells_list (P := P) w ad us (fun j v hj => by
          obtain ⟨ad', ea, _, _, hc⟩ := h4 (by have := (List.getElem?_eq_some_iff.1 hj).1; rw [hus] at this; simp [bs] at this ⊢; omega)
          injection ea with ea; subst ea; exact hc j v hj)
        rw [hus] at this
        simpa [bs, Function.comp_def] using this
      rw [run_bytesToString w ad _ cap _ hl, foldl_push_bytes]
      simp only [Result.andThen_ok, Sem.run_pure]
      rw [← strOfNums_bytes]
      simp [strOfNums, ByteArray.empty, ByteArray.emptyWithCapacity]
      rfl

/-! ### Bits of what is not negative -/
theorem ofInt_nat (k m : Nat) : BitVec.ofInt k (m : Int) = BitVec.ofNat k m := by
  apply BitVec.eq_of_toNat_eq; simp [BitVec.toNat_ofInt, BitVec.toNat_ofNat]
section
variable {x y : Operand} {tx tyy : TypeId} {k : IntKind} {p q : Nat}
theorem wrap_nat {k : IntKind} {m : Nat} (h : m < 2 ^ (k.bits - 1)) : k.wrap (m : Int) = m := by
  have hi := IntKind.wrap
  cases k <;> simp [IntKind.wrap, IntKind.bits, IntKind.signed] at h ⊢ <;> omega
theorem wrap_natU {k : IntKind} {m : Nat} (hk : k.signed = false) (h : m < 2 ^ k.bits) : k.wrap (m : Int) = m := by
  cases k <;> simp [IntKind.wrap, IntKind.bits, IntKind.signed] at h hk ⊢ <;> omega
theorem P_orU (hk : k.signed = false) (h : evA ts x = some (vI k (p : Int))) (h' : evA ts y = some (vI k (q : Int))) (hp : p < 2 ^ k.bits) (hq : q < 2 ^ k.bits) : Pure1 P ⟨dst, .binOp .or tx x y tyy, ty, pos, after, gd⟩ ts G (vI k ((p ||| q : Nat) : Int)) :=
  P_bits h h' (fun w => by
    simp only [Op.intBits, ofInt_nat, BitVec.toNat_or, BitVec.toNat_ofNat, Nat.mod_eq_of_lt hp, Nat.mod_eq_of_lt hq, Sem.run_pure]
    rw [wrap_natU hk (Nat.or_lt_two_pow hp hq)]) (.inr (.inl rfl))
theorem P_andU (hk : k.signed = false) (h : evA ts x = some (vI k (p : Int))) (h' : evA ts y = some (vI k (q : Int))) (hp : p < 2 ^ k.bits) (hq : q < 2 ^ k.bits) : Pure1 P ⟨dst, .binOp .and tx x y tyy, ty, pos, after, gd⟩ ts G (vI k ((p &&& q : Nat) : Int)) :=
  P_bits h h' (fun w => by
    simp only [Op.intBits, ofInt_nat, BitVec.toNat_and, BitVec.toNat_ofNat, Nat.mod_eq_of_lt hp, Nat.mod_eq_of_lt hq, Sem.run_pure]
    rw [wrap_natU hk (Nat.and_lt_two_pow _ hq)]) (.inl rfl)
end

/-! ### nil -/
theorem run_eql_slice_nil {t e : TypeId} {sz : Nat} (ht : TyIs P t (.slice e) sz) (A : Option Addr) (m c : Nat) (w : World) : (Op.equal t (.slice A m c) (.slice none 0 0)).run P w = .ok A.isNone w := by
  unfold Op.equal Op.maxDepth
  rw [Op.equalIn]
  rw [Sem.run_bind, ht.run_und]
  cases A <;> rfl
theorem run_guard_slice (op : BinOp) (tx : TypeId) (x y : Operand) (A B : Option Addr) (m c m' c' : Nat) (w : World) : (eqGuard op tx x y (.slice A m c) (.slice B m' c')).run P w = .ok () w := by
  unfold eqGuard
  split <;> rfl
/-- A slice of data held against nil: whether it is nil is not told; if it is, it is empty. -/
theorem AL_eqlNil {ops : Array Oper} {rest : List Oper} {Q : Exit → TS → GS → Prop} {x y : Operand} {tx tyy e : TypeId} {s1 sz : Nat} {xs : List Tr} {d : Tmp}
    (hg : wantB ops ts ⟨some d, .binOp .eql tx x y tyy, ty, pos, after, gd⟩ = some true) (hd : (⟨some d, .binOp .eql tx x y tyy, ty, pos, after, gd⟩ : Oper).dst = some d) (hn : d < n) (ht : TyIs P tx (.slice e) s1)
    (h : evA ts x = some (.tr (.sl sz xs))) (h' : evA ts y = some (.tr (.val (.slice none 0 0)))) (next : ∀ b : Bool, (b = true → xs = []) → AL P n ds ops rest Q ((d, vB b) :: ts) G) :
    AL P n ds ops (⟨some d, .binOp .eql tx x y tyy, ty, pos, after, gd⟩ :: rest) Q ts G := by
  intro E ι a w S
  have hr := S.ev h
  simp only [RA, RT] at hr
  obtain ⟨A, cap, us, ee, ⟨_, _, _, _, h4⟩, hre⟩ := hr
  refine wpList_step fun K hK => ?_
  rw [if_pos (S.want hg)]
  unfold Oper.wp
  have : (execOp a.eval ⟨some d, .binOp .eql tx x y tyy, ty, pos, after, gd⟩).run P w = .ok (.value (.bool A.isNone)) w := by
    simp only [execOp, ee, S.evV h', Sem.run_bind, run_guard_slice, Result.andThen_ok, binOp, run_eql_slice_nil ht, Sem.run_pure]
  rw [this, Oper.upon_value]
  refine hK _ _ (next A.isNone (fun hA => ?_) E ι _ w (S.put hn (by simp [RA, RT])))
  cases xs with
  | nil => rfl
  | cons y r => obtain ⟨ad, ea, _⟩ := h4 (by simp); subst ea; cases hA
/-- A row of one's own that is not empty is not nil. -/
theorem P_eqlNilO {x y : Operand} {tx tyy e : TypeId} {s1 sz l off m : Nat} (ht : TyIs P tx (.slice e) s1) (h : evA ts x = some (.own sz l off m)) (hm : 0 < m) (h' : evA ts y = some (.tr (.val (.slice none 0 0)))) : Pure1 P ⟨dst, .binOp .eql tx x y tyy, ty, pos, after, gd⟩ ts G (vB false) :=
  fun {E n ds ι a w} S => by
    have hr := S.ev h
    simp only [RA] at hr
    obtain ⟨A, cap, ee, h1, h2, h3⟩ := hr
    refine ⟨.bool false, ?_, by simp [RA, RT]⟩
    rcases h3 with ⟨_, h3⟩ | ⟨b, _, rfl, _⟩
    · omega
    · simp only [execOp, ee, S.evV h', Sem.run_bind, run_guard_slice, Result.andThen_ok, binOp, run_eql_slice_nil ht, Sem.run_pure]; rfl
theorem P_eqlNilN {x y : Operand} {tx tyy e : TypeId} {s1 : Nat} (ht : TyIs P tx (.slice e) s1) (h : evA ts x = some (.tr (.val (.slice none 0 0)))) (h' : evA ts y = some (.tr (.val (.slice none 0 0)))) : Pure1 P ⟨dst, .binOp .eql tx x y tyy, ty, pos, after, gd⟩ ts G (vB true) :=
  P_bin h h' fun w => by simp only [Sem.run_bind, run_guard_slice, Result.andThen_ok, binOp, run_eql_slice_nil ht, Sem.run_pure]; rfl
end
end Go.Ab

namespace Go.Ab
open Go

 mutual
/-- Data without memory. -/
def flatT : Tr → Bool
  | .val _ => true
  | .sl _ _ => false
  | .agg cs => flatTs cs
def flatTs : List Tr → Bool
  | [] => true
  | c :: cs => flatT c && flatTs cs
end
 mutual
def flatA : AV → Bool
  | .tr t => flatT t
  | .rp _ => false
  | .fn _ first cap => flatAs first && flatAs cap
  | .agg cs => flatAs cs
  | .tup xs => flatAs xs
  | _ => true
def flatAs : List AV → Bool
  | [] => true
  | c :: cs => flatA c && flatAs cs
end
def flatO : AObj → Bool
  | .row _ cs => flatAs cs
  | .els _ _ xs => flatTs xs
  | .map es => flatAs (es.map (·.2))
  | .mapT es => flatAs (es.map fun p => .tr p.2)
  | .mapS es => es.all fun q => flatA q.2
  | .cst _ _ => true
def flatG (G : GS) : Bool := G.all fun p => flatO p.2

 mutual
theorem RT.flat {M M' : BSet} {w : World} : ∀ (t : Tr) (u : Value), flatT t = true → RT M w t u → RT M' w t u
  | .val v, u, hf, h => by simpa [RT] using h
  | .agg cs, u, hf, h => by
    simp only [RT] at h ⊢
    obtain ⟨us, rfl, h⟩ := h
    exact ⟨us, rfl, RTs.flat cs us hf h⟩
  | .sl sz xs, u, hf, h => by cases hf
theorem RTs.flat {M M' : BSet} {w : World} : ∀ (ts : List Tr) (us : List Value), flatTs ts = true → RTs M w ts us → RTs M' w ts us
  | [], us, hf, h => by simpa [RTs] using h
  | c :: cs, us, hf, h => by
    simp only [RTs] at h ⊢
    simp only [flatTs, Bool.and_eq_true] at hf
    obtain ⟨u, us', rfl, h1, h2⟩ := h
    exact ⟨u, us', rfl, RT.flat c u hf.1 h1, RTs.flat cs us' hf.2 h2⟩
end
theorem RTe.flat {M M' : BSet} {w : World} {sz : Nat} : ∀ (ts : List Tr) (us : List Value), flatTs ts = true → RTe M w sz ts us → RTe M' w sz ts us
  | [], us, hf, h => by simpa [RTe] using h
  | c :: cs, us, hf, h => by
    simp only [RTe] at h ⊢
    simp only [flatTs, Bool.and_eq_true] at hf
    obtain ⟨v, us', rfl, h1, h2, h3⟩ := h
    exact ⟨v, us', rfl, h1, RT.flat c v hf.1 h2, RTe.flat cs us' hf.2 h3⟩
 mutual
theorem RA.flat {M M' : BSet} {ι : LMap} {w : World} : ∀ (x : AV) (u : Value), flatA x = true → RA M ι w x u → RA M' ι w x u
  | .tr t, u, hf, h => by simp only [RA] at h ⊢; exact RT.flat t u hf h
  | .own sz l off n, u, hf, h => by simpa only [RA] using h
  | .owq sz l off n lo hi, u, hf, h => by simpa only [RA] using h
  | .ptrN l off, u, hf, h => by simpa only [RA] using h
  | .ptr l off, u, hf, h => by simpa only [RA] using h
  | .rp cs, u, hf, h => by cases hf
  | .map l, u, hf, h => by simpa only [RA] using h
  | .fn f first cap, u, hf, h => by
    simp only [flatA, Bool.and_eq_true] at hf
    simp only [RA] at h ⊢
    obtain ⟨fs, cs, rfl, h1, h2⟩ := h
    exact ⟨fs, cs, rfl, RAs.flat first fs hf.1 h1, RAs.flat cap cs hf.2 h2⟩
  | .agg cs, u, hf, h => by
    simp only [RA] at h ⊢
    obtain ⟨us, rfl, h⟩ := h
    exact ⟨us, rfl, RAs.flat cs us hf h⟩
  | .tup xs, u, hf, h => by
    simp only [RA] at h ⊢
    obtain ⟨us, rfl, h⟩ := h
    exact ⟨us, rfl, RAs.flat xs us hf h⟩
  | .junk, u, hf, h => by simp [RA]
theorem RAs.flat {M M' : BSet} {ι : LMap} {w : World} : ∀ (xs : List AV) (us : List Value), flatAs xs = true → RAs M ι w xs us → RAs M' ι w xs us
  | [], us, hf, h => by simpa [RAs] using h
  | c :: cs, us, hf, h => by
    simp only [RAs] at h ⊢
    simp only [flatAs, Bool.and_eq_true] at hf
    obtain ⟨u, us', rfl, h1, h2⟩ := h
    exact ⟨u, us', rfl, RA.flat c u hf.1 h1, RAs.flat cs us' hf.2 h2⟩
end
theorem REnts.flat {M M' : BSet} {ι : LMap} {w : World} : ∀ {es : List (Value × AV)} {arr : List MapEntry}, flatAs (es.map (·.2)) = true → REnts M ι w es arr → REnts M' ι w es arr
  | [], arr, hf, h => h
  | p :: es, arr, hf, h => by
    simp only [REnts] at h ⊢
    simp only [List.map_cons, flatAs, Bool.and_eq_true] at hf
    obtain ⟨e, r, rfl, h1, h2, h3⟩ := h
    exact ⟨e, r, rfl, h1, RA.flat _ _ hf.1 h2, REnts.flat hf.2 h3⟩
theorem RO.flat {M M' : BSet} {ι : LMap} {w : World} {o : AObj} {b : Option Nat} (hf : flatO o = true) (h : RO M ι w o b) : RO M' ι w o b := by
  cases o with
  | row e cs =>
    rcases h with h | ⟨b', arr, us, h1, h2, h3, h4⟩
    · exact .inl h
    · exact .inr ⟨b', arr, us, h1, h2, RAs.flat _ _ hf h3, h4⟩
  | els e sz xs =>
    rcases h with h | ⟨b', us, more, h1, h2, h3, h4⟩
    · exact .inl h
    · exact .inr ⟨b', us, more, h1, h2, RTe.flat _ _ hf h3, h4⟩
  | map es => obtain ⟨b', arr, c, h1, h2, h3, h4⟩ := h; exact ⟨b', arr, c, h1, h2, REnts.flat hf h3, h4⟩
  | mapT es => obtain ⟨b', arr, c, h1, h2, h3, h4⟩ := h; exact ⟨b', arr, c, h1, h2, REnts.flat (by rw [List.map_map]; exact hf) h3, h4⟩
  | mapS es =>
    obtain ⟨es', hp, b', arr, c, h1, h2, h3, h4⟩ := h
    refine ⟨es', hp, b', arr, c, h1, h2, REnts.flat ?_ h3, h4⟩
    have key : ∀ l : List (Value × AV), (∀ q ∈ l, flatA q.2 = true) → flatAs (l.map (·.2)) = true := by
      intro l
      induction l with
      | nil => intro _; rfl
      | cons q l ih => intro h; simp only [List.map_cons, flatAs, Bool.and_eq_true]; exact ⟨h q (by simp), ih fun r hr => h r (by simp [hr])⟩
    exact key _ fun q hq => List.all_eq_true.1 hf q (hp.mem_iff.1 hq)
  | cst q ob => exact h

section
variable {P : Program} {n : Nat} {ds : Fx} {E : Env} {ι : LMap} {G : GS} {ts : TS} {a : Act} {w w' : World} {ty : TypeId} {pos : String} {after : Array Edge} {gd : Option (Nat × Bool)} {dst : Option Tmp}

/-- Rows of one's own as what they hold, for a call that reads them. -/
def lendA (G : GS) : AV → AV
  | .own sz l off m => match look G l with
    | some (.els _ sz' xs) => bif Nat.beq sz sz' && Nat.beq off 0 && Nat.ble m xs.length && Nat.ble 1 sz then .tr (.sl sz (xs.take m)) else .own sz l off m
    | _ => .own sz l off m
  | x => x
/-- The labels that are lent. -/
def lentL : AV → List Nat
  | .own _ l _ _ => [l]
  | _ => []
def lent (bl : List Nat) (ι : LMap) : BSet := fun b => ∃ l ∈ bl, ι l = some b

theorem HSat.less {X X' : BSet} {ι : LMap} {G : GS} {w : World} (H : HSat X ι G w) (h : ∀ b, X' b → X b) : HSat X' ι G w := by
  have hm : ∀ b, Mut X' ι G b → Mut X ι G b := fun b hb => hb.imp (h b) id
  have k : Keep (Mut X ι G) (Mut X' ι G) w w := ⟨Nat.le_refl _, fun _ _ _ => rfl, fun b _ hb => hm b hb, fun _ _ => rfl⟩
  exact { obj := fun l o ho => RO.keep0 k (fun _ _ => rfl) (H.obj l o ho), inj := H.inj, lt := fun l b hl e => ⟨(H.lt l b hl e).1, fun hx => (H.lt l b hl e).2 (h b hx)⟩, xlt := fun b hb => H.xlt b (h b hb) }

/-- Two calls' words: a contract where rows are lent. -/
theorem ACalls.lend {f : FuncId} {args args' : List AV} {G0 : GS} {B : List Nat} {R : AV → GS → Prop} (c : ACalls P f args' G0 B R) (S : Sat E n ds ι G ts a w) (hsub : SubG G0 G) (hfl : ∀ r G', R r G' → flatA r = true ∧ flatG G' = true)
    {vs : List Value} (hargs : RAs (Mut E.X ι G) ι w args vs) (hl : args' = args.map (lendA G)) (hdis : args.all (fun x => (lentL x).all fun l => !(look G0 l).isSome) = true) :
    CallsF P f vs.toArray w fun e w' => ∃ v r G' ι', e = .returned v ∧ R r G' ∧ HSat (fun b => E.X b ∨ LBlk ι (dropAll G0 G) b) ι' G' w' ∧ RA (Mut (fun b => E.X b ∨ LBlk ι (dropAll G0 G) b) ι' G') ι' w' r v ∧ Fr w (LBlk ι G0) w' ∧
      (∀ l b, InDom G' l → ι' l = some b → LBlk ι G0 b ∨ w.heap.size ≤ b) ∧ (∀ l, InDom G0 l → InDom G' l → l ∉ B → ι' l = ι l) ∧ (∀ l, ¬ InDom G' l → ι' l = ι l) := by
  have hsub' := S.hp.sub hsub
  let bl : List Nat := args.flatMap lentL
  have H1 : HSat (fun b => (E.X b ∨ LBlk ι (dropAll G0 G) b) ∧ ¬ lent bl ι b) ι G0 w := hsub'.less fun b hb => hb.1
  have hm : ∀ b, Mut (fun b => (E.X b ∨ LBlk ι (dropAll G0 G) b) ∧ ¬ lent bl ι b) ι G0 b → Mut E.X ι G b := by
    rintro b (⟨hx | ⟨l, hl, e⟩, _⟩ | ⟨l, hl, e⟩)
    · exact .inl hx
    · refine .inr ⟨l, ?_, e⟩
      obtain ⟨o, ho⟩ := hl
      rw [look_dropAll] at ho
      cases hc : (look G0 l).isSome with
      | true => rw [hc] at ho; cases ho
      | false => rw [hc] at ho; exact ⟨o, ho⟩
    · exact .inr ⟨l, hl.sub hsub, e⟩
  have k : Keep (Mut E.X ι G) (Mut (fun b => (E.X b ∨ LBlk ι (dropAll G0 G) b) ∧ ¬ lent bl ι b) ι G0) w w := ⟨Nat.le_refl _, fun _ _ _ => rfl, fun b _ hb => hm b hb, fun _ _ => rfl⟩
  have hone : ∀ (x : AV) (u : Value), (∀ l ∈ lentL x, l ∈ bl ∧ look G0 l = none) → RA (Mut E.X ι G) ι w x u → RA (Mut (fun b => (E.X b ∨ LBlk ι (dropAll G0 G) b) ∧ ¬ lent bl ι b) ι G0) ι w (lendA G x) u := by
    intro x u hx hr
    cases x with
    | own sz l off m =>
      simp only [lendA]
      split
      · rename_i e sz' xs hlk
        cases hb : (Nat.beq sz sz' && Nat.beq off 0 && Nat.ble m xs.length && Nat.ble 1 sz) with
        | false => simp only [hb, cond_false]; exact RA.keep0 k hr
        | true =>
          simp only [hb, cond_true]
          simp only [Bool.and_eq_true] at hb
          obtain ⟨⟨⟨b1, b2⟩, b3⟩, b4⟩ := hb
          have b1 := Nat.eq_of_beq_eq_true b1
          have b2 := Nat.eq_of_beq_eq_true b2
          have b3 := Nat.le_of_ble_eq_true b3
          subst b1 b2
          simp only [RA] at hr
          obtain ⟨A, cap, rfl, hc1, hc2, hown⟩ := hr
          simp only [RA, RT]
          have hlen : (xs.take m).length = m := by simp; omega
          rcases hown with ⟨rfl, hcap⟩ | ⟨b, hbι, rfl, hblt, hcells⟩
          · have hm0 : m = 0 := by omega
            subst hm0
            exact ⟨none, cap, [], by simp, ⟨by simp, by simp, by simp, by simp, by simp⟩, by simp [RTe]⟩
          · obtain ⟨us, more, hh, hus, huo⟩ := S_els S hlk hbι
            have hcut := RTe.take m hus
            refine ⟨_, cap, us.take (m * sz), by rw [hlen], ⟨by rw [hlen]; exact hc1, hcut.length, by rw [hlen]; simp only [maxLen] at hc2; omega, fun u hu => huo u (List.mem_of_mem_take hu), fun _ => ⟨_, rfl, ?_, hblt, ?_⟩⟩, RTe.keep k _ _ _ hcut⟩
            · rintro (hx2 | ⟨q, hq, eq⟩)
              · exact hx2.2 ⟨l, (hx l (by simp [lentL])).1, hbι⟩
              · have := S.hp.inj q l b (hq.sub hsub) ⟨_, hlk⟩ eq hbι
                subst this
                obtain ⟨o, ho⟩ := hq
                rw [(hx q (by simp [lentL])).2] at ho; cases ho
            · intro j u hu
              rw [add_at, cell_of_heap hh]
              rw [List.getElem?_take] at hu
              split at hu
              · have := (List.getElem?_eq_some_iff.1 hu).1
                simp [List.getElem?_append_left this, hu]
              · cases hu
      · exact RA.keep0 k hr
    | _ => exact RA.keep0 k hr
  have hall : ∀ (xs : List AV) (us : List Value), (∀ x ∈ xs, ∀ l ∈ lentL x, l ∈ bl ∧ look G0 l = none) → RAs (Mut E.X ι G) ι w xs us → RAs (Mut (fun b => (E.X b ∨ LBlk ι (dropAll G0 G) b) ∧ ¬ lent bl ι b) ι G0) ι w (xs.map (lendA G)) us := by
    intro xs
    induction xs with
    | nil => intro us _ h; simpa [RAs] using h
    | cons x xs ih =>
      intro us hx h
      simp only [RAs, List.map_cons] at h ⊢
      obtain ⟨u, us', rfl, h1, h2⟩ := h
      exact ⟨u, us', rfl, hone x u (hx x (by simp)) h1, ih us' (fun y hy => hx y (by simp [hy])) h2⟩
  have hc := c _ ι w vs H1 (hl ▸ hall args vs (fun x hx l hlx => ⟨List.mem_flatMap.2 ⟨x, hx, hlx⟩, by
    have := List.all_eq_true.1 (List.all_eq_true.1 hdis x hx) l hlx
    simpa using this⟩) hargs)
  refine hc.mono ?_
  rintro e w' ⟨v, r, G', ι', rfl, hR, H, hr, F, hnew, hfix, hout⟩
  obtain ⟨f1, f2⟩ := hfl r G' hR
  refine ⟨v, r, G', ι', rfl, hR, ?_, RA.flat _ _ f1 hr, F, hnew, hfix, hout⟩
  refine { obj := fun l o ho => RO.flat (List.all_eq_true.1 f2 _ (mem_of_look ho)) (H.obj l o ho), inj := H.inj, lt := fun l b hl e => ⟨(H.lt l b hl e).1, fun hx => ?_⟩, xlt := fun b hb => Nat.lt_of_lt_of_le (hsub'.xlt b hb) F.size }
  rcases hnew l b hl e with ⟨q, hq, eq⟩ | hge
  · exact (hsub'.lt q b hq eq).2 hx
  · have := hsub'.xlt b hx; omega

theorem AL.callB {ops : Array Oper} {rest : List Oper} {Q : Exit → TS → GS → Prop} {f : FuncId} {xs : Array Operand} {d : Tmp} {ats : Array TypeId}
    {args : List AV} {G0 : GS} {B : List Nat} {R : AV → GS → Prop} (c : ACalls P f args G0 B R) (fv : Operand) (args0 : List AV) (hg : wantB ops ts ⟨some d, .call { callee := .value fv, args := xs, argTypes := ats }, ty, pos, after, gd⟩ = some true) (hn : d < n)
    (hfv : evA ts fv = some (.fn f [] [])) (hargs : evs ts xs.toList = some args0) (hall : args = args0.map (lendA G)) (hdis : args0.all (fun x => (lentL x).all fun l => !(look G0 l).isSome) = true) (hsub : SubG G0 G)
    (hfl : ∀ r G', R r G' → flatA r = true ∧ flatG G' = true)
    (next : ∀ r G', R r G' → okNew B G0 G' (dropAll G0 G) ts = true ∧ notFx ds.fx B G0 G' = true ∧ AL P n ds ops rest Q ((d, r) :: ts) (G' ++ dropAll G0 G)) :
    AL P n ds ops (⟨some d, .call { callee := .value fv, args := xs, argTypes := ats }, ty, pos, after, gd⟩ :: rest) Q ts G := by
  intro E ι a w S
  refine wpList_step fun K hK => ?_
  rw [if_pos (S.want hg)]
  have hf := S.ev hfv
  simp only [RA] at hf
  obtain ⟨fs, cs, hfe, hf1, hf2⟩ := hf
  simp only [RAs] at hf1 hf2
  subst hf1 hf2
  have ha := S.evl hargs
  have hc := ACalls.lend c S hsub hfl ha hall hdis
  refine upon_callF (f := f) (vs := (xs.toList.map a.eval).toArray) ?_ (hc.mono ?_)
  · simp only [execOp, resolve, hfe, Deferred.ofValue, Sem.run_bind, Sem.run_pure, Result.andThen_ok, invoke]
    congr 2
    apply Array.ext'
    simp
  · rintro e w' ⟨v, r, G', ι', rfl, hR, H, hr, F, hnew, hfix, hout⟩
    obtain ⟨hok, hfx, hnext⟩ := next r G' hR
    obtain ⟨S', hmut⟩ := S.called hsub H F hnew hfix hout hok (fun l hl hd => by
      have := List.all_eq_true.1 hfx l hl
      simp only [Bool.or_eq_true, Bool.not_eq_true', Bool.and_eq_true] at this
      rcases this with h | h
      · rw [InDom_look.1 hd] at h; cases h
      · exact ⟨InDom_look.2 h.1, by simpa using h.2⟩)
    have k2 : Keep (Mut (fun b => E.X b ∨ LBlk ι (dropAll G0 G) b) ι' G') (Mut E.X ι' (G' ++ dropAll G0 G)) w' w' := ⟨Nat.le_refl _, fun _ _ _ => rfl, fun b _ hm => (hmut b).1 hm, fun _ _ => rfl⟩
    exact ⟨v, rfl, hK _ _ (hnext E ι' _ w' (S'.put hn (RA.keep0 k2 hr)))⟩

theorem E_litO {st e : TypeId} {s1 sz len : Nat} {de : TypeDesc} {z : Value} {parts : Array (Nat × Operand)} {xs : List Tr} (l : Nat) (ht : TyIs P st (.slice e) s1) (he : TyIs P e de sz) (hz : TyZ P e z) (hx : litA ts 0 parts.toList = some xs)
    (hok : (Nat.beq xs.length len && litOk sz xs && Nat.ble (len * sz) 16777216 && Nat.beq z.cells.size sz && Nat.ble 1 sz) = true) (hF : ds.fx.contains l = false) (hT : freshT l ts = true) (hG : freshG l G = true) :
    Eff1 P ds ⟨dst, .buildSlice st len parts, ty, pos, after, gd⟩ ts G (.own sz l 0 len) ts ((l, .els e sz xs) :: G) :=
  fun {E n ι a w} S => by
    simp only [Bool.and_eq_true] at hok
    obtain ⟨⟨⟨⟨h1, h2⟩, h3⟩, h4⟩, h5⟩ := hok
    have e1 := Nat.eq_of_beq_eq_true h1
    have e4 := Nat.eq_of_beq_eq_true h4
    have e3 := Nat.le_of_ble_eq_true h3
    have e5 := Nat.le_of_ble_eq_true h5
    obtain ⟨vs, q1, q2, q3⟩ := litA_spec S hx
    have hvs : ∀ v ∈ vs, v.cells.size = sz := by
      intro v hv
      obtain ⟨j, hj, rfl⟩ := List.getElem_of_mem hv
      have hjx : j < xs.length := by omega
      obtain ⟨v', e', hr⟩ := q3 j xs[j] (List.getElem?_eq_getElem hjx)
      rw [List.getElem?_eq_getElem hj] at e'
      injection e' with e'
      have := List.all_eq_true.1 h2 xs[j] (List.getElem_mem hjx)
      simp only [Bool.and_eq_true] at this
      rw [e', cells_of_okTr this.1 hr]
      exact Nat.eq_of_beq_eq_true this.2
    have hr := RTe_of q2 q3 hvs
    have hone : ∀ u ∈ vs.flatMap (·.cells.toList), u.oneCell' = true := by
      intro u hu
      obtain ⟨v, hv, hu⟩ := List.mem_flatMap.1 hu
      obtain ⟨j, hj, rfl⟩ := List.getElem_of_mem hv
      have hjx : j < xs.length := by omega
      obtain ⟨v', e', hr⟩ := q3 j xs[j] (List.getElem?_eq_getElem hjx)
      rw [List.getElem?_eq_getElem hj] at e'
      injection e' with e'
      have := List.all_eq_true.1 h2 xs[j] (List.getElem_mem hjx)
      simp only [Bool.and_eq_true] at this
      rw [e'] at hu
      exact (RA_cells (ι := ι) (x := .tr xs[j]) this.1 (by simpa only [RA] using hr)).2 u hu
    have hlen : len ≤ len * sz := Nat.le_mul_of_pos_right _ e5
    refine ⟨.slice (some ⟨w.heap.size, 0, none⟩) len len, w.alloc (.cells (vs.flatMap (fun v : Value => v.cells.toList) ++ []).toArray e), _, ?_, S.born l _ _ hF hT hG (fun M' ι' kk hι => .inr ⟨w.heap.size, _, [], rfl, heap_alloc_at _ _, RTe.keep kk _ _ _ hr, by rw [List.append_nil]; exact hone⟩), ?_⟩
    rotate_left
    · simp only [RA]
      refine ⟨_, len, rfl, Nat.le_refl _, by simp only [maxLen]; omega, .inr ⟨w.heap.size, by simp, rfl, by rw [size_alloc]; omega, ?_⟩⟩
      refine Nat.le_of_eq ?_
      simp only [cellsIn, heap_alloc_at]
      have := hr.length
      simp only [List.size_toArray, List.append_nil, this, e1, Nat.zero_add]
    have hp : ((parts.map fun (i, x) => (i, a.eval x)).toList) = (vs.zipIdx 0).map (fun q => (q.2, q.1)) := by simpa using q1
    have hinit : ∃ init : List Value, (Array.range (len * sz)).map (z.cells[· % z.cells.size]!) = init.toArray ∧ init.length = vs.length * sz := ⟨((Array.range (len * sz)).map (z.cells[· % z.cells.size]!)).toList, Array.toArray_toList.symm, by simp; rw [q2, e1]⟩
    obtain ⟨init, hi1, hi2⟩ := hinit
    have hfill := fill_seq sz vs 0 [] init (by simp) hi2 hvs
    simp only [List.nil_append] at hfill
    simp only [execOp, Instr.buildSlice, ht.run_und, he.run_size, Sem.run_bind, Result.andThen_ok, Sem.run_pure]
    rw [if_neg (by omega)]
    by_cases hz0 : len * sz = 0
    · have : vs = [] := by
        have : len = 0 := by rcases Nat.mul_eq_zero.1 hz0 with h | h <;> omega
        exact List.eq_nil_of_length_eq_zero (by omega)
      subst this
      have hinit0 : init = [] := List.eq_nil_of_length_eq_zero (by simpa using hi2)
      subst hinit0
      simp only [hz0, if_true, pure_bind]
      have hrange : (Array.range 0).map (fun x => (#[] : Array Value)[x % (#[] : Array Value).size]!) = #[] := by simp
      rw [hrange, hp]
      simp only [List.zipIdx_nil, List.map_nil, Instr.fill, newRow, run_newObj, Sem.run_bind, Result.andThen_ok, Sem.run_pure]
      have hx0 : xs.length = 0 := by simpa using q2.symm
      simp [← e1, hx0]
    · rw [if_neg hz0]
      simp only [Sem.run_bind, hz.run, Result.andThen_ok, Sem.run_pure]
      rw [hi1, hp, hfill]
      simp only [newRow, run_newObj, Sem.run_bind, Result.andThen_ok, Sem.run_pure, e1, List.append_nil]
      rfl
end
end Go.Ab

namespace Go.Ab
open Go
theorem SubT.cons' {n t : Nat} {x y : AV} {r ts : TS} (hn : t < n) (h : look ts t = some y) (e : y = x) (h' : SubT n r ts) : SubT n ((t, x) :: r) ts := SubT.cons hn (e ▸ h) h'
theorem SubG.cons' {l : Nat} {o p : AObj} {r G : GS} (h : look G l = some p) (e : p = o) (h' : SubG r G) : SubG ((l, o) :: r) G := SubG.cons (e ▸ h) h'
theorem vI_congr {k : IntKind} {a b : Int} (h : a = b) : vI k a = vI k b := h ▸ rfl
theorem vB_congr {a b : Bool} (h : a = b) : vB a = vB b := h ▸ rfl
theorem ac2 {R : AV → GS → Prop} {r r' : AV} {G : GS} (e : r = r') (h : R r' G) : R r G := e ▸ h
theorem wrap_u32N {x : Int} {m : Nat} (e : x = m) (h : m < 4294967296) : IntKind.u32.wrap x = m := by subst e; exact wrap_natU rfl h
theorem wrap_u64N {x : Int} {m : Nat} (e : x = m) (h : m < 18446744073709551616) : IntKind.u64.wrap x = m := by subst e; exact wrap_natU rfl h
theorem wrap_u8N {x : Int} {m : Nat} (e : x = m) (h : m < 256) : IntKind.u8.wrap x = m := by subst e; exact wrap_natU rfl h
section
variable {P : Program} {G : GS} {ts : TS} {ty : TypeId} {pos : String} {after : Array Edge} {gd : Option (Nat × Bool)} {dst : Option Tmp} {x y : Operand} {tx tyy : TypeId} {p q : Int}
theorem P_addU32 (h : evA ts x = some (vI .u32 p)) (h' : evA ts y = some (vI .u32 q)) (h0 : 0 ≤ p + q) (h1 : p + q ≤ 4294967295) : Pure1 P ⟨dst, .binOp .add tx x y tyy, ty, pos, after, gd⟩ ts G (vI .u32 (p + q)) :=
  Pure1.cast (P_add h h') (by rw [IntWalk.u32_in _ ⟨h0, h1⟩])
theorem P_addU64 (h : evA ts x = some (vI .u64 p)) (h' : evA ts y = some (vI .u64 q)) (h0 : 0 ≤ p + q) (h1 : p + q ≤ 18446744073709551615) : Pure1 P ⟨dst, .binOp .add tx x y tyy, ty, pos, after, gd⟩ ts G (vI .u64 (p + q)) :=
  Pure1.cast (P_add h h') (by rw [IntWalk.u64_in _ ⟨h0, h1⟩])
theorem P_shlN {k k' : IntKind} (h : evA ts x = some (vI k p)) (h' : evA ts y = some (vI k' q)) (j : Nat) (hj : q = (j : Int)) (hb : j < k.bits) (h0 : 0 ≤ p) (h1 : p * 2 ^ j < 2 ^ (k.bits - 1) ∨ (k.signed = false ∧ p * 2 ^ j < 2 ^ k.bits)) :
    Pure1 P ⟨dst, .binOp .shl tx x y tyy, ty, pos, after, gd⟩ ts G (vI k (p * 2 ^ j)) :=
  Pure1.cast (P_shl h h' (by omega)) (by
    have : min q.toNat k.bits = j := by subst hj; simp; omega
    rw [this]
    obtain ⟨m, rfl⟩ := Int.eq_ofNat_of_zero_le h0
    have e : ((m : Int) * 2 ^ j) = ((m * 2 ^ j : Nat) : Int) := by simp
    rw [e] at h1 ⊢
    rcases h1 with h1 | ⟨hs, h1⟩
    · rw [wrap_nat (by exact_mod_cast h1)]
    · rw [wrap_natU hs (by exact_mod_cast h1)])
theorem P_shlU32 {k' : IntKind} (h : evA ts x = some (vI .u32 p)) (h' : evA ts y = some (vI k' q)) (j : Nat) (hj : q = (j : Int)) (hb : j < 32) (h0 : 0 ≤ p) (h1 : p * 2 ^ j ≤ 4294967295) : Pure1 P ⟨dst, .binOp .shl tx x y tyy, ty, pos, after, gd⟩ ts G (vI .u32 (p * 2 ^ j)) :=
  P_shlN h h' j hj hb h0 (.inr ⟨rfl, by show p * 2 ^ j < 4294967296; omega⟩)
theorem P_shlU64 {k' : IntKind} (h : evA ts x = some (vI .u64 p)) (h' : evA ts y = some (vI k' q)) (j : Nat) (hj : q = (j : Int)) (hb : j < 64) (h0 : 0 ≤ p) (h1 : p * 2 ^ j ≤ 18446744073709551615) : Pure1 P ⟨dst, .binOp .shl tx x y tyy, ty, pos, after, gd⟩ ts G (vI .u64 (p * 2 ^ j)) :=
  P_shlN h h' j hj hb h0 (.inr ⟨rfl, by show p * 2 ^ j < 18446744073709551616; omega⟩)
theorem P_shlI64 {k' : IntKind} (h : evA ts x = some (vI .i64 p)) (h' : evA ts y = some (vI k' q)) (j : Nat) (hj : q = (j : Int)) (hb : j < 64) (h0 : 0 ≤ p) (h1 : p * 2 ^ j ≤ 9223372036854775807) : Pure1 P ⟨dst, .binOp .shl tx x y tyy, ty, pos, after, gd⟩ ts G (vI .i64 (p * 2 ^ j)) :=
  P_shlN h h' j hj hb h0 (.inl (by show p * 2 ^ j < 9223372036854775808; omega))
theorem P_orZ {k : IntKind} (hk : k.signed = false) (h : evA ts x = some (vI k p)) (h' : evA ts y = some (vI k q)) (h0 : 0 ≤ p ∧ p < 2 ^ k.bits) (h1 : 0 ≤ q ∧ q < 2 ^ k.bits) : Pure1 P ⟨dst, .binOp .or tx x y tyy, ty, pos, after, gd⟩ ts G (vI k ((p.toNat ||| q.toNat : Nat) : Int)) := by
  obtain ⟨m, rfl⟩ := Int.eq_ofNat_of_zero_le h0.1
  obtain ⟨l, rfl⟩ := Int.eq_ofNat_of_zero_le h1.1
  exact P_orU hk h h' (by exact_mod_cast h0.2) (by exact_mod_cast h1.2)
theorem P_orU32 (h : evA ts x = some (vI .u32 p)) (h' : evA ts y = some (vI .u32 q)) (h0 : 0 ≤ p ∧ p ≤ 4294967295) (h1 : 0 ≤ q ∧ q ≤ 4294967295) : Pure1 P ⟨dst, .binOp .or tx x y tyy, ty, pos, after, gd⟩ ts G (vI .u32 ((p.toNat ||| q.toNat : Nat) : Int)) :=
  P_orZ rfl h h' ⟨h0.1, by show p < 4294967296; omega⟩ ⟨h1.1, by show q < 4294967296; omega⟩
theorem P_orU64 (h : evA ts x = some (vI .u64 p)) (h' : evA ts y = some (vI .u64 q)) (h0 : 0 ≤ p ∧ p ≤ 18446744073709551615) (h1 : 0 ≤ q ∧ q ≤ 18446744073709551615) : Pure1 P ⟨dst, .binOp .or tx x y tyy, ty, pos, after, gd⟩ ts G (vI .u64 ((p.toNat ||| q.toNat : Nat) : Int)) :=
  P_orZ rfl h h' ⟨h0.1, by show p < 18446744073709551616; omega⟩ ⟨h1.1, by show q < 18446744073709551616; omega⟩
theorem P_orU8 {a b : UInt8} (h : evA ts x = some (.tr (b8 a))) (h' : evA ts y = some (.tr (b8 b))) : Pure1 P ⟨dst, .binOp .or tx x y tyy, ty, pos, after, gd⟩ ts G (.tr (b8 (a ||| b))) :=
  Pure1.cast (P_orU (k := .u8) (p := a.toNat) (q := b.toNat) rfl h h' a.toNat_lt b.toNat_lt) (by simp)
theorem P_andU8 {a b : UInt8} (h : evA ts x = some (.tr (b8 a))) (h' : evA ts y = some (.tr (b8 b))) : Pure1 P ⟨dst, .binOp .and tx x y tyy, ty, pos, after, gd⟩ ts G (.tr (b8 (a &&& b))) :=
  Pure1.cast (P_andU (k := .u8) (p := a.toNat) (q := b.toNat) rfl h h' a.toNat_lt b.toNat_lt) (by simp)
theorem P_andNotU8 {a b : UInt8} (h : evA ts x = some (.tr (b8 a))) (h' : evA ts y = some (.tr (b8 b))) : Pure1 P ⟨dst, .binOp .andNot tx x y tyy, ty, pos, after, gd⟩ ts G (.tr (b8 (a &&& ~~~b))) :=
  P_bits (k := .u8) h h' (fun w => by
    simp only [Op.intBits, ofInt_nat, Sem.run_pure]
    have : (BitVec.ofNat IntKind.u8.bits a.toNat &&& ~~~BitVec.ofNat IntKind.u8.bits b.toNat).toNat = (a &&& ~~~b).toNat := by
      show (BitVec.ofNat 8 a.toNat &&& ~~~BitVec.ofNat 8 b.toNat).toNat = (a &&& ~~~b).toNat
      have e1 : BitVec.ofNat 8 a.toNat = a.toBitVec := by simp
      have e2 : BitVec.ofNat 8 b.toNat = b.toBitVec := by simp
      rw [e1, e2]; rfl
    rw [this, wrap_natU rfl (UInt8.toNat_lt _)]) (.inr (.inr (.inr rfl)))
theorem P_neqU8 {a b : UInt8} (h : evA ts x = some (.tr (b8 a))) (h' : evA ts y = some (.tr (b8 b))) : Pure1 P ⟨dst, .binOp .neq tx x y tyy, ty, pos, after, gd⟩ ts G (vB (!decide (a = b))) :=
  Pure1.cast (P_neq h h') (by
    congr 3
    have : ((a.toNat : Int) = (b.toNat : Int)) ↔ a = b := by
      constructor
      · intro h; exact UInt8.toNat_inj.1 (by exact_mod_cast h)
      · intro h; rw [h]
    simp only [this])
theorem P_field {t : TypeId} {i : Nat} {fs : Array Field} {sz : Nat} {f : Field} {fd : TypeDesc} {fz : Nat} {cs : List Tr} {v : Tr} (hs : TyIs P t (.struct fs) sz) (hf : fs[i]? = some f) (hz : TyIs P f.type fd fz) (hd : aggD fd = false) (h : evA ts x = some (.tr (.agg cs))) (hv : cs[f.offset]? = some v) :
    Pure1 P ⟨dst, .field t x i, ty, pos, after, gd⟩ ts G (.tr v) :=
  fun {E n ds ι a w} S => by
    have hr := S.ev h
    simp only [RA, RT] at hr
    obtain ⟨us, ee, hr⟩ := hr
    obtain ⟨u, hu, hru⟩ := hr.get f.offset v hv
    refine ⟨u, ?_, by simpa only [RA] using hru⟩
    simp [execOp, ee, Instr.field, hs.run_und, hf, part, hz.run_agg, hd, hu, asAgg]
theorem P_indexArr {i : Operand} {t e : TypeId} {m s1 sz l off : Nat} {de : TypeDesc} {k : IntKind} {j : Nat} (ht : TyIs P t (.array m e) s1) (he : TyIs P e de sz) (h : evA ts x = some (.ptr l off)) (hi : evA ts i = some (vI k (j : Int))) (hj : j < m) :
    Pure1 P ⟨dst, .indexAddr t x i, ty, pos, after, gd⟩ ts G (.ptr l (off + j * sz)) :=
  fun {E n ds ι a w} S => by
    have hr := S.ev h
    simp only [RA] at hr
    obtain ⟨b, hb, ee⟩ := hr
    refine ⟨.pointer (some ⟨b, off + j * sz, none⟩), ?_, by simp only [RA]; exact ⟨b, hb, rfl⟩⟩
    have hel : P.elem t = e := by simp [Program.elem, ht.und]
    have hal : P.arrayLen t = m := by simp [Program.arrayLen, ht.und]
    have hu : P.underlying t = some (.array (P.arrayLen t) (P.elem t)) := by rw [hel, hal]; exact ht.und
    simp [execOp, ee, S.evV hi, run_indexAt_array _ _ _ _ _ hu, hel, hal, he.run_size, hj, add_at]
end
end Go.Ab

namespace Go.Ab
open Go

section
variable {P : Program} {n : Nat} {ds : Fx} {E : Env} {ι : LMap} {G : GS} {ts : TS} {a : Act} {w w' : World} {ty : TypeId} {pos : String} {after : Array Edge} {gd : Option (Nat × Bool)} {dst : Option Tmp}

/-! ### Slices of rows of one's own -/
theorem RA_cutO {M : BSet} {sz l off m : Nat} {A : Option Addr} {cap : Nat} (h1 : m ≤ cap) (h2 : cap ≤ maxLen) (h3 : (A = none ∧ cap = 0) ∨ ∃ b, ι l = some b ∧ A = some ⟨b, off, none⟩ ∧ b < w.heap.size ∧ off + cap * sz ≤ cellsIn w b)
    (L H : Nat) (hL : L < m ∨ L = 0) (hH : L ≤ H) (hm : H ≤ m) : RA M ι w (.own sz l (off + L * sz) (H - L)) (.slice (if cap = L then A else A.map (·.add (L * sz))) (H - L) (cap - L)) := by
  simp only [RA]
  refine ⟨_, cap - L, rfl, by omega, by omega, ?_⟩
  rcases h3 with ⟨rfl, hc⟩ | ⟨b, hb, rfl, hl, hc⟩
  · left; refine ⟨by simp, by omega⟩
  · right
    refine ⟨b, hb, ?_, hl, ?_⟩
    · by_cases e : cap = L
      · have : L = 0 := by omega
        subst this; simp [e]
      · rw [if_neg e]; simp [add_at]
    · rw [Nat.sub_mul]
      have : L * sz ≤ cap * sz := Nat.mul_le_mul_right _ (by omega)
      omega

section
variable {x lo hi : Operand} {st e : TypeId} {s1 sz l off m : Nat} {de : TypeDesc} {k k' : IntKind} {p q : Int}
theorem P_sliceOLH (ht : TyIs P st (.slice e) s1) (he : TyIs P e de sz) (h : evA ts x = some (.own sz l off m)) (hp : evA ts lo = some (vI k p)) (hq : evA ts hi = some (vI k' q)) (h0 : 0 ≤ p ∧ p ≤ q) (h1 : q ≤ m) (h2 : p < m ∨ p = 0) :
    Pure1 P ⟨dst, .slice st x (some lo) (some hi) none, ty, pos, after, gd⟩ ts G (.own sz l (off + p.toNat * sz) (q.toNat - p.toNat)) :=
  fun {E n ds ι a w} S => by
    have hr := S.ev h
    simp only [RA] at hr
    obtain ⟨A, cap, ee, c1, c2, c3⟩ := hr
    have hel : P.elem st = e := by simp [Program.elem, ht.und]
    have hu : P.underlying st = some (.slice (P.elem st)) := by rw [hel]; exact ht.und
    refine ⟨_, ?_, RA_cutO c1 c2 c3 p.toNat q.toNat (by omega) (by omega) (by omega)⟩
    simp only [execOp, ee, Option.map_none, Option.map_some, run_sliceAt_slice _ _ _ _ _ _ hu, Sem.run_bind, S.evV hp, S.evV hq]
    rw [run_slice_lh w st A m cap hu k k' p q h0.1 h0.2 (by omega), hel, he.run_size]
    rfl
theorem P_sliceOL (ht : TyIs P st (.slice e) s1) (he : TyIs P e de sz) (h : evA ts x = some (.own sz l off m)) (hp : evA ts lo = some (vI k p)) (h0 : 0 ≤ p ∧ p ≤ m) (h2 : p < m ∨ p = 0) :
    Pure1 P ⟨dst, .slice st x (some lo) none none, ty, pos, after, gd⟩ ts G (.own sz l (off + p.toNat * sz) (m - p.toNat)) :=
  fun {E n ds ι a w} S => by
    have hr := S.ev h
    simp only [RA] at hr
    obtain ⟨A, cap, ee, c1, c2, c3⟩ := hr
    have hel : P.elem st = e := by simp [Program.elem, ht.und]
    have hu : P.underlying st = some (.slice (P.elem st)) := by rw [hel]; exact ht.und
    refine ⟨_, ?_, RA_cutO c1 c2 c3 p.toNat m (by omega) (by omega) (by omega)⟩
    simp only [execOp, ee, Option.map_none, Option.map_some, run_sliceAt_slice _ _ _ _ _ _ hu, Sem.run_bind, S.evV hp]
    rw [run_slice_l w st A m cap hu k p h0.1 (by omega), hel, he.run_size]
    rfl
theorem P_sliceOH (ht : TyIs P st (.slice e) s1) (he : TyIs P e de sz) (h : evA ts x = some (.own sz l off m)) (hq : evA ts hi = some (vI k' q)) (h0 : 0 ≤ q ∧ q ≤ m) :
    Pure1 P ⟨dst, .slice st x none (some hi) none, ty, pos, after, gd⟩ ts G (.own sz l off q.toNat) :=
  fun {E n ds ι a w} S => by
    have hr := S.ev h
    simp only [RA] at hr
    obtain ⟨A, cap, ee, c1, c2, c3⟩ := hr
    have hel : P.elem st = e := by simp [Program.elem, ht.und]
    have hu : P.underlying st = some (.slice (P.elem st)) := by rw [hel]; exact ht.und
    have hR := RA_cutO (M := Mut E.X ι G) c1 c2 c3 0 q.toNat (.inr rfl) (by omega) (by omega)
    rw [Nat.zero_mul, Nat.add_zero, Nat.sub_zero] at hR
    refine ⟨_, ?_, hR⟩
    simp only [execOp, ee, Option.map_none, Option.map_some, run_sliceAt_slice _ _ _ _ _ _ hu, Sem.run_bind, S.evV hq]
    rw [run_slice_h w st A m cap hu k' q h0.1 (by omega), hel, he.run_size]
    simp [sliced]
/-- nil[:0] -/
theorem P_sliceNilH (ht : TyIs P st (.slice e) s1) (he : TyIs P e de sz) (h : evA ts x = some (.tr (.val (.slice none 0 0)))) (hq : evA ts hi = some (vI k' 0)) :
    Pure1 P ⟨dst, .slice st x none (some hi) none, ty, pos, after, gd⟩ ts G (.tr (.val (.slice none 0 0))) :=
  fun {E n ds ι a w} S => by
    have hel : P.elem st = e := by simp [Program.elem, ht.und]
    have hu : P.underlying st = some (.slice (P.elem st)) := by rw [hel]; exact ht.und
    refine ⟨.slice none 0 0, ?_, by simp [RA, RT]⟩
    simp only [execOp, S.evV h, Option.map_none, Option.map_some, run_sliceAt_slice _ _ _ _ _ _ hu, Sem.run_bind, S.evV hq]
    rw [run_slice_h w st none 0 0 hu k' 0 (by omega) (by omega), hel, he.run_size]
    simp [sliced]
theorem P_capNil (ht : TyIs P st (.slice e) s1) {A : Option Addr} {c c' : Nat} (h : evA ts x = some (.tr (.val (.slice A c c')))) : Pure1 P ⟨dst, .call { callee := .builtin .cap, args := #[x], argTypes := #[st] }, ty, pos, after, gd⟩ ts G (vI .i64 (c' : Int)) :=
  fun {E n ds ι a w} S => by
    have hel : P.elem st = e := by simp [Program.elem, ht.und]
    have hu : P.underlying st = some (.slice (P.elem st)) := by rw [hel]; exact ht.und
    refine ⟨.int .i64 c', ?_, by simp [RA, RT]⟩
    simp only [execOp, resolve, invoke, builtin, Sem.run_bind, Sem.run_pure, Result.andThen_ok, List.map_toArray, List.map_cons, List.map_nil, S.evV h, run_cap_slice w st ty A c c' hu, goInt]
end

theorem P_indexOwnS {x i : Operand} {st e : TypeId} {s1 l off m : Nat} {de : TypeDesc} {k : IntKind} {j : Nat} (ht : TyIs P st (.slice e) s1) (he : TyIs P e de 1) (h : evA ts x = some (.own 1 l off m))
    (hi : evA ts i = some (vI k (j : Int))) (hj : j < m) : Pure1 P ⟨dst, .indexAddr st x i, ty, pos, after, gd⟩ ts G (.ptr l (off + j)) := by
  exact Pure1.cast (P_indexOwn ht he h hi hj) (by rw [Nat.mul_one])
/-! ### append of zeros to nil -/
theorem zeroCells_flat (z : Array Value) (n : Nat) : Builtin.zeroCells z n = (List.replicate n z.toList).flatten.toArray := by
  apply Array.ext'; rw [List.toList_toArray]; exact madeCells_flat z n
theorem E_appendZ {x y : Operand} {st e tn : TypeId} {s1 s2 sz by_ : Nat} {de : TypeDesc} {z : Value} {k kn : IntKind} {p : Int} (l : Nat) (ht : TyIs P st (.slice e) s1) (htn : TyIs P tn (.int kn) s2) (he : TyIs P e de sz) (hz : TyZ P e z) (hb : TyB P e by_)
    (hsz : (Nat.beq z.cells.size sz && z.cells.toList.all Value.oneCell' && Nat.ble 1 sz) = true) (hx : evA ts x = some (.tr (.val (.slice none 0 0)))) (hy : evA ts y = some (vI k p)) (hp : 0 < p ∧ p * by_ ≤ 140737488355328 ∧ p ≤ 9223372036854775807)
    (hF : ds.fx.contains l = false) (hT : freshT l ts = true) (hG : freshG l G = true) :
    Eff1 P ds ⟨dst, .call { callee := .builtin .append, args := #[x, y], argTypes := #[st, tn] }, ty, pos, after, gd⟩ ts G (.own sz l 0 p.toNat) ts ((l, .els e sz (List.replicate p.toNat (valT z))) :: G) :=
  fun {E n ι a w} S => by
    simp only [Bool.and_eq_true] at hsz
    have hz1 := Nat.eq_of_beq_eq_true hsz.1.1
    have hz2 := Nat.le_of_ble_eq_true hsz.2
    obtain ⟨i, hi1, hi2, hi3, hi4⟩ := TyB.get he hz hb
    obtain ⟨m, rfl⟩ := Int.eq_ofNat_of_zero_le (show 0 ≤ p by omega)
    have hb1 : m * i.bytes ≤ 140737488355328 := by
      have h : ((m * by_ : Nat) : Int) ≤ 140737488355328 := by rw [Int.natCast_mul]; exact hp.2.1
      rw [hi4]; omega
    have hrun := Lib.run_append_grow_zeros (P := P) w st tn ty e i z k kn ht.und htn.und hi1 hi3 none 0 0 [] rfl m (by omega) (by omega) (by omega) (by omega) (by omega) (growslice_fits (by omega) (by rw [Nat.zero_add]; exact hb1))
    rw [Nat.zero_add] at hrun
    have e1 : ([] : List Value).toArray ++ Builtin.zeroCells z.cells m ++ Builtin.zeroCells z.cells (grownCap w m 0 e - m) = ((List.replicate m z.cells.toList).flatten ++ (List.replicate (grownCap w m 0 e - m) z.cells.toList).flatten).toArray := by
      rw [zeroCells_flat, zeroCells_flat]; apply Array.ext'; simp only [Array.toList_append, List.toList_toArray, List.nil_append]
    rw [e1] at hrun
    have hge := grownCap_ge w m 0 e
    have hle := grownCap_le_maxLen w m 0 e (by simp only [maxLen]; omega)
    have S' := S.grow (w' := w.drew) rfl rfl rfl (Nat.le_refl _) (fun _ _ => rfl)
    have kd : Keep (Mut E.X ι G) (Mut E.X ι G) w w.drew := S.keepGrow (Nat.le_refl _) (fun _ _ => rfl)
    refine ⟨.slice (some ⟨w.heap.size, 0, none⟩) m (grownCap w m 0 e), w.drew.alloc (.cells ((List.replicate m z.cells.toList).flatten ++ (List.replicate (grownCap w m 0 e - m) z.cells.toList).flatten).toArray e), _, ?_, S'.born l _ _ hF hT hG (fun M' ι' kk hι => ?_), ?_⟩
    · simp only [execOp, resolve, invoke, builtin, Sem.run_bind, Sem.run_pure, Result.andThen_ok, List.map_toArray, List.map_cons, List.map_nil, S.evV hx, S.evV hy, hrun]
    · refine .inr ⟨w.heap.size, _, _, rfl, heap_alloc_at w.drew _, RTe_replicate (RT_valT z) hz1 _, fun u hu => ?_⟩
      have key : ∀ q, u ∈ (List.replicate q z.cells.toList).flatten → u.oneCell' = true := fun q hu => by
        obtain ⟨q, hq, hu⟩ := List.mem_flatten.1 hu
        have := List.eq_of_mem_replicate hq
        subst this
        exact List.all_eq_true.1 hsz.1.2 u hu
      exact (List.mem_append.1 hu).elim (key _) (key _)
    · simp only [RA]
      refine ⟨_, grownCap w m 0 e, rfl, hge, hle, .inr ⟨w.heap.size, by simp, rfl, by rw [size_alloc]; exact Nat.lt_succ_self _, ?_⟩⟩
      have := heap_alloc_at w.drew (.cells ((List.replicate m z.cells.toList).flatten ++ (List.replicate (grownCap w m 0 e - m) z.cells.toList).flatten).toArray e)
      refine Nat.le_of_eq ?_
      simp only [cellsIn]
      rw [show w.drew.heap.size = w.heap.size from rfl] at this
      rw [this]
      simp only [List.size_toArray, List.length_append, List.length_flatten, List.map_replicate, List.sum_replicate_nat, Array.length_toList, hz1, ← Nat.add_mul]
      rw [Nat.zero_add]; congr 1; omega

/-! ### copy -/
def writeAt (xs : List Tr) (j : Nat) (ys : List Tr) : List Tr := xs.take j ++ ys ++ xs.drop (j + ys.length)
theorem writeAt_length {xs ys : List Tr} {j : Nat} (h : j + ys.length ≤ xs.length) : (writeAt xs j ys).length = xs.length := by simp [writeAt]; omega
theorem copy_core (S : Sat E n ds ι G ts a w) {l b off j m cap sLen sCap : Nat} {e st tt : TypeId} {sz s1 : Nat} {xs ys : List Tr} {vs : List Value} {A : Option Addr} {de : TypeDesc} (ht : TyIs P st (.slice e) s1) (he : TyIs P e de sz) (hl : look G l = some (.els e sz xs)) (hb : ι l = some b) (ho : off = j * sz)
    (hm : j + m ≤ xs.length) (hys : ys.length = Nat.min sLen m) (hre : RTe (Mut E.X ι G) w sz ys vs) (hone : ∀ u ∈ vs, u.oneCell' = true) (hsrc : 0 < ys.length → ∃ ad, A = some ad ∧ ∀ q v, vs[q]? = some v → w.cell? (ad.add q) = some v) :
    ∃ w', (Builtin.copy_ #[st, st] tt #[.slice (some ⟨b, off, none⟩) m cap, .slice A sLen sCap]).run P w = .ok (.int .i64 (ys.length : Int)) w' ∧ Sat E n ds ι ((l, .els e sz (writeAt xs j ys)) :: dropL l G) ts a w' := by
  obtain ⟨us, more, h1, h2, h3⟩ := S_elsM S hl hb
  have hul := h2.length
  have hvl := hre.length
  have hmin : ys.length ≤ m := by rw [hys]; exact Nat.min_le_right _ _
  have hin : j * sz + vs.length ≤ us.length := by rw [hvl, hul, ← Nat.add_mul]; exact Nat.mul_le_mul_right _ (by omega)
  have hw : RTe (Mut E.X ι G) w sz (writeAt xs j ys) (setAll us (j * sz) vs) := by
    rw [setAll_eq _ _ _ hin, hvl, ← Nat.add_mul]
    exact RTe.append (RTe.append (RTe.take j h2) hre) (RTe.drop (j + ys.length) h2)
  obtain ⟨q1, q2⟩ := els_store (P := P) S (off := j * sz) hl hb h1 h3 hone hin hw
  refine ⟨_, ?_, q2⟩
  subst ho
  have hf : (Builtin.firstCells sz ys.length (.slice A sLen sCap)).run P w = .ok vs.toArray w := by
    by_cases h0 : 0 < ys.length
    · obtain ⟨ad, rfl, hc⟩ := hsrc h0
      exact run_firstCells_some (P := P) w sz ys.length ad sLen sCap vs hvl hc
    · have : ys.length = 0 := by omega
      have hv : vs = [] := List.eq_nil_of_length_eq_zero (by rw [hvl, this, Nat.zero_mul])
      subst hv
      rw [this]
      cases A <;> simp [Builtin.firstCells, loadCells, loadCellsFrom]
  simp only [Builtin.copy_, List.getElem?_toArray, List.getElem?_cons_zero, List.getElem?_cons_succ, Sem.run_bind, ht.run_und, Result.andThen_ok, Builtin.lenOf, Sem.run_pure, he.run_size, ← hys, hf, q1, goInt]

theorem E_copy {x y : Operand} {st e : TypeId} {s1 sz l off m : Nat} {de : TypeDesc} {xs ys : List Tr} (j : Nat) (ht : TyIs P st (.slice e) s1) (he : TyIs P e de sz) (hx : evA ts x = some (.own sz l off m)) (hy : evA ts y = some (.tr (.sl sz ys))) (hl : look G l = some (.els e sz xs))
    (ho : off = j * sz) (h0 : 0 < m) (hm : j + m ≤ xs.length) :
    Eff1 P ds ⟨dst, .call { callee := .builtin .copy, args := #[x, y], argTypes := #[st, st] }, ty, pos, after, gd⟩ ts G (vI .i64 (min ys.length m : Nat)) ts ((l, .els e sz (writeAt xs j (ys.take m))) :: dropL l G) :=
  fun {E n ι a w} S => by
    have hr := S.ev hx
    have hr2 := S.ev hy
    simp only [RA] at hr
    simp only [RA, RT] at hr2
    obtain ⟨A, cap, ex, c1, c2, c3⟩ := hr
    obtain ⟨A2, cap2, vs, ey, ⟨y1, y2, y3, y4, y5⟩, hre⟩ := hr2
    rcases c3 with ⟨_, c3⟩ | ⟨b, hb, rfl, hblt, hcells⟩
    · omega
    have hlen : (ys.take m).length = Nat.min ys.length m := by rw [List.length_take]; exact Nat.min_comm _ _
    obtain ⟨w', q1, q2⟩ := copy_core (P := P) (tt := ty) (sLen := ys.length) (sCap := cap2) (cap := cap) (A := A2) S ht he hl hb ho hm hlen (RTe.take m hre) (fun u hu => y4 u (List.mem_of_mem_take hu)) (fun h => by
      obtain ⟨ad, e1, _, _, hc⟩ := y5 (by simp at h; omega)
      refine ⟨ad, e1, fun q v hv => hc q v ?_⟩
      rw [List.getElem?_take] at hv
      split at hv
      · exact hv
      · cases hv)
    refine ⟨.int .i64 ((min ys.length m : Nat) : Int), w', ι, ?_, q2, ?_⟩
    · simp only [execOp, resolve, invoke, builtin, Sem.run_bind, Sem.run_pure, Result.andThen_ok, List.map_toArray, List.map_cons, List.map_nil, ex, ey, q1, hlen]
    · simp only [RA, RT]
/-- copy within rows of one's own. -/
theorem E_copyO {x y : Operand} {st e : TypeId} {s1 sz l off m l2 off2 m2 : Nat} {de : TypeDesc} {xs xs2 : List Tr} (j j2 : Nat) (ht : TyIs P st (.slice e) s1) (he : TyIs P e de sz) (hx : evA ts x = some (.own sz l off m)) (hy : evA ts y = some (.own sz l2 off2 m2)) (hl : look G l = some (.els e sz xs))
    (hl2 : look G l2 = some (.els e sz xs2)) (ho : off = j * sz) (ho2 : off2 = j2 * sz) (h0 : 0 < m) (hm : j + m ≤ xs.length) (hm2 : j2 + m2 ≤ xs2.length) :
    Eff1 P ds ⟨dst, .call { callee := .builtin .copy, args := #[x, y], argTypes := #[st, st] }, ty, pos, after, gd⟩ ts G (vI .i64 (min m2 m : Nat)) ts ((l, .els e sz (writeAt xs j (((xs2.drop j2).take m2).take m))) :: dropL l G) :=
  fun {E n ι a w} S => by
    have hr := S.ev hx
    have hr2 := S.ev hy
    simp only [RA] at hr hr2
    obtain ⟨A, cap, ex, c1, c2, c3⟩ := hr
    obtain ⟨A2, cap2, ey, d1, d2, d3⟩ := hr2
    rcases c3 with ⟨_, c3⟩ | ⟨b, hb, rfl, hblt, hcells⟩
    · omega
    have hlen0 : ((xs2.drop j2).take m2).length = m2 := by simp; omega
    have hlen : (((xs2.drop j2).take m2).take m).length = Nat.min m2 m := by rw [List.length_take, hlen0]; exact Nat.min_comm _ _
    have hsrc : ∃ vs : List Value, RTe (Mut E.X ι G) w sz (((xs2.drop j2).take m2).take m) vs ∧ (∀ u ∈ vs, u.oneCell' = true) ∧ (0 < (((xs2.drop j2).take m2).take m).length → ∃ ad, A2 = some ad ∧ ∀ q v, vs[q]? = some v → w.cell? (ad.add q) = some v) := by
      rcases d3 with ⟨rfl, hc⟩ | ⟨b2, hb2, rfl, hblt2, hcells2⟩
      · have : m2 = 0 := by omega
        subst this
        exact ⟨[], by simp [RTe], by simp, fun h => by simp at h⟩
      · obtain ⟨us, more, h1, h2, h3⟩ := S_els S hl2 hb2
        refine ⟨(((us.drop (j2 * sz)).take (m2 * sz))).take (m * sz), RTe.take m (RTe.take m2 (RTe.drop j2 h2)), fun u hu => h3 u (List.mem_of_mem_drop (List.mem_of_mem_take (List.mem_of_mem_take hu))), fun _ => ⟨_, rfl, fun q v hv => ?_⟩⟩
        rw [add_at, cell_of_heap h1, ho2]
        rw [List.getElem?_take] at hv
        split at hv
        · rw [List.getElem?_take] at hv
          split at hv
          · rw [List.getElem?_drop] at hv
            have := (List.getElem?_eq_some_iff.1 hv).1
            simp [List.getElem?_append_left this, hv]
          · cases hv
        · cases hv
    obtain ⟨vs, v1, v2, v3⟩ := hsrc
    obtain ⟨w', q1, q2⟩ := copy_core (P := P) (tt := ty) (sLen := m2) (sCap := cap2) (cap := cap) (A := A2) S ht he hl hb ho hm hlen v1 v2 v3
    refine ⟨.int .i64 ((min m2 m : Nat) : Int), w', ι, ?_, q2, ?_⟩
    · simp only [execOp, resolve, invoke, builtin, Sem.run_bind, Sem.run_pure, Result.andThen_ok, List.map_toArray, List.map_cons, List.map_nil, ex, ey, q1, hlen]
    · simp only [RA, RT]
end
end Go.Ab

namespace Go.Ab
open Go

/-- One operation of a drawn region: its number, where its result goes, what that is, the objects it makes, the operations ahead of it that it leans on. -/
structure It where
  i : Nat
  d : Nat
  x : AV
  g : GS
  dp : List Nat

def tsOf (ts0 : TS) (p : Nat → Bool) : List It → TS
  | [] => ts0
  | it :: r => bif p it.i then (it.d, it.x) :: tsOf ts0 p r else tsOf ts0 p r
def GOf (G0 : GS) (p : Nat → Bool) : List It → GS
  | [] => G0
  | it :: r => bif p it.i then it.g ++ GOf G0 p r else GOf G0 p r
def memN (l : List Nat) (k : Nat) : Bool := l.any fun q => Nat.beq q k

def SubL {α : Type} (m l : List (Nat × α)) : Prop := ∀ t v, look m t = some v → look l t = some v

def freshAll (g : GS) (ts : TS) (G : GS) : Prop := ∀ q ∈ g, freshT q.1 ts = true ∧ freshG q.1 G = true

/-- An operation that only makes: a value, and new objects. -/
def EffR (P : Program) (o : Oper) (ts : TS) (G : GS) (x : AV) (g : GS) : Prop :=
  ∀ {E : Env} {n : Nat} {ds : Fx} {ι : LMap} {a : Act} {w : World}, (∀ q ∈ g, ds.fx.contains q.1 = false) → Sat E n ds ι G ts a w →
    ∃ u w' ι', (execOp a.eval o).run P w = .ok (.value u) w' ∧ Sat E n ds ι' (g ++ G) ts a w' ∧ RA (Mut E.X ι' (g ++ G)) ι' w' x u
def EffB (P : Program) (o : Oper) (ts : TS) (G : GS) (x : AV) (g : GS) : Prop :=
  ∀ {E : Env} {n : Nat} {ds : Fx} {ι : LMap} {a : Act} {w : World}, (∀ q ∈ g, ds.fx.contains q.1 = false) → Sat E n ds ι G ts a w →
    ∀ (K : Act → World → Prop) (Q : Exit → Act → World → Prop), (∀ u w' ι', Sat E n ds ι' (g ++ G) ts a w' → RA (Mut E.X ι' (g ++ G)) ι' w' x u → K (a.put o.dst u) w') → o.wp P a w K Q
theorem EffR.b {P : Program} {o : Oper} {ts : TS} {G : GS} {x : AV} {g : GS} (h : EffR P o ts G x g) : EffB P o ts G x g := by
  intro E n ds ι a w hx S K Q hK
  obtain ⟨u, w', ι', h1, h2, h3⟩ := h hx S
  unfold Oper.wp
  rw [h1, Oper.upon_value]
  exact hK u w' ι' h2 h3
def Bth (P : Program) (o : Oper) (tsm : TS) (Gm : GS) (x : AV) (g : GS) : Prop := ∀ ts G, SubL tsm ts → SubL Gm G → freshAll g ts G → EffB P o ts G x g

theorem look_app {α : Type} (l : Nat) : ∀ (g G : List (Nat × α)), look (g ++ G) l = (look g l).or (look G l)
  | [], G => by simp [look]
  | p :: r, G => by
    by_cases h : p.1 = l
    · subst h; rw [List.cons_append, look_cons_same, look_cons_same]; rfl
    · rw [List.cons_append, look_cons_ne _ _ h, look_cons_ne _ _ h]; exact look_app l r G

section
variable {P : Program} {n : Nat} {ds : Fx} {E : Env} {ι : LMap} {G : GS} {ts : TS} {a : Act} {w w' : World} {ty : TypeId} {pos : String} {after : Array Edge} {gd : Option (Nat × Bool)} {dst : Option Tmp}

theorem Sat.congr (S : Sat E n ds ι G ts a w) {ts' : TS} {G' : GS} (hT : SubL ts' ts) (hG : ∀ l, look G' l = look G l) : Sat E n ds ι G' ts' a w := by
  have dom : ∀ l, InDom G' l ↔ InDom G l := fun l => by unfold InDom; rw [hG]
  have hm : Mut E.X ι G' = Mut E.X ι G := by funext b; unfold Mut; simp only [dom]
  exact { dfs := S.dfs, sz := S.sz, tm := fun t x hx => by rw [hm]; exact S.tm t x (hT t x hx)
          hp := { obj := fun l o ho => by rw [hm]; exact S.hp.obj l o (by rw [← hG]; exact ho)
                  inj := fun l l' b h h' => S.hp.inj l l' b ((dom l).1 h) ((dom l').1 h')
                  lt := fun l b h => S.hp.lt l b ((dom l).1 h)
                  xlt := S.hp.xlt }
          fr := S.fr, wr := fun l b h => S.wr l b ((dom l).1 h), fx := S.fx }

/-- What is shown of a state holds of one that knows more. -/
theorem Pure1.more {o : Oper} {x : AV} {tsm : TS} {Gm : GS} (h : Pure1 P o tsm Gm x) {ts : TS} {G : GS} (hT : SubL tsm ts) (hG : SubL Gm G) : Pure1 P o ts G x :=
  fun {E n ds ι a w} S => by
    have hsub : ∀ l, InDom Gm l → InDom G l := fun l ⟨o, ho⟩ => ⟨o, hG l o ho⟩
    let X' : BSet := fun b => E.X b ∨ ∃ l, InDom G l ∧ ¬ InDom Gm l ∧ ι l = some b
    have hm : ∀ b, Mut X' ι Gm b ↔ Mut E.X ι G b := by
      intro b
      constructor
      · rintro ((h | ⟨l, h1, _, h2⟩) | ⟨l, h1, h2⟩)
        · exact .inl h
        · exact .inr ⟨l, h1, h2⟩
        · exact .inr ⟨l, hsub l h1, h2⟩
      · rintro (h | ⟨l, h1, h2⟩)
        · exact .inl (.inl h)
        · by_cases h3 : InDom Gm l
          · exact .inr ⟨l, h3, h2⟩
          · exact .inl (.inr ⟨l, h1, h3, h2⟩)
    have hm' : Mut X' ι Gm = Mut E.X ι G := by funext b; exact propext (hm b)
    have S' : Sat ⟨X', w, LBlk ι Gm, ι⟩ n ⟨ds.ds, []⟩ ι Gm tsm a w :=
      { dfs := S.dfs, sz := S.sz, tm := fun t y hy => by show ∃ u, _ ∧ RA (Mut X' ι Gm) ι w y u; rw [hm']; exact S.tm t y (hT t y hy)
        hp := { obj := fun l o ho => by show RO (Mut X' ι Gm) ι w o (ι l); rw [hm']; exact S.hp.obj l o (hG l o ho)
                inj := fun l l' b h h' => S.hp.inj l l' b (hsub l h) (hsub l' h')
                lt := fun l b h e => ⟨(S.hp.lt l b (hsub l h) e).1, by
                  rintro (hx | ⟨q, h1, h2, h3⟩)
                  · exact (S.hp.lt l b (hsub l h) e).2 hx
                  · have := S.hp.inj l q b (hsub l h) h1 e h3
                    subst this; exact h2 h⟩
                xlt := fun b hb => by
                  rcases hb with hb | ⟨q, h1, _, h3⟩
                  · exact S.hp.xlt b hb
                  · exact (S.hp.lt q b h1 h3).1 }
        fr := Fr.refl _ _, wr := fun l b h e => .inl ⟨l, h, e⟩, fx := fun l hl => by cases hl }
    obtain ⟨u, h1, h2⟩ := h S'
    exact ⟨u, h1, by rw [← hm']; exact h2⟩

theorem evA_more {tsm ts : TS} (hT : SubL tsm ts) {x : Operand} {v : AV} (h : evA tsm x = some v) : evA ts x = some v := by
  cases x with
  | tmp t => exact hT t v h
  | const u => exact h
  | func f => exact h
  | global g => cases h
theorem evs_more {tsm ts : TS} (hT : SubL tsm ts) : ∀ {xs : List Operand} {vs : List AV}, evs tsm xs = some vs → evs ts xs = some vs
  | [], vs, h => h
  | x :: xs, vs, h => by
    simp only [evs] at h ⊢
    cases h1 : evA tsm x with
    | none => rw [h1] at h; cases h
    | some v =>
      rw [h1] at h
      cases h2 : evs tsm xs with
      | none => rw [h2] at h; cases h
      | some r => rw [h2] at h; rw [evA_more hT h1, evs_more hT h2]; exact h
theorem litA_more {tsm ts : TS} (hT : SubL tsm ts) : ∀ {i : Nat} {parts : List (Nat × Operand)} {xs : List Tr}, litA tsm i parts = some xs → litA ts i parts = some xs
  | i, [], xs, h => h
  | i, (j, x) :: r, xs, h => by
    simp only [litA] at h ⊢
    cases hb : Nat.beq i j with
    | false => rw [hb] at h; cases h
    | true =>
      rw [hb] at h
      simp only [cond_true] at h ⊢
      split at h
      · rename_i t l h1 h2
        rw [evA_more hT h1, litA_more hT h2]
        exact h
      · cases h

theorem B_pure {o : Oper} {x : AV} {tsm : TS} {Gm : GS} (h : Pure1 P o tsm Gm x) : Bth P o tsm Gm x [] :=
  fun ts G hT hG _ => EffR.b (g := []) fun {E n ds ι a w} _ S => let ⟨u, h1, h2⟩ := h.more hT hG S; ⟨u, w, ι, h1, S, h2⟩
theorem B_alloc {t : TypeId} {z : Value} {tsm : TS} {Gm : GS} (l : Nat) (hz : TyZ P t z) : Bth P ⟨dst, .alloc t, ty, pos, after, gd⟩ tsm Gm (.ptr l 0) [(l, .row t (valsA z.cells.toList))] :=
  fun ts G hT hG hf => EffR.b fun {E n ds ι a w} hx S => E_alloc l hz (hx _ (.head _)) (hf _ (.head _)).1 (hf _ (.head _)).2 S
theorem B_box {t : TypeId} {x : Operand} {v : AV} {tsm : TS} {Gm : GS} (l : Nat) (hv : evA tsm x = some v) (hok : cellsOk v = true) (hN : noRef l v = true) : Bth P ⟨dst, .box t x, ty, pos, after, gd⟩ tsm Gm (.ptr l 0) [(l, .row t (cellsA v))] :=
  fun ts G hT hG hf => EffR.b fun {E n ds ι a w} hx S => E_box l (evA_more hT hv) hok (hx _ (.head _)) (hf _ (.head _)).1 (hf _ (.head _)).2 hN S
theorem B_lit {st e : TypeId} {s1 sz len : Nat} {de : TypeDesc} {z : Value} {parts : Array (Nat × Operand)} {xs : List Tr} {tsm : TS} {Gm : GS} (ht : TyIs P st (.slice e) s1) (he : TyIs P e de sz) (hz : TyZ P e z) (hx : litA tsm 0 parts.toList = some xs)
    (hok : (Nat.beq xs.length len && litOk sz xs && Nat.ble (len * sz) 16777216 && Nat.beq z.cells.size sz && Nat.ble 1 sz) = true) : Bth P ⟨dst, .buildSlice st len parts, ty, pos, after, gd⟩ tsm Gm (.tr (.sl sz xs)) [] :=
  fun ts G hT hG hf => EffR.b (g := []) fun {E n ds ι a w} _ S => let ⟨u, w', h1, S', h2⟩ := E_lit ht he hz (litA_more hT hx) hok S; ⟨u, w', ι, h1, S', h2⟩
theorem B_litO {st e : TypeId} {s1 sz len : Nat} {de : TypeDesc} {z : Value} {parts : Array (Nat × Operand)} {xs : List Tr} {tsm : TS} {Gm : GS} (l : Nat) (ht : TyIs P st (.slice e) s1) (he : TyIs P e de sz) (hz : TyZ P e z) (hx : litA tsm 0 parts.toList = some xs)
    (hok : (Nat.beq xs.length len && litOk sz xs && Nat.ble (len * sz) 16777216 && Nat.beq z.cells.size sz && Nat.ble 1 sz) = true) : Bth P ⟨dst, .buildSlice st len parts, ty, pos, after, gd⟩ tsm Gm (.own sz l 0 len) [(l, .els e sz xs)] :=
  fun ts G hT hG hf => EffR.b fun {E n ds ι a w} hq S => E_litO l ht he hz (litA_more hT hx) hok (hq _ (.head _)) (hf _ (.head _)).1 (hf _ (.head _)).2 S
theorem B_convSB {x : Operand} {src dt e : TypeId} {u : TypeDesc} {s0 s1 s2 : Nat} {s : ByteArray} {tsm : TS} {Gm : GS} (hs : TyIs P src u s0) (hd : TyIs P dt (.slice e) s1) (he : TyIs P e (.int .u8) s2) (h : evA tsm x = some (vS s)) (hl : s.size ≤ 9223372036854775807) :
    Bth P ⟨dst, .convert src dt x, ty, pos, after, gd⟩ tsm Gm (sB s.data.toList) [] :=
  fun ts G hT hG hf => EffR.b (g := []) fun {E n ds ι a w} _ S => let ⟨u, w', h1, S', h2⟩ := E_convSB hs hd he (evA_more hT h) hl S; ⟨u, w', ι, h1, S', h2⟩

/-! ### The checks -/
def edgesB (o : Oper) : List Nat := (o.after.toList.filter (Region.binds .any)).map (·.on)
def edgesOf (ops : Array Oper) (i : Nat) : List Nat := ((ops[i]?).map edgesB).getD []
def itemAt (its : List It) (j : Nat) : Option It := bif Nat.blt j its.length then its[its.length - 1 - j]? else none
def dpOf (its : List It) (j : Nat) : List Nat := ((itemAt its j).map (·.dp)).getD []
def subN (l m : List Nat) : Bool := l.all (memN m)
/-- What i is bound to, near or far. -/
def deps (ops : Array Oper) (its : List It) (i : Nat) : List Nat := edgesOf ops i ++ (edgesOf ops i).flatMap (dpOf its)
def labs (g : GS) : List Nat := g.map (·.1)
def freshIt (l : Nat) (j : It) : Bool := noRef l j.x && freshG l j.g

def itOk (ops : Array Oper) (ts0 : TS) (G0 : GS) (n : Nat) (all : List It) : List It → Bool
  | [] => true
  | it :: r => Nat.beq it.i r.length && (edgesOf ops it.i).all (fun e => Nat.blt e it.i) && subN it.dp (deps ops all it.i) && Nat.blt it.d n && (look ts0 it.d).isNone && !memN (r.map (·.d)) it.d
    && (labs it.g).all (fun l => freshT l ts0 && freshG l G0 && all.all fun j => Nat.beq j.i it.i || memN j.dp it.i || freshIt l j) && itOk ops ts0 G0 n all r

/-- Each operation shown from what it leans on. -/
def Obs (P : Program) (ops : Array Oper) (ts0 : TS) (G0 : GS) : List It → Prop
  | [] => True
  | it :: r => (∃ o, ops[it.i]? = some o ∧ o.guard = none ∧ o.dst = some it.d ∧ Bth P o (tsOf ts0 (memN it.dp) r) (GOf G0 (memN it.dp) r) it.x it.g) ∧ Obs P ops ts0 G0 r

def upTo (m j : Nat) : Array Bool := (List.replicate j true ++ List.replicate (m - j) false).toArray
/-- Whatever is not of the front waits for all of it. -/
def frontOkP (ops : Array Oper) (its : List It) (pre : List Nat) : Bool :=
  (List.range ops.size).all (fun j => bif Nat.ble its.length j then subN ((List.range its.length).filter fun i => !memN pre i) (deps ops its j) || (edgesOf ops j).any (fun e => Nat.ble its.length e && Nat.blt e j) else true)
  && Nat.ble its.length ops.size
def frontOk (ops : Array Oper) (its : List It) : Bool := frontOkP ops its []
def seqOk (ops : Array Oper) (its : List It) : Bool :=
  (List.range ops.size).all (fun j => bif Nat.ble its.length j then (match Region.ready .any ops (upTo ops.size j) with | [q] => Nat.beq q j | _ => false) else true)
def tailOk (ops : Array Oper) (its : List It) : Bool := frontOk ops its && seqOk ops its

theorem memN_iff {l : List Nat} {k : Nat} : memN l k = true ↔ k ∈ l := by
  unfold memN
  rw [List.any_eq_true]
  constructor
  · rintro ⟨q, h1, h2⟩; have := Nat.eq_of_beq_eq_true h2; subst this; exact h1
  · intro h; exact ⟨k, h, by simp⟩
theorem blt_iff {a b : Nat} : Nat.blt a b = true ↔ a < b := by simp [Nat.blt]; omega
theorem subN_iff {l m : List Nat} : subN l m = true ↔ ∀ q ∈ l, q ∈ m := by
  unfold subN; rw [List.all_eq_true]; exact ⟨fun h q hq => memN_iff.1 (h q hq), fun h q hq => memN_iff.2 (h q hq)⟩

/-- What the check says of one operation. -/
structure Good (P : Program) (ops : Array Oper) (ts0 : TS) (G0 : GS) (n : Nat) (all : List It) (it : It) (r : List It) : Prop where
  ix : it.i = r.length
  down : ∀ e ∈ edgesOf ops it.i, e < it.i
  dp : ∀ q ∈ it.dp, q ∈ deps ops all it.i
  dn : it.d < n
  d0 : look ts0 it.d = none
  dr : it.d ∉ r.map (·.d)
  fr : ∀ l ∈ labs it.g, freshT l ts0 = true ∧ freshG l G0 = true ∧ ∀ j ∈ all, j.i = it.i ∨ it.i ∈ j.dp ∨ freshIt l j = true
  ob : ∃ o, ops[it.i]? = some o ∧ o.guard = none ∧ o.dst = some it.d ∧ Bth P o (tsOf ts0 (memN it.dp) r) (GOf G0 (memN it.dp) r) it.x it.g

theorem itOk_cons {ops : Array Oper} {ts0 : TS} {G0 : GS} {all : List It} {it : It} {r : List It} (h : itOk ops ts0 G0 n all (it :: r) = true) (ho : Obs P ops ts0 G0 (it :: r)) : Good P ops ts0 G0 n all it r ∧ itOk ops ts0 G0 n all r = true ∧ Obs P ops ts0 G0 r := by
  simp only [itOk, Bool.and_eq_true] at h
  obtain ⟨⟨⟨⟨⟨⟨⟨h1, h2⟩, h3⟩, h4⟩, h5⟩, h6⟩, h7⟩, h8⟩ := h
  refine ⟨⟨Nat.eq_of_beq_eq_true h1, fun e he => blt_iff.1 (List.all_eq_true.1 h2 e he), subN_iff.1 h3, blt_iff.1 h4, by simpa using h5, fun hm => ?_, fun l hl => ?_, ho.1⟩, h8, ho.2⟩
  · rw [memN_iff.2 hm] at h6; cases h6
  · have := List.all_eq_true.1 h7 l hl
    simp only [Bool.and_eq_true] at this
    refine ⟨this.1.1, this.1.2, fun j hj => ?_⟩
    have := List.all_eq_true.1 this.2 j hj
    simp only [Bool.or_eq_true] at this
    rcases this with (h | h) | h
    · exact .inl (Nat.eq_of_beq_eq_true h)
    · exact .inr (.inl (memN_iff.1 h))
    · exact .inr (.inr h)

theorem good_at {ops : Array Oper} {ts0 : TS} {G0 : GS} {all : List It} : ∀ {r0 : List It}, itOk ops ts0 G0 n all r0 = true → Obs P ops ts0 G0 r0 → ∀ i, i < r0.length → ∃ pre it r, r0 = pre ++ it :: r ∧ r.length = i ∧ Good P ops ts0 G0 n all it r
  | [], _, _, i, hi => by simp at hi
  | it :: r, h, ho, i, hi => by
    obtain ⟨g, h', ho'⟩ := itOk_cons h ho
    by_cases e : i = r.length
    · exact ⟨[], it, r, rfl, e.symm, g⟩
    · obtain ⟨pre, it', r', rfl, h1, h2⟩ := good_at h' ho' i (by simp at hi; omega)
      exact ⟨it :: pre, it', r', rfl, h1, h2⟩
theorem good_of {ops : Array Oper} {ts0 : TS} {G0 : GS} {all : List It} : ∀ {r0 : List It}, itOk ops ts0 G0 n all r0 = true → Obs P ops ts0 G0 r0 → ∀ it ∈ r0, ∃ pre r, r0 = pre ++ it :: r ∧ Good P ops ts0 G0 n all it r
  | [], _, _, it, hi => by simp at hi
  | it' :: r, h, ho, it, hi => by
    obtain ⟨g, h', ho'⟩ := itOk_cons h ho
    rcases List.mem_cons.1 hi with rfl | hi
    · exact ⟨[], r, rfl, g⟩
    · obtain ⟨pre, r', rfl, h2⟩ := good_of h' ho' it hi
      exact ⟨it' :: pre, r', rfl, h2⟩
theorem itemAt_mid {pre r : List It} {it : It} : itemAt (pre ++ it :: r) r.length = some it := by
  unfold itemAt
  rw [blt_iff.2 (by simp; omega)]
  simp only [cond_true]
  rw [show (pre ++ it :: r).length - 1 - r.length = pre.length by simp]
  simp

/-! ### The state, when some have been done -/
theorem look_tsOf {ops : Array Oper} {ts0 : TS} {G0 : GS} {all : List It} {p : Nat → Bool} {t : Nat} {v : AV} : ∀ {its : List It}, itOk ops ts0 G0 n all its = true → Obs P ops ts0 G0 its → (look (tsOf ts0 p its) t = some v ↔ (∃ it ∈ its, p it.i = true ∧ it.d = t ∧ it.x = v) ∨ look ts0 t = some v)
  | [], h, ho => by simp [tsOf]
  | it :: r, h, ho => by
    obtain ⟨g, h', ho'⟩ := itOk_cons h ho
    have ih := look_tsOf (p := p) (t := t) (v := v) h' ho'
    simp only [tsOf]
    cases hp : p it.i with
    | false =>
      simp only [cond_false, ih, List.mem_cons, exists_eq_or_imp, hp, Bool.false_eq_true, false_and, false_or]
    | true =>
      simp only [cond_true]
      by_cases e : it.d = t
      · subst e
        rw [look_cons_same]
        constructor
        · intro hv; injection hv with hv; exact .inl ⟨it, by simp, hp, rfl, hv⟩
        · rintro (⟨j, hj, _, h2, h3⟩ | h0)
          · rcases List.mem_cons.1 hj with rfl | hj
            · rw [h3]
            · exact absurd (h2 ▸ List.mem_map.2 ⟨j, hj, rfl⟩) g.dr
          · rw [g.d0] at h0; cases h0
      · rw [look_cons_ne _ _ e, ih]
        constructor
        · rintro (⟨j, hj, h1⟩ | h0)
          · exact .inl ⟨j, by simp [hj], h1⟩
          · exact .inr h0
        · rintro (⟨j, hj, h1, h2, h3⟩ | h0)
          · rcases List.mem_cons.1 hj with rfl | hj
            · exact absurd h2 e
            · exact .inl ⟨j, hj, h1, h2, h3⟩
          · exact .inr h0

theorem labs_look {g : GS} {l : Nat} {o : AObj} (h : look g l = some o) : l ∈ labs g := List.mem_map.2 ⟨_, mem_of_look h, rfl⟩
theorem freshG_look {g : GS} {l : Nat} (h : freshG l g = true) : look g l = none := by
  cases hl : look g l with
  | none => rfl
  | some o => exact absurd ⟨o, hl⟩ (freshG_spec h).1

theorem dp_lt {ops : Array Oper} {ts0 : TS} {G0 : GS} {its : List It} (h : itOk ops ts0 G0 n its its = true) (ho : Obs P ops ts0 G0 its) : ∀ (i : Nat) (it : It), it ∈ its → it.i = i → ∀ q ∈ it.dp, q < i := by
  intro i
  induction i using Nat.strongRecOn with
  | ind i ih =>
    intro it hit hi q hq
    obtain ⟨pre, r, e, g⟩ := good_of h ho it hit
    rcases List.mem_append.1 (g.dp q hq) with h1 | h1
    · have := g.down q h1; omega
    · obtain ⟨k, hk, hq2⟩ := List.mem_flatMap.1 h1
      have hki := g.down k hk
      unfold dpOf at hq2
      cases hx : itemAt its k with
      | none => rw [hx] at hq2; simp at hq2
      | some jt =>
        rw [hx] at hq2
        have hjm : jt ∈ its := by
          unfold itemAt at hx
          cases hb : Nat.blt k its.length with
          | false => rw [hb] at hx; cases hx
          | true => rw [hb] at hx; exact List.mem_of_getElem? hx
        have hjk : jt.i = k := by
          obtain ⟨pre2, jt2, r2, e2, l2, g2⟩ := good_at h ho k (by
            unfold itemAt at hx
            cases hb : Nat.blt k its.length with
            | false => rw [hb] at hx; cases hx
            | true => exact blt_iff.1 hb)
          have := itemAt_mid (pre := pre2) (r := r2) (it := jt2)
          rw [← e2, l2, hx] at this
          injection this with this
          subst this
          rw [g2.ix, l2]
        have := ih k (by omega) jt hjm hjk q (by simpa using hq2)
        omega

/-- Two operations do not make the same label. -/
theorem labs_apart {ops : Array Oper} {ts0 : TS} {G0 : GS} {its : List It} (h : itOk ops ts0 G0 n its its = true) (ho : Obs P ops ts0 G0 its) {it jt : It} (hi : it ∈ its) (hj : jt ∈ its) (hne : it.i ≠ jt.i) {l : Nat} (h1 : l ∈ labs it.g) : l ∉ labs jt.g := by
  intro h2
  obtain ⟨_, _, _, g⟩ := good_of h ho it hi
  obtain ⟨_, _, _, g'⟩ := good_of h ho jt hj
  have key : ∀ {k : It}, freshIt l k = true → l ∉ labs k.g := by
    intro k hf hm
    simp only [freshIt, Bool.and_eq_true] at hf
    obtain ⟨p, hp, rfl⟩ := List.mem_map.1 hm
    have := List.all_eq_true.1 hf.2 p hp
    simp at this
  rcases (g.fr l h1).2.2 jt hj with e | e | e
  · exact hne e.symm
  · rcases (g'.fr l h2).2.2 it hi with e' | e' | e'
    · exact hne e'
    · have := dp_lt h ho _ jt hj rfl _ e
      have := dp_lt h ho _ it hi rfl _ e'
      omega
    · exact key e' h1
  · exact key e h2

theorem look_GOf {ops : Array Oper} {ts0 : TS} {G0 : GS} {its : List It} (h : itOk ops ts0 G0 n its its = true) (ho : Obs P ops ts0 G0 its) {p : Nat → Bool} {l : Nat} {o : AObj} : ∀ {r : List It}, (∀ it ∈ r, it ∈ its) → (r.map (·.i)).Nodup →
    (look (GOf G0 p r) l = some o ↔ (∃ it ∈ r, p it.i = true ∧ look it.g l = some o) ∨ look G0 l = some o)
  | [], _, _ => by simp [GOf]
  | it :: r, hs, hn => by
    simp only [List.map_cons, List.nodup_cons] at hn
    have ih := look_GOf h ho (p := p) (l := l) (o := o) (r := r) (fun j hj => hs j (by simp [hj])) hn.2
    obtain ⟨_, _, _, g⟩ := good_of h ho it (hs it (by simp))
    simp only [GOf]
    cases hp : p it.i with
    | false => simp only [cond_false, ih, List.mem_cons, exists_eq_or_imp, hp, Bool.false_eq_true, false_and, false_or]
    | true =>
      simp only [cond_true]
      rw [look_app]
      cases hg : look it.g l with
      | none =>
        simp only [Option.none_or, ih]
        constructor
        · rintro (⟨j, hj, h1⟩ | h0)
          · exact .inl ⟨j, by simp [hj], h1⟩
          · exact .inr h0
        · rintro (⟨j, hj, h1, h2⟩ | h0)
          · rcases List.mem_cons.1 hj with rfl | hj
            · rw [hg] at h2; cases h2
            · exact .inl ⟨j, hj, h1, h2⟩
          · exact .inr h0
      | some o' =>
        have hl := labs_look hg
        simp only [Option.some_or]
        constructor
        · intro e; injection e with e; subst e; exact .inl ⟨it, by simp, hp, hg⟩
        · rintro (⟨j, hj, h1, h2⟩ | h0)
          · rcases List.mem_cons.1 hj with rfl | hj
            · rw [hg] at h2; exact h2
            · exact absurd (labs_look h2) (labs_apart h ho (hs it (by simp)) (hs j (by simp [hj])) (fun e => hn.1 (e ▸ List.mem_map.2 ⟨j, hj, rfl⟩)) hl)
          · have := freshG_look (g.fr l hl).2.1
            rw [this] at h0; cases h0

theorem idx_nodup {ops : Array Oper} {ts0 : TS} {G0 : GS} {all : List It} : ∀ {r : List It}, itOk ops ts0 G0 n all r = true → Obs P ops ts0 G0 r → (r.map (·.i)).Nodup ∧ ∀ it ∈ r, it.i < r.length
  | [], _, _ => by simp
  | it :: r, h, ho => by
    obtain ⟨g, h', ho'⟩ := itOk_cons h ho
    obtain ⟨i1, i2⟩ := idx_nodup h' ho'
    refine ⟨?_, ?_⟩
    · simp only [List.map_cons, List.nodup_cons]
      refine ⟨fun hm => ?_, i1⟩
      obtain ⟨j, hj, e⟩ := List.mem_map.1 hm
      have := i2 j hj; have := g.ix; omega
    · intro j hj
      rcases List.mem_cons.1 hj with rfl | hj
      · rw [g.ix]; simp
      · have := i2 j hj; simp; omega
theorem suffix_ok {ops : Array Oper} {ts0 : TS} {G0 : GS} {all : List It} : ∀ {pre r : List It}, itOk ops ts0 G0 n all (pre ++ r) = true → Obs P ops ts0 G0 (pre ++ r) → itOk ops ts0 G0 n all r = true ∧ Obs P ops ts0 G0 r
  | [], r, h, ho => ⟨h, ho⟩
  | it :: pre, r, h, ho => by
    obtain ⟨_, h', ho'⟩ := itOk_cons h ho
    exact suffix_ok h' ho'
end
end Go.Ab

namespace Go.Ab
open Go
theorem inj_nodup {α β : Type} {f : α → β} : ∀ {l : List α}, (l.map f).Nodup → ∀ {x y : α}, x ∈ l → y ∈ l → f x = f y → x = y := by
  intro l
  induction l with
  | nil => intro _ x y hx; cases hx
  | cons z l ih =>
    intro hn x y hx hy e
    simp only [List.map_cons, List.nodup_cons] at hn
    rcases List.mem_cons.1 hx with rfl | hx
    · rcases List.mem_cons.1 hy with rfl | hy
      · rfl
      · exact absurd (List.mem_map.2 ⟨y, hy, e.symm⟩) hn.1
    · rcases List.mem_cons.1 hy with rfl | hy
      · exact (hn.1 (List.mem_map.2 ⟨x, ‹x ∈ l›, e⟩)).elim
      · exact ih hn.2 hx hy e
section
variable {P : Program} {n : Nat} {ds : Fx} {E : Env} {ι : LMap} {G : GS} {ts : TS} {a : Act} {w w' : World} {ops : Array Oper} {Q : Exit → Act → World → Prop} {ts0 : TS} {G0 : GS} {its : List It}

theorem suffix_eq {all r0 pre r : List It} (h : itOk ops ts0 G0 n all r0 = true) (ho : Obs P ops ts0 G0 r0) (e : r0 = pre ++ r) : itOk ops ts0 G0 n all r = true ∧ Obs P ops ts0 G0 r := by
  subst e; exact suffix_ok h ho
theorem mem_edges {o : Oper} {i e : Nat} (hi : ops[i]? = some o) : e ∈ edgesOf ops i ↔ ∃ ed ∈ o.after, Region.binds .any ed = true ∧ ed.on = e := by
  simp only [edgesOf, hi, Option.map_some, Option.getD_some, edgesB, List.mem_map, List.mem_filter]
  constructor
  · rintro ⟨ed, ⟨h1, h2⟩, h3⟩; exact ⟨ed, by simpa using h1, h2, h3⟩
  · rintro ⟨ed, h1, h2, h3⟩; exact ⟨ed, ⟨by simpa using h1, h2⟩, h3⟩

theorem upTo_size (m j : Nat) (h : j ≤ m) : (upTo m j).size = m := by simp [upTo]; omega
theorem upTo_getD (m j i : Nat) (d : Bool) (h : j ≤ m) (hi : i < m) : (upTo m j).getD i d = decide (i < j) := by
  simp only [upTo, Array.getD_eq_getD_getElem?, List.getElem?_toArray, List.getElem?_append, List.length_replicate, List.getElem?_replicate]
  by_cases h1 : i < j
  · simp [h1]
  · simp [h1, show i - j < m - j by omega]
theorem upTo_set (m j : Nat) (h : j < m) : (upTo m j).setIfInBounds j true = upTo m (j + 1) := by
  apply Array.ext
  · rw [Array.size_setIfInBounds, upTo_size _ _ (by omega), upTo_size _ _ (by omega)]
  · intro i h1 h2
    rw [Array.size_setIfInBounds, upTo_size _ _ (by omega)] at h1
    have e1 := upTo_getD m j i false (by omega) h1
    have e2 := upTo_getD m (j + 1) i false (by omega) h1
    have g1 : (upTo m j)[i]? = some ((upTo m j)[i]'(by rw [upTo_size _ _ (by omega)]; exact h1)) := Array.getElem?_eq_getElem _
    rw [Array.getD_eq_getD_getElem?, g1] at e1
    rw [Array.getD_eq_getD_getElem?, Array.getElem?_eq_getElem h2] at e2
    simp only [Option.getD_some] at e1 e2
    rw [Array.getElem_setIfInBounds (by rw [upTo_size _ _ (by omega)]; exact h1), e1, e2]
    by_cases h3 : j = i
    · subst h3; simp
    · simp [h3]; omega

/-- The tail: one after the other. -/
theorem tail_wp (hq : seqOk ops its = true) :
    ∀ (f j : Nat), its.length ≤ j → j + f = ops.size → ∀ a w, wpList P ops Q (ops.toList.drop j) a w → wpAny P .any ops Q f (upTo ops.size j) a w
  | 0, j, hj, hf, a, w, h => by
    have e : j = ops.size := by omega
    subst e
    rw [List.drop_of_length_le (by simp)] at h
    refine wpAny_done ?_ h 0
    cases hr : Region.ready .any ops (upTo ops.size ops.size) with
    | nil => rfl
    | cons i r =>
      have hm : i ∈ Region.ready .any ops (upTo ops.size ops.size) := by rw [hr]; simp
      obtain ⟨h1, o, h2, _⟩ := mem_ready.1 hm
      have hlt := (Array.getElem?_eq_some_iff.1 h2).1
      rw [upTo_getD _ _ _ _ (Nat.le_refl _) hlt] at h1
      simp at h1; omega
  | f + 1, j, hj, hf, a, w, h => by
    have hlt : j < ops.size := by omega
    have h1 := List.all_eq_true.1 hq j (List.mem_range.2 hlt)
    rw [Nat.ble_eq_true_of_le hj] at h1
    simp only [cond_true] at h1
    split at h1
    · rename_i q hr
      have e := Nat.eq_of_beq_eq_true h1
      subst e
      refine wpAny_all hr (by simp) (fun i hi => ?_)
      simp only [List.mem_singleton] at hi
      subst hi
      rw [upTo_set _ _ hlt]
      have ho : ops[i]? = some ops[i] := Array.getElem?_eq_getElem hlt
      rw [show ops.toList.drop i = ops[i] :: ops.toList.drop (i + 1) by rw [List.drop_eq_getElem_cons (by simpa using hlt)]; simp] at h
      have ih := tail_wp hq f (i + 1) (by omega) (by omega)
      unfold wpOp
      rw [ho]
      simp only
      unfold wpList at h
      split at h
      · rename_i hw
        rw [if_pos hw]
        exact h.imp (Oper.wp_mono fun a w h => ih a w h) id
      · rename_i hw
        rw [if_neg hw]
        exact ih _ _ h
    · cases h1

/-- The part in whatever order. -/
theorem front_any (pre : List Nat) (hk : itOk ops ts0 G0 n its its = true) (ho : Obs P ops ts0 G0 its) (ht : frontOkP ops its pre = true)
    (tail : ∀ a w ι, Sat E n ds ι (GOf G0 (fun _ => true) its) (tsOf ts0 (fun _ => true) its) a w → wpAny P .any ops Q (ops.size - its.length) (upTo ops.size its.length) a w) (hfx : ∀ l ∈ its.flatMap (fun it => labs it.g), ds.fx.contains l = false) :
    ∀ (f : Nat) (L : Array Bool) (a : Act) (w : World) (ι : LMap), L.size = ops.size → List.count false L.toList = f → (∀ j, its.length ≤ j → L.getD j false = false) → (∀ i ∈ pre, L.getD i false = true) →
      (∀ i, L.getD i false = true → ∀ q ∈ dpOf its i, L.getD q false = true) → Sat E n ds ι (GOf G0 (fun i => L.getD i false) its) (tsOf ts0 (fun i => L.getD i false) its) a w → wpAny P .any ops Q f L a w := by
  simp only [frontOkP, Bool.and_eq_true] at ht
  obtain ⟨t1, t4⟩ := ht
  have t4 := Nat.le_of_ble_eq_true t4
  intro f
  induction f with
  | zero =>
    intro L a w ι hs hc hj hpre hcl S
    -- all are listed
    have hall : ∀ i, i < ops.size → L.getD i false = true := by
      intro i hi
      cases hv : L.getD i false with
      | true => rfl
      | false =>
        have : false ∈ L.toList := by
          rw [Array.getD_eq_getD_getElem?, Array.getElem?_eq_getElem (by omega)] at hv
          simp only [Option.getD_some] at hv
          rw [← hv]; simp
        have := List.count_pos_iff.2 this
        omega
    have hlen : its.length = ops.size := by
      rcases Nat.lt_or_ge its.length ops.size with h | h
      · have := hall its.length h; rw [hj its.length (Nat.le_refl _)] at this; cases this
      · omega
    have e : L = upTo ops.size ops.size := by
      apply Array.ext
      · rw [hs, upTo_size _ _ (Nat.le_refl _)]
      · intro i h1 h2
        have g1 := hall i (by omega)
        rw [Array.getD_eq_getD_getElem?, Array.getElem?_eq_getElem h1] at g1
        have g2 := upTo_getD ops.size ops.size i false (Nat.le_refl _) (by omega)
        rw [Array.getD_eq_getD_getElem?, Array.getElem?_eq_getElem h2] at g2
        simp only [Option.getD_some] at g1 g2
        rw [g1, g2]; simp; omega
    have S' : Sat E n ds ι (GOf G0 (fun _ => true) its) (tsOf ts0 (fun _ => true) its) a w := by
      refine S.congr (fun t v hv => ?_) (fun l => ?_)
      · rw [look_tsOf hk ho] at hv ⊢
        rcases hv with ⟨it, h1, _, h3⟩ | h
        · exact .inl ⟨it, h1, hall _ (by have := (idx_nodup hk ho).2 it h1; omega), h3⟩
        · exact .inr h
      · apply Option.ext; intro o
        rw [look_GOf hk ho (fun _ h => h) (idx_nodup hk ho).1, look_GOf hk ho (fun _ h => h) (idx_nodup hk ho).1]
        constructor
        · rintro (⟨it, h1, _, h3⟩ | h)
          · exact .inl ⟨it, h1, hall _ (by have := (idx_nodup hk ho).2 it h1; omega), h3⟩
          · exact .inr h
        · rintro (⟨it, h1, _, h3⟩ | h)
          · exact .inl ⟨it, h1, rfl, h3⟩
          · exact .inr h
    subst e
    have := tail a w ι S'
    rw [hlen, Nat.sub_self] at this
    exact this
  | succ f ih =>
    intro L a w ι hs hc hj hpre hcl S
    by_cases hun : ∃ i, i < its.length ∧ L.getD i false = false
    · -- some are left
      have hready : ∀ i ∈ Region.ready .any ops L, i < its.length := by
        intro i hi
        obtain ⟨r1, o, r2, r3⟩ := mem_ready.1 hi
        have hlt := (Array.getElem?_eq_some_iff.1 r2).1
        rcases Nat.lt_or_ge i its.length with h | h
        · exact h
        exfalso
        have hed : ∀ e ∈ edgesOf ops i, L.getD e false = true := by
          intro e he
          obtain ⟨ed, h1, h2, h3⟩ := (mem_edges r2).1 he
          rw [← h3]; exact r3 ed h1 h2
        have h1 := List.all_eq_true.1 t1 i (List.mem_range.2 hlt)
        rw [Nat.ble_eq_true_of_le h] at h1
        simp only [cond_true, Bool.or_eq_true] at h1
        rcases h1 with h1 | h1
        · obtain ⟨u, hu, hv⟩ := hun
          rcases List.mem_append.1 (subN_iff.1 h1 u (List.mem_filter.2 ⟨List.mem_range.2 hu, by cases hx : memN pre u with | false => rfl | true => rw [hpre u (memN_iff.1 hx)] at hv; cases hv⟩)) with h1 | h1
          · rw [hed u h1] at hv; cases hv
          · obtain ⟨e, he, h2⟩ := List.mem_flatMap.1 h1
            rw [hcl e (hed e he) u h2] at hv; cases hv
        · simp only [List.any_eq_true, Bool.and_eq_true] at h1
          obtain ⟨e, he, h1, h2⟩ := h1
          have := hed e he
          rw [hj e (Nat.le_of_ble_eq_true h1)] at this; cases this
      refine ⟨fun hr => ?_, fun i hi => ?_⟩
      · -- the least that is left is ready
        exfalso
        obtain ⟨u, ⟨hu, hv⟩, hmin⟩ : ∃ u, (u < its.length ∧ L.getD u false = false) ∧ ∀ v, v < u → ¬ (v < its.length ∧ L.getD v false = false) := by
          obtain ⟨i, hi⟩ := hun
          induction i using Nat.strongRecOn with
          | ind i ihh =>
            by_cases h : ∃ v, v < i ∧ v < its.length ∧ L.getD v false = false
            · obtain ⟨v, h1, h2⟩ := h; exact ihh v h1 h2
            · exact ⟨i, hi, fun v hv hx => h ⟨v, hv, hx⟩⟩
        obtain ⟨pre, it, r, e1, e2, g⟩ := good_at hk ho u hu
        obtain ⟨o, q1, q2, q3, q4⟩ := g.ob
        have hix : it.i = u := by rw [g.ix, e2]
        have : u ∈ Region.ready .any ops L := by
          rw [mem_ready]
          have hlt : u < L.size := by rw [hs]; omega
          refine ⟨?_, o, hix ▸ q1, fun ed hed hb => ?_⟩
          · rw [Array.getD_eq_getD_getElem?, Array.getElem?_eq_getElem hlt] at hv ⊢; exact hv
          · have hd := g.down ed.on ((mem_edges q1).2 ⟨ed, hed, hb, rfl⟩)
            rw [hix] at hd
            cases hx : L.getD ed.on false with
            | true => rfl
            | false => exact absurd ⟨by omega, hx⟩ (hmin ed.on hd)
        rw [hr] at this; cases this
      · have hik := hready i hi
        obtain ⟨r1, o, r2, r3⟩ := mem_ready.1 hi
        have hlt := (Array.getElem?_eq_some_iff.1 r2).1
        obtain ⟨pre, it, r, e1, e2, g⟩ := good_at hk ho i hik
        obtain ⟨o', q1, q2, q3, q4⟩ := g.ob
        have hix : it.i = i := by rw [g.ix, e2]
        rw [hix, r2] at q1
        injection q1 with q1
        subst q1
        have hmem : it ∈ its := by rw [e1]; simp
        have hdpOf : dpOf its i = it.dp := by
          unfold dpOf
          have := itemAt_mid (pre := pre) (r := r) (it := it)
          rw [← e1, e2] at this
          rw [this]; rfl
        have hun' : L.getD i false = false := by
          rw [Array.getD_eq_getD_getElem?, Array.getElem?_eq_getElem (by omega)] at r1 ⊢; exact r1
        have hed : ∀ e ∈ edgesOf ops i, L.getD e false = true := by
          intro e he
          obtain ⟨ed, h1, h2, h3⟩ := (mem_edges r2).1 he
          rw [← h3]; exact r3 ed h1 h2
        have hdp : ∀ q ∈ it.dp, L.getD q false = true := by
          intro q hq
          have := g.dp q hq
          rw [hix] at this
          rcases List.mem_append.1 this with h | h
          · exact hed q h
          · obtain ⟨e, he, h2⟩ := List.mem_flatMap.1 h; exact hcl e (hed e he) q h2
        obtain ⟨sk, so⟩ := suffix_eq (pre := pre ++ [it]) (r := r) hk ho (by rw [e1]; simp)
        have hrsub : ∀ jt ∈ r, jt ∈ its := fun jt hj => by rw [e1]; simp [hj]
        have hrn : (r.map (·.i)).Nodup := (idx_nodup sk so).1
        have SL1 : SubL (tsOf ts0 (memN it.dp) r) (tsOf ts0 (fun i => L.getD i false) its) := by
          intro t v hv
          rw [look_tsOf sk so] at hv
          rw [look_tsOf hk ho]
          rcases hv with ⟨jt, h1, h2, h3⟩ | h
          · exact .inl ⟨jt, hrsub jt h1, hdp _ (memN_iff.1 h2), h3⟩
          · exact .inr h
        have SL2 : SubL (GOf G0 (memN it.dp) r) (GOf G0 (fun i => L.getD i false) its) := by
          intro t v hv
          rw [look_GOf hk ho hrsub hrn] at hv
          rw [look_GOf hk ho (fun _ h => h) (idx_nodup hk ho).1]
          rcases hv with ⟨jt, h1, h2, h3⟩ | h
          · exact .inl ⟨jt, hrsub jt h1, hdp _ (memN_iff.1 h2), h3⟩
          · exact .inr h
        have hother : ∀ l ∈ labs it.g, ∀ jt ∈ its, L.getD jt.i false = true → freshIt l jt = true := by
          intro l hl jt hj hL
          rcases (g.fr l hl).2.2 jt hj with h | h | h
          · rw [h, hix, hun'] at hL; cases hL
          · have : it.i ∈ dpOf its jt.i := by
              obtain ⟨pre2, jt2, r2', f1, f2, g2⟩ := good_at hk ho jt.i ((idx_nodup hk ho).2 jt hj)
              have hsame : jt2 = jt := by
                have hn := (idx_nodup hk ho).1
                have hm2 : jt2 ∈ its := by rw [f1]; simp
                have : jt2.i = jt.i := by rw [g2.ix, f2]
                exact inj_nodup hn hm2 hj this
              unfold dpOf
              have h3 := itemAt_mid (pre := pre2) (r := r2') (it := jt2)
              rw [← f1, f2] at h3
              rw [h3, hsame]; exact h
            have := hcl _ hL _ this
            rw [hix, hun'] at this; cases this
          · exact h
        have hfresh : freshAll it.g (tsOf ts0 (fun i => L.getD i false) its) (GOf G0 (fun i => L.getD i false) its) := by
          intro q hq
          have hl : q.1 ∈ labs it.g := List.mem_map.2 ⟨q, hq, rfl⟩
          obtain ⟨f1, f2, _⟩ := g.fr q.1 hl
          have ho' := hother q.1 hl
          have key : ∀ rs : List It, (∀ jt ∈ rs, jt ∈ its) → freshT q.1 (tsOf ts0 (fun i => L.getD i false) rs) = true ∧ freshG q.1 (GOf G0 (fun i => L.getD i false) rs) = true := by
            intro rs
            induction rs with
            | nil => intro _; exact ⟨f1, f2⟩
            | cons jt rs ihr =>
              intro hs'
              obtain ⟨k1, k2⟩ := ihr (fun j hj => hs' j (by simp [hj]))
              simp only [tsOf, GOf]
              cases hL : L.getD jt.i false with
              | false => exact ⟨k1, k2⟩
              | true =>
                have := ho' jt (hs' jt (by simp)) hL
                simp only [freshIt, Bool.and_eq_true] at this
                simp only [cond_true, freshT, List.all_cons, Bool.and_eq_true]
                refine ⟨⟨this.1, k1⟩, ?_⟩
                simp only [freshG, List.all_append, Bool.and_eq_true]
                exact ⟨this.2, k2⟩
          exact key its (fun _ h => h)
        have hset : ∀ j, (L.setIfInBounds i true).getD j false = (L.getD j false || decide (j = i)) := by
          intro j
          by_cases h : i = j
          · subst h; simp [Array.getD_eq_getD_getElem?, Array.getElem?_setIfInBounds, show i < L.size by omega]
          · rw [getD_set_ne false h]; simp [Ne.symm h]
        refine (show wpOp P ops Q i (wpAny P .any ops Q f (L.setIfInBounds i true)) a w from ?_)
        unfold wpOp
        rw [r2]
        simp only
        rw [if_pos (by simp [Region.wanted, q2])]
        left
        refine q4 _ _ SL1 SL2 hfresh (fun q hq => hfx q.1 (List.mem_flatMap.2 ⟨it, hmem, List.mem_map.2 ⟨q, hq, rfl⟩⟩)) S _ _ (fun u w1 ι1 S1 hR => ?_)
        have S2 := S1.put g.dn hR
        rw [q3]
        refine ih _ _ _ ι1 (by rw [Array.size_setIfInBounds]; exact hs) ?_ ?_ (fun q hq => by rw [hset, hpre q hq]; rfl) ?_ (S2.congr ?_ ?_)
        · have hil : i < L.toList.length := by simp; omega
          have : (L.setIfInBounds i true).toList = L.toList.set i true := by simp
          rw [this, List.count_set hil]
          have hb : L.toList[i] = false := by
            rw [Array.getD_eq_getD_getElem?, Array.getElem?_eq_getElem (by omega)] at hun'
            simpa using hun'
          rw [hb, hc]; simp
        · intro j hjj
          rw [hset, hj j hjj]; simp; omega
        · intro j hL q hq
          rw [hset] at hL ⊢
          simp only [Bool.or_eq_true, decide_eq_true_eq] at hL ⊢
          rcases hL with h | h
          · exact .inl (hcl j h q hq)
          · subst h; rw [hdpOf] at hq; exact .inl (hdp q hq)
        · intro t v hv
          rw [look_tsOf hk ho] at hv
          rcases hv with ⟨jt, h1, h2, h3, h4⟩ | h
          · rw [hset] at h2
            simp only [Bool.or_eq_true, decide_eq_true_eq] at h2
            by_cases hd : it.d = t
            · -- the same result's place: the same operation
              have hsame : jt = it := by
                rcases h2 with h2 | h2
                · exfalso
                  have hlt2 := (idx_nodup hk ho).2 jt h1
                  have hne : jt.i ≠ it.i := by rw [hix]; intro e; rw [e, hun'] at h2; cases h2
                  -- two items with one destination: the later one's row says no
                  rcases Nat.lt_or_ge jt.i it.i with hl | hl
                  · have : jt ∈ r := by
                      rw [e1] at h1
                      rcases List.mem_append.1 h1 with h5 | h5
                      · exfalso
                        have hnd := (idx_nodup hk ho).1
                        obtain ⟨p2, r2', f1, g2⟩ := good_of hk ho jt (by rw [e1]; exact List.mem_append_left _ h5)
                        obtain ⟨s1, s2, rfl⟩ := List.append_of_mem h5
                        have hix2 : jt.i = (s2 ++ it :: r).length := by
                          obtain ⟨g3, _, _⟩ := itOk_cons (suffix_eq (pre := s1) (r := jt :: (s2 ++ it :: r)) hk ho (by rw [e1]; simp)).1 (suffix_eq (pre := s1) (r := jt :: (s2 ++ it :: r)) hk ho (by rw [e1]; simp)).2
                          exact g3.ix
                        have := g.ix
                        simp at hix2; omega
                      · rcases List.mem_cons.1 h5 with h5 | h5
                        · exact absurd (h5 ▸ rfl) hne
                        · exact h5
                    exact g.dr (by rw [hd, ← h3]; exact List.mem_map.2 ⟨jt, this, rfl⟩)
                  · obtain ⟨p2, r2', f1, g2⟩ := good_of hk ho jt h1
                    have : it ∈ r2' := by
                      have hm := hmem
                      rw [f1] at hm
                      rcases List.mem_append.1 hm with h5 | h5
                      · exfalso
                        obtain ⟨s1, s2, rfl⟩ := List.append_of_mem h5
                        have hix2 : it.i = (s2 ++ jt :: r2').length := by
                          obtain ⟨g3, _, _⟩ := itOk_cons (suffix_eq (pre := s1) (r := it :: (s2 ++ jt :: r2')) hk ho (by rw [f1]; simp)).1 (suffix_eq (pre := s1) (r := it :: (s2 ++ jt :: r2')) hk ho (by rw [f1]; simp)).2
                          exact g3.ix
                        have := g2.ix
                        simp at hix2; omega
                      · rcases List.mem_cons.1 h5 with h5 | h5
                        · exact absurd (h5 ▸ rfl) hne
                        · exact h5
                    exact g2.dr (by rw [h3, ← hd]; exact List.mem_map.2 ⟨it, this, rfl⟩)
                · exact inj_nodup (idx_nodup hk ho).1 h1 hmem (by rw [h2, hix])
              subst hsame
              rw [← h4, ← h3]; exact look_cons_same _ _ _
            · rw [look_cons_ne _ _ hd, look_tsOf hk ho]
              rcases h2 with h2 | h2
              · exact .inl ⟨jt, h1, h2, h3, h4⟩
              · exfalso
                have := inj_nodup (idx_nodup hk ho).1 h1 hmem (by rw [h2, hix])
                subst this; exact hd h3
          · have hd : it.d ≠ t := by intro e; subst e; rw [g.d0] at h; cases h
            rw [look_cons_ne _ _ hd, look_tsOf hk ho]; exact .inr h
        · intro l
          apply Option.ext; intro ob
          rw [look_GOf hk ho (fun _ h => h) (idx_nodup hk ho).1, look_app]
          have hold := look_GOf hk ho (p := fun i => L.getD i false) (l := l) (o := ob) (fun _ h => h) (idx_nodup hk ho).1
          constructor
          · rintro (⟨jt, h1, h2, h3⟩ | h)
            · rw [hset] at h2
              simp only [Bool.or_eq_true, decide_eq_true_eq] at h2
              by_cases hs' : jt = it
              · subst hs'; rw [h3]; rfl
              · have hne : jt.i ≠ it.i := fun e => hs' (inj_nodup (idx_nodup hk ho).1 h1 hmem e)
                have : look it.g l = none := by
                  cases hg : look it.g l with
                  | none => rfl
                  | some z => exact absurd (labs_look h3) (labs_apart hk ho hmem h1 (Ne.symm hne) (labs_look hg))
                rw [this]
                simp only [Option.none_or]
                rcases h2 with h2 | h2
                · exact hold.2 (.inl ⟨jt, h1, h2, h3⟩)
                · exact absurd (by rw [h2, hix]) hne
            · have : look it.g l = none := by
                cases hg : look it.g l with
                | none => rfl
                | some z =>
                  have := freshG_look (g.fr l (labs_look hg)).2.1
                  rw [this] at h; cases h
              rw [this]
              simp only [Option.none_or]
              exact hold.2 (.inr h)
          · intro h
            cases hg : look it.g l with
            | some z =>
              rw [hg] at h
              simp only [Option.some_or, Option.some.injEq] at h
              subst h
              exact .inl ⟨it, hmem, by rw [hset, hix]; simp, hg⟩
            | none =>
              rw [hg] at h
              simp only [Option.none_or] at h
              rcases hold.1 h with ⟨jt, h1, h2, h3⟩ | h0
              · exact .inl ⟨jt, h1, by rw [hset, h2]; simp, h3⟩
              · exact .inr h0
    · -- the tail
      have hall : ∀ i, i < its.length → L.getD i false = true := fun i hi => by
        cases hv : L.getD i false with
        | true => rfl
        | false => exact absurd ⟨i, hi, hv⟩ hun
      have e : L = upTo ops.size its.length := by
        apply Array.ext
        · rw [hs, upTo_size _ _ t4]
        · intro i h1 h2
          have g2 := upTo_getD ops.size its.length i false t4 (by omega)
          rw [Array.getD_eq_getD_getElem?, Array.getElem?_eq_getElem h2] at g2
          simp only [Option.getD_some] at g2
          rw [g2]
          rcases Nat.lt_or_ge i its.length with h | h
          · have g1 := hall i h
            rw [Array.getD_eq_getD_getElem?, Array.getElem?_eq_getElem h1] at g1
            simp only [Option.getD_some] at g1
            rw [g1]; simp [h]
          · have g1 := hj i h
            rw [Array.getD_eq_getD_getElem?, Array.getElem?_eq_getElem h1] at g1
            simp only [Option.getD_some] at g1
            rw [g1]; simp; omega
      have S' : Sat E n ds ι (GOf G0 (fun _ => true) its) (tsOf ts0 (fun _ => true) its) a w := by
        refine S.congr (fun t v hv => ?_) (fun l => ?_)
        · rw [look_tsOf hk ho] at hv ⊢
          rcases hv with ⟨it, h1, _, h3⟩ | h
          · exact .inl ⟨it, h1, hall _ ((idx_nodup hk ho).2 it h1), h3⟩
          · exact .inr h
        · apply Option.ext; intro o
          rw [look_GOf hk ho (fun _ h => h) (idx_nodup hk ho).1, look_GOf hk ho (fun _ h => h) (idx_nodup hk ho).1]
          constructor
          · rintro (⟨it, h1, _, h3⟩ | h)
            · exact .inl ⟨it, h1, hall _ ((idx_nodup hk ho).2 it h1), h3⟩
            · exact .inr h
          · rintro (⟨it, h1, _, h3⟩ | h)
            · exact .inl ⟨it, h1, rfl, h3⟩
            · exact .inr h
      have hcount : its.length + (f + 1) = ops.size := by
        rw [e] at hc
        simp only [upTo, List.toList_toArray, List.count_append, List.count_replicate] at hc
        simp at hc; omega
      rw [e]
      have := tail a w ι S'
      rw [show ops.size - its.length = f + 1 by omega] at this
      exact this

theorem front_wp (hk : itOk ops ts0 G0 n its its = true) (ho : Obs P ops ts0 G0 its) (ht : tailOk ops its = true)
    (tail : ∀ a w ι, Sat E n ds ι (GOf G0 (fun _ => true) its) (tsOf ts0 (fun _ => true) its) a w → wpList P ops Q (ops.toList.drop its.length) a w) (hfx : ∀ l ∈ its.flatMap (fun it => labs it.g), ds.fx.contains l = false) :
    ∀ (f : Nat) (L : Array Bool) (a : Act) (w : World) (ι : LMap), L.size = ops.size → List.count false L.toList = f → (∀ j, its.length ≤ j → L.getD j false = false) →
      (∀ i, L.getD i false = true → ∀ q ∈ dpOf its i, L.getD q false = true) → Sat E n ds ι (GOf G0 (fun i => L.getD i false) its) (tsOf ts0 (fun i => L.getD i false) its) a w → wpAny P .any ops Q f L a w := by
  simp only [tailOk, Bool.and_eq_true] at ht
  have t4 : its.length ≤ ops.size := by
    have := ht.1
    simp only [frontOk, frontOkP, Bool.and_eq_true] at this
    exact Nat.le_of_ble_eq_true this.2
  exact fun f L a w ι h1 h2 h3 h4 h5 => front_any [] hk ho ht.1 (fun a w ι S => tail_wp (its := its) ht.2 _ _ (Nat.le_refl _) (by omega) a w (tail a w ι S)) hfx f L a w ι h1 h2 h3 (fun i hi => by cases hi) h4 h5

theorem tsOf_none (ts0 : TS) (p : Nat → Bool) (h : ∀ i, p i = false) : ∀ its : List It, tsOf ts0 p its = ts0
  | [] => rfl
  | it :: r => by simp only [tsOf, h, cond_false]; exact tsOf_none ts0 p h r
theorem GOf_none (G0 : GS) (p : Nat → Bool) (h : ∀ i, p i = false) : ∀ its : List It, GOf G0 p its = G0
  | [] => rfl
  | it :: r => by simp only [GOf, h, cond_false]; exact GOf_none G0 p h r

/-- A region whose order is drawn: some operations in whatever order, the others one behind the other. -/
theorem AW.draw {id : Nat} {l : List Oper} {Q : Exit → TS → GS → Prop} {ts : TS} {G : GS} (hm : P.follows .mixedOrders = true) {its : List It} (hk : itOk l.toArray ts G n its its = true) (ho : Obs P l.toArray ts G its) (ht : tailOk l.toArray its = true)
    (hfx : ((its.flatMap fun it => labs it.g).all fun q => !ds.fx.contains q) = true) (next : AL P n ds l.toArray (l.drop its.length) Q (tsOf ts (fun _ => true) its) (GOf G (fun _ => true) its)) : AW P n ds (.region id l.toArray true) Q ts G := by
  intro E ι a w S
  have h0 : ∀ i, (Array.replicate l.toArray.size false).getD i false = false := by
    intro i
    rw [Array.getD_eq_getD_getElem?]
    by_cases h : i < l.toArray.size
    · rw [Array.getElem?_eq_getElem (by simpa using h)]; simp
    · rw [Array.getElem?_eq_none (by simpa using h)]; rfl
  refine wp_region_any hm ?_
  have S' : Sat E n ds ι G ts a { w with drawn := w.drawn + 1 } := S.grow rfl rfl rfl (Nat.le_refl _) (fun _ _ => rfl)
  refine front_wp (E := E) (ts0 := ts) (G0 := G) (its := its) hk ho ht (fun a w ι S => ?_) (fun q hq => by simpa using List.all_eq_true.1 hfx q hq) _ _ a _ ι (by simp) (by simp) (fun j _ => h0 j) (fun i hi => by rw [h0] at hi; cases hi) ?_
  · have := next E ι a w S
    simpa using this
  · rw [tsOf_none _ _ h0, GOf_none _ _ h0]; exact S'

/-- A drawn region on the way: the operations shown so far. -/
def AD (P : Program) (n : Nat) (ds : Fx) (id : Nat) (l : List Oper) (Q : Exit → TS → GS → Prop) (ts : TS) (G : GS) (its : List It) : Prop := Obs P l.toArray ts G its → AW P n ds (.region id l.toArray true) Q ts G
theorem AD.start {id : Nat} {l : List Oper} {Q : Exit → TS → GS → Prop} {ts : TS} {G : GS} (h : AD P n ds id l Q ts G []) : AW P n ds (.region id l.toArray true) Q ts G := h trivial
theorem AD.op {id : Nat} {l : List Oper} {Q : Exit → TS → GS → Prop} {ts : TS} {G : GS} {x : AV} {o : Oper} (i d : Nat) (dp : List Nat) (g : GS) (hi : l.toArray[i]? = some o) (hg : o.guard = none) (hd : o.dst = some d)
    (hb : Bth P o (tsOf ts (memN dp) its) (GOf G (memN dp) its) x g) (h : AD P n ds id l Q ts G (⟨i, d, x, g, dp⟩ :: its)) : AD P n ds id l Q ts G its :=
  fun ho => h ⟨⟨o, hi, hg, hd, hb⟩, ho⟩
theorem AD.tail {id : Nat} {l : List Oper} {Q : Exit → TS → GS → Prop} {ts : TS} {G : GS} (hm : P.follows .mixedOrders = true) (hk : itOk l.toArray ts G n its its = true) (ht : tailOk l.toArray its = true)
    (hfx : ((its.flatMap fun it => labs it.g).all fun q => !ds.fx.contains q) = true) (next : AL P n ds l.toArray (l.drop its.length) Q (tsOf ts (fun _ => true) its) (GOf G (fun _ => true) its)) : AD P n ds id l Q ts G its :=
  fun ho => AW.draw hm hk ho ht hfx next

theorem mem_dropAll {G0 : GS} {q : Nat × AObj} : ∀ {G : GS}, q ∈ dropAll G0 G → q ∈ G
  | [], h => by cases h
  | z :: G, h => by
    simp only [dropAll] at h
    cases hz : (look G0 z.1).isSome with
    | true => rw [hz] at h; exact List.mem_cons_of_mem _ (mem_dropAll h)
    | false =>
      rw [hz] at h
      rcases List.mem_cons.1 h with rfl | h
      · simp
      · exact List.mem_cons_of_mem _ (mem_dropAll h)
theorem look_some_of_mem {p : Nat × AObj} : ∀ {G : GS}, p ∈ G → (look G p.1).isSome = true
  | [], h => by cases h
  | z :: G, h => by
    by_cases e : z.1 = p.1
    · rw [← e, look_cons_same]; rfl
    · rw [look_cons_ne _ _ e]
      rcases List.mem_cons.1 h with h | h
      · exact absurd (h ▸ rfl) e
      · exact look_some_of_mem h
/-- A call that only makes. -/
theorem B_call {f : FuncId} {xs : Array Operand} {d : Tmp} {ats : Array TypeId} {args : List AV} {G0 : GS} {R : AV → GS → Prop} {tsm : TS} {Gm : GS} {x : AV} {g : GS} {ty : TypeId} {pos : String} {after : Array Edge} {gd : Option (Nat × Bool)}
    (c : ACalls P f args G0 [] R) (fv : Operand) (hfv : evA tsm fv = some (.fn f [] [])) (hargs : evs tsm xs.toList = some args) (hsub : SubG G0 Gm) (hR : ∀ r G', R r G' → r = x ∧ G' = g ++ G0) :
    Bth P ⟨some d, .call { callee := .value fv, args := xs, argTypes := ats }, ty, pos, after, gd⟩ tsm Gm x g := by
  intro ts G hT hG hf E n ds ι a w hx S K Q hK
  have hsubG : SubG G0 G := fun p hp => hG _ _ (hsub p hp)
  have hf' := S.ev (evA_more hT hfv)
  simp only [RA] at hf'
  obtain ⟨fs, cs, hfe, hf1, hf2⟩ := hf'
  simp only [RAs] at hf1 hf2
  subst hf1 hf2
  have ha := S.evl (evs_more hT hargs)
  have hsub' : HSat (fun b => E.X b ∨ LBlk ι (dropAll G0 G) b) ι G0 w := S.hp.sub hsubG
  have hm : ∀ b, Mut (fun b => E.X b ∨ LBlk ι (dropAll G0 G) b) ι G0 b → Mut E.X ι G b := by
    rintro b ((hx | ⟨l, hl, e⟩) | ⟨l, hl, e⟩)
    · exact .inl hx
    · refine .inr ⟨l, ?_, e⟩
      obtain ⟨o, ho⟩ := hl
      rw [look_dropAll] at ho
      cases hc : (look G0 l).isSome with
      | true => rw [hc] at ho; cases ho
      | false => rw [hc] at ho; exact ⟨o, ho⟩
    · exact .inr ⟨l, hl.sub hsubG, e⟩
  have k : Keep (Mut E.X ι G) (Mut (fun b => E.X b ∨ LBlk ι (dropAll G0 G) b) ι G0) w w := ⟨Nat.le_refl _, fun _ _ _ => rfl, fun b _ hb => hm b hb, fun _ _ => rfl⟩
  have hc := c _ ι w _ hsub' (RAs.keep0 k ha)
  have hrun : (execOp a.eval ⟨some d, .call { callee := .value fv, args := xs, argTypes := ats }, ty, pos, after, gd⟩).run P w = (callFunc f (xs.toList.map a.eval).toArray).run P w := by
    simp only [execOp, resolve, hfe, Deferred.ofValue, Sem.run_bind, Sem.run_pure, Result.andThen_ok, invoke]
    congr 2
    apply Array.ext'
    simp
  refine upon_callF (f := f) (vs := (xs.toList.map a.eval).toArray) hrun (hc.mono ?_)
  rintro e w' ⟨v, r, G', ι', rfl, hr0, H, hr, F, hnew, hfix, hout⟩
  obtain ⟨rfl, rfl⟩ := hR r G' hr0
  have hok : okNew [] G0 (g ++ G0) (dropAll G0 G) ts = true := by
    unfold okNew
    rw [List.all_eq_true]
    intro p hp
    rcases List.mem_append.1 hp with hp | hp
    · obtain ⟨f1, f2⟩ := hf p hp
      have hl : look G p.1 = none := freshG_look f2
      simp only [Bool.and_eq_true, Bool.or_eq_true]
      refine ⟨by rw [look_dropAll, hl]; cases (look G0 p.1).isSome <;> rfl, .inr ⟨f1, ?_⟩⟩
      rw [List.all_eq_true]
      intro q hq
      have hqG : q ∈ G := mem_dropAll hq
      have := List.all_eq_true.1 f2 q hqG
      simp only [Bool.and_eq_true] at this
      exact this.2
    · have hs : (look G0 p.1).isSome = true := look_some_of_mem hp
      simp [look_dropAll, hs]
  obtain ⟨S', hmut⟩ := S.called hsubG H F hnew hfix hout hok (fun l hl hd => by
    rcases InDom_look.1 hd |> fun h => (show (look (g ++ G0) l).isSome = true from h) with h
    rw [look_app] at h
    cases hg : look g l with
    | some o =>
      have := hx _ (mem_of_look hg)
      simp at this; exact absurd hl this
    | none => rw [hg] at h; simp only [Option.none_or] at h; exact ⟨InDom_look.2 h, by simp⟩)
  have k2 : Keep (Mut (fun b => E.X b ∨ LBlk ι (dropAll G0 G) b) ι' (g ++ G0)) (Mut E.X ι' ((g ++ G0) ++ dropAll G0 G)) w' w' := ⟨Nat.le_refl _, fun _ _ _ => rfl, fun b _ hm => (hmut b).1 hm, fun _ _ => rfl⟩
  have hlook : ∀ l, look (g ++ G) l = look ((g ++ G0) ++ dropAll G0 G) l := by
    intro l
    rw [look_app, look_app, look_app, look_dropAll]
    cases look g l with
    | some o => rfl
    | none =>
      simp only [Option.none_or]
      cases hg : look G0 l with
      | some o => simp only [Option.some_or]; exact hsubG _ (mem_of_look hg)
      | none => simp
  have S2 := S'.congr (ts' := ts) (fun _ _ h => h) hlook
  have hmm : Mut E.X ι' (g ++ G) = Mut E.X ι' ((g ++ G0) ++ dropAll G0 G) := by
    funext b; unfold Mut InDom; simp only [hlook]
  exact ⟨v, rfl, hK v w' ι' S2 (by rw [hmm]; exact RA.keep0 k2 hr)⟩
end

end Go.Ab
