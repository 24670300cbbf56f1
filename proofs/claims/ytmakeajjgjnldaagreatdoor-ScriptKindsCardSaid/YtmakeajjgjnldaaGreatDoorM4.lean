/- The abstract machine, texts 27 to 35: laws of its own over the model, with no program in sight. -/
import Derived.Test.YtmakeajjgjnldaaGreatDoorM3
import Derived.Carry
import Derived.Deep.Draws
import Derived.LaidMore
import Derived.Lay
import Derived.OpenShut
import Derived.ProofKit
import Derived.SevenTiedAt
import Derived.Stop.Joined
set_option linter.unusedVariables false
set_option linter.unusedSimpArgs false
namespace Go.Ab
open Go

theorem strCells_bs {M : BSet} {w : World} (s : ByteArray) : RTe M w 1 (bs s.data.toList) (Lib.strCells s) := by
  have e : Lib.strCells s = s.data.toList.map (fun x => Value.int .u8 (x.toNat : Int)) := by simp [Lib.strCells]
  rw [e]
  exact RTe_one (f := b8) (g := fun x => Value.int .u8 (x.toNat : Int)) (fun x => ⟨by simp [RT], rfl⟩) _
theorem sizeList (s : ByteArray) : s.data.toList.length = s.size := by rw [Array.length_toList]; rfl

theorem killA_idem (l : Nat) (c : AV) : killA l (killA l c) = killA l c := by
  unfold killA
  cases h : noRef l c with
  | true => simp only [cond_true, h]
  | false => simp [noRef, allRef]
theorem killO_idem (l : Nat) (o : AObj) : killO l (killO l o) = killO l o := by
  cases o with
  | row e cs => simp only [killO, List.map_map]; congr 1; apply List.map_congr_left; intro c _; exact killA_idem l c
  | map es => simp only [killO, List.map_map]; congr 1; apply List.map_congr_left; intro c _; simp only [Function.comp]; rw [killA_idem]
  | els e sz xs => rfl
  | mapT es => rfl
  | mapS es => simp only [killO, List.map_map]; congr 1; apply List.map_congr_left; intro c _; simp only [Function.comp]; rw [killA_idem]
  | cst q ob => rfl
theorem killT_idem {l : Nat} : ∀ {ts : TS} {t : Nat} {v : AV}, look (killT l ts) t = some v → look (killT l (killT l ts)) t = some v
  | [], t, v, h => h
  | p :: r, t, v, h => by
    simp only [killT] at h ⊢
    simp only [look] at h ⊢
    cases hb : Nat.beq p.1 t with
    | true =>
      rw [hb] at h
      simp only [cond_true, Option.some.injEq] at h ⊢
      rw [← h]
      exact killA_idem l p.2
    | false => rw [hb] at h; exact killT_idem h

section
variable {P : Program} {n : Nat} {ds : Fx} {E : Env} {ι : LMap} {G : GS} {ts : TS} {a : Act} {w : World} {ty : TypeId} {pos : String} {after : Array Edge} {gd : Option (Nat × Bool)} {dst : Option Tmp}
theorem E_appendS {x y : Operand} {st e tn : TypeId} {s1 s2 by_ l m : Nat} {de : TypeDesc} {z : Value} {xs : List Tr} {s : ByteArray} (ht : TyIs P st (.slice e) s1) (htn : TyIs P tn .string s2) (he : TyIs P e de 1) (hz : TyZ P e z) (hb : TyB P e by_)
    (hsz : (Nat.beq z.cells.size 1 && z.cells.toList.all (·.oneCell')) = true) (hx : evA ts x = some (.own 1 l 0 m)) (hy : evA ts y = some (vS s)) (hl : look G l = some (.els e 1 xs)) (hF : ds.fx.contains l = false)
    (hm : m ≤ xs.length) (hbig : (m + s.size) * by_ ≤ 140737488355328 ∧ m + s.size ≤ 9223372036854775807) :
    Eff1 P ds ⟨dst, .call { callee := .builtin .append, args := #[x, y], argTypes := #[st, tn] }, ty, pos, after, gd⟩ ts G (.own 1 l 0 (m + s.size)) (killT l ts) ((l, .els e 1 (xs.take m ++ bs s.data.toList)) :: dropL l (killG l G)) :=
  fun {E n ι a w} S => by
    simp only [Bool.and_eq_true] at hsz
    have hz1 := Nat.eq_of_beq_eq_true hsz.1
    have hzo : ∀ c ∈ z.cells.toList, c.oneCell' = true := fun c hc => List.all_eq_true.1 hsz.2 c hc
    obtain ⟨i, hi1, hi2, hi3, hi4⟩ := TyB.get he hz hb
    have hrx := S.ev hx
    have ey := S.evV hy
    simp only [RA] at hrx
    obtain ⟨A, cap, ex, hc1, hc2, hown⟩ := hrx
    have S1 : Sat E n ds ι (killG l G) (killT l ts) a w := (S.kill l).killG l
    have hlk : look (killG l G) l = some (.els e 1 xs) := by rw [look_killG, hl]; rfl
    have hdk : InDom (killG l G) l := ⟨_, hlk⟩
    have hmu : Mut E.X ι (killG l G) = Mut E.X ι G := Mut_killG
    have hobj := S.hp.obj l _ hl
    have hvs := strCells_bs (M := Mut E.X ι G) (w := w) s
    have hvl : (Lib.strCells s).length = s.size := Lib.strCells_length s
    have hvo : ∀ u ∈ Lib.strCells s, u.oneCell' = true := Lib.strCells_oneCell s
    have htake : RO (Mut E.X ι G) ι w (.els e 1 (xs.take m)) (ι l) := by
      rcases hobj with ⟨h1, h2⟩ | ⟨b', us, more, h1, h2, h3, h4⟩
      · left; subst h2; exact ⟨h1, by simp⟩
      · right
        refine ⟨b', us.take (m * 1), us.drop (m * 1) ++ more, h1, ?_, RTe.take m h3, fun u hu => h4 u (by rw [← List.append_assoc, List.take_append_drop] at hu; exact hu)⟩
        rw [← List.append_assoc, List.take_append_drop]; exact h2
    have hG0 : ∀ k q, k ≠ l → look (killG l G) k = some q → noRefO l q = true := by
      intro k q _ hq
      rw [look_killG] at hq
      cases hg : look G k with
      | none => rw [hg] at hq; cases hq
      | some o => rw [hg] at hq; injection hq with hq; subst hq; exact noRefO_killO l o
    have hexec : ∀ v w1, (Builtin.append_ #[st, tn] ty #[a.eval x, a.eval y]).run P w = .ok v w1 → (execOp a.eval ⟨dst, .call { callee := .builtin .append, args := #[x, y], argTypes := #[st, tn] }, ty, pos, after, gd⟩).run P w = .ok (.value v) w1 := by
      intro v w1 h
      simp only [execOp, resolve, invoke, builtin, Sem.run_bind, Sem.run_pure, Result.andThen_ok, List.map_toArray, List.map_cons, List.map_nil, h]
    by_cases hny : s.size = 0
    · have hnil : s.data.toList = [] := List.eq_nil_of_length_eq_zero (by rw [sizeList]; exact hny)
      refine ⟨.slice A m cap, w, ι, hexec _ _ ?_, S1.reO hdk (by rw [hmu, hnil]; simpa using htake), ?_⟩
      · rw [ex, ey]
        have hs0 : s.extract 0 0 = ⟨#[]⟩ := by apply ByteArray.ext; simp
        cases A <;> simp [Builtin.append_, run_underlying ht.und, run_underlying htn.und, sizeOf, typeInfo, hi1, Builtin.lenOf, Builtin.firstCells, loadCells, loadCellsFrom, hc1, storeCells, hny]
      · simp only [RA]; exact ⟨A, cap, by rw [hny]; rfl, by rw [hny]; exact hc1, hc2, hown⟩
    · have fin : ∀ (us0 : List Value) (nc : Nat) (w1 : World), us0.length = m → RTe (Mut E.X ι G) w 1 (xs.take m) us0 → (∀ u ∈ us0, u.oneCell' = true) → m + s.size ≤ nc → nc ≤ maxLen →
          w1 = w.drew.alloc (.cells (us0.toArray ++ (Lib.strCells s).toArray ++ Builtin.zeroCells z.cells (nc - (m + s.size))) e) →
          (Builtin.append_ #[st, tn] ty #[a.eval x, a.eval y]).run P w = .ok (.slice (some ⟨w.heap.size, 0, none⟩) (m + s.size) nc) w1 →
          ∃ u w' ι', (execOp a.eval ⟨dst, .call { callee := .builtin .append, args := #[x, y], argTypes := #[st, tn] }, ty, pos, after, gd⟩).run P w = .ok (.value u) w' ∧
            Sat E n ds ι' ((l, .els e 1 (xs.take m ++ bs s.data.toList)) :: dropL l (Go.Ab.killG l G)) (killT l ts) a w' ∧ RA (Mut E.X ι' ((l, .els e 1 (xs.take m ++ bs s.data.toList)) :: dropL l (Go.Ab.killG l G))) ι' w' (.own 1 l 0 (m + s.size)) u := by
        intro us0 nc w1 h1 h2 h3 h4 h5 hw1 hrun
        have e1 : us0.toArray ++ (Lib.strCells s).toArray ++ Builtin.zeroCells z.cells (nc - (m + s.size)) = ((us0 ++ Lib.strCells s) ++ (Builtin.zeroCells z.cells (nc - (m + s.size))).toList).toArray := by apply Array.ext'; simp
        have hat : w1.heap[w.heap.size]? = some (.cells ((us0 ++ Lib.strCells s) ++ (Builtin.zeroCells z.cells (nc - (m + s.size))).toList).toArray e (0, 0)) := by
          rw [hw1, e1]; exact heap_alloc_at w.drew _
        refine ⟨_, w1, _, hexec _ _ hrun, S1.newEls (w' := w1) (vs := us0 ++ Lib.strCells s) (more := (Builtin.zeroCells z.cells (nc - (m + s.size))).toList) (fun p hp => killT_noRef hp) hG0 hF (by rw [hw1]; rfl) (by rw [hw1]; rfl) (by rw [hw1]; rfl) (by rw [hw1]; exact size_alloc w.drew _)
          (fun b hb => by rw [hw1]; exact heap_alloc_old w.drew _ b hb) hat (by rw [hmu]; exact RTe.append h2 hvs) (fun u hu => by
            rcases List.mem_append.1 hu with hu | hu
            · exact (List.mem_append.1 hu).elim (h3 u) (hvo u)
            · exact zeroCells_one hzo _ u hu), ?_⟩
        simp only [RA]
        refine ⟨_, nc, rfl, h4, h5, .inr ⟨w.heap.size, by simp, rfl, by rw [hw1]; exact Nat.lt_of_lt_of_eq (Nat.lt_succ_self _) (size_alloc w.drew _).symm, ?_⟩⟩
        refine Nat.le_of_eq ?_
        simp only [cellsIn, hat]
        simp only [List.size_toArray, List.length_append, h1, Array.length_toList, size_zeroCells, hz1, hvl, Nat.mul_one]
        omega
      rcases hown with ⟨rfl, hcap⟩ | ⟨b, hbι, rfl, hblt, hcells⟩
      · have hm0 : m = 0 := by omega
        subst hm0
        subst hcap
        have hrun := run_append_nil_string (P := P) w st tn ty e i z ht.und htn.und hi1 hi3 s (by omega) (by omega) (by rw [hi4]; have hq := hbig.1; rw [Nat.zero_add] at hq; omega)
        refine fin [] (grownCap w s.size 0 e) (w.drew.alloc (.cells (([] : List Value).toArray ++ (Lib.strCells s).toArray ++ Builtin.zeroCells z.cells (grownCap w s.size 0 e - (0 + s.size))) e)) (by simp) (by simp [RTe]) (by simp) ?_ ?_ rfl ?_
        · rw [Nat.zero_add]; exact grownCap_ge w s.size 0 e
        · exact grownCap_le_maxLen w s.size 0 e (by simp only [maxLen]; omega)
        · have e2 : ([] : List Value).toArray ++ (Lib.strCells s).toArray = s.data.map (fun b => Value.int .u8 b.toNat) := by apply Array.ext'; simp [Lib.strCells]
          rw [ex, ey, hrun, Nat.zero_add, e2]
      · obtain ⟨us, more, hh, hus, huM⟩ := S_elsM S hl hbι
        have huo : ∀ u ∈ us, u.oneCell' = true := fun u hu => huM u (List.mem_append_left _ hu)
        have hul := hus.length
        rw [Nat.mul_one] at hul
        have hcs : cap ≤ (us ++ more).length := by
          have := hcells; simp only [cellsIn, hh, List.size_toArray] at this; omega
        have hmz : m ≤ us.length := by rw [hul]; exact hm
        have huss : RTe (Mut E.X ι G) w 1 (xs.take m) (us.take m) := by have := RTe.take m hus; rwa [Nat.mul_one] at this
        by_cases hroom : m + s.size ≤ cap
        · have hfit : m + s.size ≤ (us ++ more).toArray.size := by rw [List.size_toArray]; omega
          have hrun := Lib.run_append_room_string (P := P) w st tn ty e i ht.und htn.und hi1 hi2 b m cap (us ++ more).toArray hh s hroom hfit
          have ecur : (((us ++ more).toArray.toList.take m ++ Lib.strCells s ++ (us ++ more).toArray.toList.drop (m + s.size))) = (us.take m ++ Lib.strCells s) ++ (us ++ more).drop (m + s.size) := by
            simp only [List.toList_toArray]
            rw [List.take_append_of_le_length hmz]
          rw [ecur] at hrun
          have hat := setRow_heap w b (us ++ more).toArray ((us.take m ++ Lib.strCells s) ++ (us ++ more).drop (m + s.size)).toArray e (0, 0) hh
          have hclen : ((us.take m ++ Lib.strCells s) ++ (us ++ more).drop (m + s.size)).length = (us ++ more).length := by
            simp only [List.size_toArray] at hfit
            simp only [List.length_append, List.length_take, List.length_drop, Nat.min_eq_left hmz, hvl] at hfit ⊢
            omega
          have hci : cellsIn (w.setRow b ((us.take m ++ Lib.strCells s) ++ (us ++ more).drop (m + s.size)).toArray) b = cellsIn w b := by
            simp only [cellsIn, hat, hh, List.size_toArray, hclen]
          have hsize : (w.setRow b ((us.take m ++ Lib.strCells s) ++ (us ++ more).drop (m + s.size)).toArray).heap.size = w.heap.size := by simp [World.setRow]
          refine ⟨_, w.setRow b ((us.take m ++ Lib.strCells s) ++ (us ++ more).drop (m + s.size)).toArray, ι, hexec _ _ (by rw [ex, ey]; exact hrun), S1.turnEls (vs := us.take m ++ Lib.strCells s) (more := (us ++ more).drop (m + s.size)) hdk hbι rfl rfl rfl hsize (fun k hk => setRow_other w b k _ hk) hci hat ?_ ?_, ?_⟩
          · rw [hmu]; exact RTe.append huss hvs
          · intro u hu
            rcases List.mem_append.1 hu with hu | hu
            · rcases List.mem_append.1 hu with hu | hu
              · exact huo u (List.mem_of_mem_take hu)
              · exact hvo u hu
            · exact huM u (List.mem_of_mem_drop hu)
          · simp only [RA]
            exact ⟨_, cap, rfl, hroom, hc2, .inr ⟨b, hbι, rfl, by rw [hsize]; exact hblt, by rw [hci]; exact hcells⟩⟩
        · have hrun := Lib.run_append_grow_string (P := P) w st tn ty e i z ht.und htn.und hi1 hi3 ⟨b, 0, none⟩ m cap (us.take m) (by rw [hi2, List.length_take]; omega) (fun j v hv => by
              rw [add_at, Nat.zero_add, cell_of_heap hh]
              rw [List.getElem?_take] at hv
              split at hv
              · have := (List.getElem?_eq_some_iff.1 hv).1
                simp [List.getElem?_append_left this, hv]
              · cases hv) s (by omega) (by omega) (by rw [hi4]; exact growslice_fits (by omega) hbig.1)
          refine fin (us.take m) (grownCap w (m + s.size) cap e) _ (by rw [List.length_take]; omega) huss (fun u hu => huo u (List.mem_of_mem_take hu)) (grownCap_ge w _ cap e) (grownCap_le_maxLen w _ cap e (by simp only [maxLen]; omega)) rfl ?_
          rw [ex, ey]; exact hrun

theorem P_sliceData {x : Operand} {st : TypeId} {sz l m : Nat} (h : evA ts x = some (.own sz l 0 m)) (hm : 0 < m) : Pure1 P ⟨dst, .call { callee := .builtin .unsafeSliceData, args := #[x], argTypes := #[st] }, ty, pos, after, gd⟩ ts G (.ptr l 0) :=
  fun {E n ds ι a w} S => by
    have hr := S.ev h
    simp only [RA] at hr
    obtain ⟨A, cap, ee, c1, c2, c3⟩ := hr
    rcases c3 with ⟨_, c3⟩ | ⟨b, hb, rfl, hblt, hcells⟩
    · omega
    refine ⟨.pointer (some ⟨b, 0, none⟩), ?_, by simp only [RA]; exact ⟨b, hb, rfl⟩⟩
    have hrun : (Builtin.unsafeSliceData_ #[st] ty #[.slice (some ⟨b, 0, none⟩) m cap]).run P w = .ok (.pointer (some ⟨b, 0, none⟩)) w := by
      have hdef : Builtin.unsafeSliceData_ #[st] ty #[.slice (some ⟨b, 0, none⟩) m cap] =
        (do
          if cap ≠ 0 then pure (.pointer (some ⟨b, 0, none⟩))
          else if (← viewAt b).isSome then pure (.pointer (some ⟨b, 0, none⟩))
          else pure (.pointer (some ⟨← newObj (.view ⟨b, 0, none⟩ (← elemOf ty)), 0, none⟩))) := rfl
      rw [hdef, if_pos (by omega)]
      simp
    simp only [execOp, resolve, invoke, builtin, Sem.run_bind, Sem.run_pure, Result.andThen_ok, List.map_toArray, List.map_cons, List.map_nil, ee, hrun]

theorem freeze_heap {w : World} {b : Nat} {c : Array Value} {e : TypeId} {k : Nat} (hk : k ≠ 0) (h : w.heap[b]? = some (.cells c e (0, 0))) : (w.freeze ⟨b, 0, none⟩ k).heap[b]? = some (.cells c e (0, 0 + k)) := by
  have hb : b < w.heap.size := (Array.getElem?_eq_some_iff.1 h).1
  have h2 : w.heap[b] = .cells c e (0, 0) := by rw [Array.getElem?_eq_getElem hb] at h; injection h
  simp [World.freeze, hk, Array.getElem?_modify, h, h2]
theorem freeze_other {w : World} {b i : Nat} {k : Nat} (h : i ≠ b) : (w.freeze ⟨b, 0, none⟩ k).heap[i]? = w.heap[i]? := by
  unfold World.freeze
  split
  · rfl
  · simp only [Array.getElem?_modify]
    rw [if_neg (fun e => h e.symm)]
theorem freeze_rest (w : World) (b k : Nat) : (w.freeze ⟨b, 0, none⟩ k).os = w.os ∧ (w.freeze ⟨b, 0, none⟩ k).tape = w.tape ∧ (w.freeze ⟨b, 0, none⟩ k).output = w.output ∧ (w.freeze ⟨b, 0, none⟩ k).heap.size = w.heap.size := by
  unfold World.freeze
  split
  · exact ⟨rfl, rfl, rfl, rfl⟩
  · exact ⟨rfl, rfl, rfl, by simp⟩
/-- Bytes of one's own row are a text from now on. -/
theorem E_unsafeString {x y : Operand} {pt it e : TypeId} {s0 l k : Nat} {bl : List UInt8} (hp : TyIs P pt (.pointer e) s0) (hc : P.cellsOf e = 1) (hx : evA ts x = some (.ptr l 0)) (hy : evA ts y = some (vI .i64 (k : Int))) (hl : look G l = some (.els e 1 (bs bl))) (hF : ds.fx.contains l = false)
    (hk : 0 < k) (hkl : k ≤ bl.length) (h63 : k ≤ 9223372036854775807) :
    Eff1 P ds ⟨dst, .call { callee := .builtin .unsafeString, args := #[x, y], argTypes := #[pt, it] }, ty, pos, after, gd⟩ ts G (vS (strL (bl.take k))) (killT l ts) (dropL l (killG l G)) :=
  fun {E n ι a w} S => by
    have hr := S.ev hx
    have ey := S.evV hy
    simp only [RA] at hr
    obtain ⟨b, hb, ex⟩ := hr
    obtain ⟨us, more, hh, hus, huM⟩ := S_elsM S hl hb
    have hue : us = bl.map (fun x => Value.int .u8 (x.toNat : Int)) := RTe_vals (fun x => rfl) hus
    have hlen : (bl.take k).length = k := by simp; omega
    have hcell : ∀ j x, (bl.take k)[j]? = some x → w.cell? ((⟨b, 0, none⟩ : Addr).add j) = some (.int .u8 x.toNat) := by
      intro j x hj
      rw [add_at, Nat.zero_add, cell_of_heap hh]
      rw [List.getElem?_take] at hj
      split at hj
      · have h1 := (List.getElem?_eq_some_iff.1 hj).1
        rw [hue, List.getElem?_toArray, List.getElem?_append_left (by simpa using h1)]
        rw [List.getElem?_map, hj]; rfl
      · cases hj
    have hrun := Lib.run_unsafeString_row (P := P) w pt it ty e hp.und hc b (us ++ more).length (by simp [World.shape?, hh]) (bl.take k) (by intro h; rw [h] at hlen; simp at hlen; omega) (by rw [hlen, List.length_append, hue]; simp; omega) (by rw [hlen]; exact h63) hcell
    rw [hlen] at hrun
    obtain ⟨q1, q2, q3, q4⟩ := freeze_rest w b k
    have hat := freeze_heap (k := k) (by omega) hh
    have hd : InDom G l := ⟨_, hl⟩
    have S1 : Sat E n ds ι (killG l G) (killT l ts) a w := (S.kill l).killG l
    have hdk : InDom (killG l G) l := ⟨.els e 1 (bs bl), by rw [look_killG, hl]; rfl⟩
    have hcI : ∀ i, i < w.heap.size → cellsIn (w.freeze ⟨b, 0, none⟩ k) i = cellsIn w i := by
      intro i hi
      by_cases e' : i = b
      · subst e'; simp only [cellsIn, hat, hh]
      · exact cellsIn_of (freeze_other e')
    have S2 := S1.turn (w' := w.freeze ⟨b, 0, none⟩ k) l b (.cst b (.cells (us ++ more).toArray e (0, 0 + k))) q1 q2 q3 (by omega) (fun i hi hne => freeze_other (fun e' => hne hdk (by rw [e']; exact hb))) hcI
      (by have := (S.hp.lt l b hd hb).1; omega) (.inl ⟨hdk, hb⟩) (fun h => absurd h (by simpa using hF)) (fun p hp => .inl hb) (fun _ _ _ _ => .inl hb) (fun kk => ⟨rfl, hat⟩)
    have eι : (fun k => if k = l then some b else ι k) = ι := by
      funext q
      by_cases hq : q = l
      · subst hq; simp [hb]
      · simp [hq]
    rw [eι] at S2
    have S3 := S2.forget l
    refine ⟨.string ⟨(bl.take k).toArray⟩, w.freeze ⟨b, 0, none⟩ k, ι, ?_, S3.congr ?_ ?_, by simp only [RA, RT]; rfl⟩
    · simp only [execOp, resolve, invoke, builtin, Sem.run_bind, Sem.run_pure, Result.andThen_ok, List.map_toArray, List.map_cons, List.map_nil, ex, ey, hrun]
    · intro t v hv
      exact killT_idem hv
    · intro q
      by_cases hq : q = l
      · subst hq; rw [look_dropL_same, look_dropL_same]
      · rw [look_dropL_ne hq, look_dropL_ne hq, look_killG, look_killG, look_cons_ne _ _ (fun e => hq e.symm), look_dropL_ne hq, look_killG]
        cases look G q with
        | none => rfl
        | some o => simp only [Option.map_some]; rw [killO_idem]
end
end Go.Ab

namespace Go.Ab
open Go

theorem liesAt_self {P : Program} {e : TypeId} (hc : P.cellsOf e ≠ 0) (count : Nat) (hn : 1 ≤ count) : liesAt P P.depth e count 0 e 1 = true := by
  have hd : P.depth = (2 * (P.types.size + Made.depth) + 1) + 1 := rfl
  rw [hd]
  simp only [liesAt, Bool.or_eq_true]
  left
  rw [hd]
  simp [rowAt, hc, hn, sameLayout]

section
variable {P : Program} {n : Nat} {ds : Fx} {E : Env} {ι : LMap} {G : GS} {ts : TS} {a : Act} {w : World} {ty : TypeId} {pos : String} {after : Array Edge} {gd : Option (Nat × Bool)} {dst : Option Tmp}
theorem P_fromUnsafe {x : Operand} {src dt u : TypeId} {s0 s1 s2 l : Nat} {dd : TypeDesc} {cs : List AV} (hs : TyIs P src .unsafePointer s0) (hd : TyIs P dt (.pointer u) s1) (hu : TyIs P u dd (s2 + 1)) (h : evA ts x = some (.ptr l 0)) (hl : look G l = some (.row u cs)) (hcs : s2 + 1 ≤ cs.length) :
    Pure1 P ⟨dst, .convert src dt x, ty, pos, after, gd⟩ ts G (.ptr l 0) :=
  fun {E n ds ι a w} S => by
    have h1 := S.ev h
    simp only [RA] at h1
    obtain ⟨b, hb, e1⟩ := h1
    rcases S.hp.obj l _ hl with ⟨q1, rfl⟩ | ⟨b', arr, us, q1, q2, q3, q4⟩
    · simp at hcs
    · rw [hb] at q1; injection q1 with q1; subst q1
      have hal : s2 + 1 ≤ arr.size := by
        have := q3.length
        rcases Nat.lt_or_ge s2 arr.size with h | h
        · omega
        · have h2 : us[s2]? = some (us[s2]'(by omega)) := List.getElem?_eq_getElem _
          have h3 := q4 _ _ h2
          rw [Array.getElem?_eq_none h] at h3; cases h3
      refine ⟨.pointer (some ⟨b, 0, none⟩), ?_, by simp only [RA]; exact ⟨b, hb, rfl⟩⟩
      have hsh : w.shape? b = some (u, arr.size) := by simp [World.shape?, q2]
      have hcell : P.cellsOf u = s2 + 1 := by unfold Program.cellsOf; rw [hu.inf]; rfl
      have hlies := liesAt_self (P := P) (e := u) (by rw [hcell]; omega) (arr.size / P.cellsOf u) (by rw [hcell]; exact Nat.div_pos hal (by omega))
      have hrun : (convert src dt (.pointer (some ⟨b, 0, none⟩))).run P w = .ok (.pointer (some ⟨b, 0, none⟩)) w := by
        simp [convert, Conv.unsafePointer, Conv.seenAt, viewAt, run_underlying hs.und, run_underlying hd.und, hsh, hu.run_size, variablesAt, hlies, Result.andThen]
      simp only [execOp, e1, Sem.run_bind, hrun, Result.andThen_ok, Sem.run_pure]
end

/-- A function without a body that hands back what it is given. -/
theorem acalls_same {P : Program} {f : FuncId} {fn : Func} (hf : P.funcs[f]? = some fn) (hname : (fn.name == "runtime.NumGoroutine") = false) (hb : fn.body.isNone = true) (hn : Extern.findNext fn = none) (he : Extern.find fn = some Extern.AbiNoEscape.same) (l off : Nat) :
    ACalls P f [.ptr l off] [] [] (fun r G => r = .ptr l off ∧ G = []) := by
  intro X ι w us H ha
  simp only [RAs] at ha
  obtain ⟨u, us', rfl, hu, rfl⟩ := ha
  unfold CallsF
  have hcall : (callFunc f [u].toArray).run P w = .ok (.value u) w := by
    rw [run_callFunc_extern hf hname hb hn he]
    rfl
  rw [hcall]
  simp only
  exact ⟨u, .ptr l off, [], ι, rfl, ⟨rfl, rfl⟩, H, hu, Fr.refl _ _, fun l b hl => by obtain ⟨o, ho⟩ := hl; simp [look] at ho, fun l hl => by obtain ⟨o, ho⟩ := hl; simp [look] at ho, fun _ _ => rfl⟩

/-- A contract of the shelf: the world has grown, and nothing that was there is turned. -/
structure Grew (w w' : World) : Prop where
  os : w'.os = w.os
  tape : w'.tape = w.tape
  output : w'.output = w.output
  size : w.heap.size ≤ w'.heap.size
  same : ∀ b, b < w.heap.size → w'.heap[b]? = w.heap[b]?
theorem acalls_grew {P : Program} {f : FuncId} {fn : Func} {c : Code} {args : List AV} {G0 : GS} {r : AV} (hf : P.funcs[f]? = some fn) (hb : fn.body = some c) (hname : (fn.name == "runtime.NumGoroutine") = false)
    (h : ∀ X ι w us, HSat X ι G0 w → RAs (Mut X ι G0) ι w args us → Calls P f us.toArray w fun e w' => ∃ v, e = .returned v ∧ Grew w w' ∧ RA (Mut X ι G0) ι w' r v) : ACalls P f args G0 [] (fun r' G => r' = r ∧ G = G0) := by
  intro X ι w us H ha
  unfold CallsF
  have hcall : (callFunc f us.toArray).run P w = .ok (.enter f us.toArray) w := by
    simp only [callFunc, Sem.run_bind, run_program, Result.andThen_ok, hf]
    rw [hname]
    simp [hb]
  rw [hcall]
  simp only
  refine (h X ι w us H ha).mono ?_
  rintro e w' ⟨v, rfl, g, hv⟩
  have k : Keep (Mut X ι G0) (Mut X ι G0) w w' := ⟨g.size, fun b hb _ => g.same b hb, fun _ _ h => h, fun b hb => cellsIn_of (g.same b hb)⟩
  refine ⟨v, r, G0, ι, rfl, ⟨rfl, rfl⟩, ?_, hv, ⟨g.os, g.tape, g.output, g.size, fun b hb _ => g.same b hb, fun b hb => cellsIn_of (g.same b hb)⟩, ?_, fun _ _ _ _ => rfl, fun _ _ => rfl⟩
  · refine { obj := fun l o ho => ?_, inj := H.inj, lt := fun l b hl e => ?_, xlt := fun b hb => Nat.lt_of_lt_of_le (H.xlt b hb) g.size }
    · exact RO.keep0 k (fun b hb => g.same b (H.lt l b ⟨o, ho⟩ hb).1) (H.obj l o ho)
    · have := H.lt l b hl e
      exact ⟨Nat.lt_of_lt_of_le this.1 g.size, this.2⟩
  · intro l b hl e
    exact .inl ⟨l, hl, e⟩
theorem Grew.alloc (w : World) (o : Obj) : Grew w (w.alloc o) := ⟨rfl, rfl, rfl, by rw [size_alloc]; omega, fun b hb => heap_alloc_old w o b hb⟩
theorem Grew.refl (w : World) : Grew w w := ⟨rfl, rfl, rfl, Nat.le_refl _, fun _ _ => rfl⟩
theorem drewN_rest (w : World) : ∀ k, (w.drewN k).os = w.os ∧ (w.drewN k).tape = w.tape ∧ (w.drewN k).output = w.output ∧ (w.drewN k).heap = w.heap := fun k => ⟨rfl, rfl, rfl, rfl⟩
theorem Grew.grow (w : World) (k : Nat) (os : Array Obj) : Grew w (Go.Sort.grow (w.drewN k) os) :=
  ⟨rfl, rfl, rfl, by simp [Go.Sort.grow, World.drewN], fun b hb => by
    have : (Go.Sort.grow (w.drewN k) os).heap[b]? = (w.heap ++ os)[b]? := rfl
    rw [this, Array.getElem?_append_left hb]⟩
end Go.Ab

namespace Go.Ab
open Go

/-- What is done. -/
def mkL (m : Nat) : List Nat → Array Bool
  | [] => Array.replicate m false
  | i :: d => (mkL m d).setIfInBounds i true
section
variable {P : Program} {n : Nat} {ds : Fx} {ops : Array Oper} {Q : Exit → TS → GS → Prop} {ts : TS} {G : GS} {f : Nat} {done : List Nat}
def AO (P : Program) (n : Nat) (ds : Fx) (ops : Array Oper) (f : Nat) (done : List Nat) (Q : Exit → TS → GS → Prop) (ts : TS) (G : GS) : Prop :=
  ∀ E ι a w, Sat E n ds ι G ts a w → wpAny P .any ops (Lift E n ds Q) f (mkL ops.size done) a w
def AOK (P : Program) (n : Nat) (ds : Fx) (ops : Array Oper) (f : Nat) (done : List Nat) (Q : Exit → TS → GS → Prop) : Exit → TS → GS → Prop
  | .normal, ts, G => AO P n ds ops f done Q ts G
  | e, ts, G => Q e ts G
theorem AOK.go (h : AO P n ds ops f done Q ts G) : AOK P n ds ops f done Q .normal ts G := h
theorem AO.start {id : Nat} {l : List Oper} (hm : P.follows .mixedOrders = true) (h : AO P n ds l.toArray l.length [] Q ts G) : AW P n ds (.region id l.toArray true) Q ts G := by
  intro E ι a w S
  refine wp_region_any hm ?_
  have S' : Sat E n ds ι G ts a { w with drawn := w.drawn + 1 } := S.grow rfl rfl rfl (Nat.le_refl _) (fun _ _ => rfl)
  have := h E ι a _ S'
  simpa [mkL] using this
/-- It yields the same whatever the world. -/
def PureW (P : Program) (o : Oper) (ts : TS) (G : GS) (x : AV) : Prop :=
  ∀ {E : Env} {n : Nat} {ds : Fx} {ι : LMap} {a : Act} {w : World}, Sat E n ds ι G ts a w → ∃ u, (∀ w', (execOp a.eval o).run P w' = .ok (.value u) w') ∧ RA (Mut E.X ι G) ι w x u
theorem AO.take {o : Oper} {d : Tmp} {x : AV} (i : Nat) (hi : ops[i]? = some o) (hg : o.guard = none) (hd : o.dst = some d) (hn : d < n) (hns : Region.noSelect ops = true) (hfr : Region.free .any ops (mkL ops.size done) i = true)
    (hr : (Region.ready .any ops (mkL ops.size done)).contains i = true) (hQ : ∀ c ts G, ¬ Q (.panic c) ts G) (hp : PureW P o ts G x) (next : AO P n ds ops f (i :: done) Q ((d, x) :: ts) G) : AO P n ds ops (f + 1) done Q ts G := by
  intro E ι a w S
  obtain ⟨u, hu, hx⟩ := hp S
  refine wpAny_take hi hns hfr hr (fun c a w ⟨ts, G, ι, h, _⟩ => (hQ c ts G h).elim) (.inl ⟨by simp [Region.wanted, hg], hu⟩) ?_
  rw [hd]
  exact next E ι _ w (S.put hn hx)
theorem wpOp_of_list {i : Nat} {o : Oper} {E : Env} {a : Act} {w : World} (hi : ops[i]? = some o) (h : wpList P ops (Lift E n ds (AOK P n ds ops f (i :: done) Q)) [o] a w) : wpOp P ops (Lift E n ds Q) i (wpAny P .any ops (Lift E n ds Q) f (mkL ops.size (i :: done))) a w := by
  unfold wpOp
  rw [hi]
  simp only
  have key : ∀ a w, wpList P ops (Lift E n ds (AOK P n ds ops f (i :: done) Q)) [] a w → wpAny P .any ops (Lift E n ds Q) f (mkL ops.size (i :: done)) a w := by
    intro a w h
    obtain ⟨ts, G, ι, h1, h2⟩ := h
    exact h1 E ι a w h2
  unfold wpList at h
  split at h
  · rename_i hw
    rw [if_pos hw]
    refine h.imp (Oper.wp_mono fun a w h => key a w h) (fun h => ?_)
    refine ⟨h.1, ?_⟩
    obtain ⟨a, w, ts, G, ι, h3, h4⟩ := h.2
    exact ⟨a, w, ts, G, ι, h3, h4⟩
  · rename_i hw
    rw [if_neg hw]
    exact key _ _ h
theorem AO.one {o : Oper} (i : Nat) (hr : Region.ready .any ops (mkL ops.size done) = [i]) (hi : ops[i]? = some o) (h : AL P n ds ops [o] (AOK P n ds ops f (i :: done) Q) ts G) : AO P n ds ops (f + 1) done Q ts G := by
  intro E ι a w S
  refine wpAny_all hr (by simp) (fun j hj => ?_)
  simp only [List.mem_singleton] at hj
  subst hj
  exact wpOp_of_list hi (h E ι a w S)
theorem AO.two {o o' : Oper} (i j : Nat) (hr : Region.ready .any ops (mkL ops.size done) = [i, j]) (hi : ops[i]? = some o) (hj : ops[j]? = some o') (h : AL P n ds ops [o] (AOK P n ds ops f (i :: done) Q) ts G) (h' : AL P n ds ops [o'] (AOK P n ds ops f (j :: done) Q) ts G) : AO P n ds ops (f + 1) done Q ts G := by
  intro E ι a w S
  refine wpAny_all hr (by simp) (fun q hq => ?_)
  simp only [List.mem_cons, List.not_mem_nil, or_false] at hq
  rcases hq with rfl | rfl
  · exact wpOp_of_list hi (h E ι a w S)
  · exact wpOp_of_list hj (h' E ι a w S)
theorem AO.done_ (hr : Region.ready .any ops (mkL ops.size done) = []) (h : Q .normal ts G) : AO P n ds ops f done Q ts G := by
  intro E ι a w S
  exact wpAny_done hr ⟨ts, G, ι, h, S⟩ f
variable {ty : TypeId} {pos : String} {after : Array Edge} {gd : Option (Nat × Bool)} {dst : Option Tmp}
theorem W_move {x : Operand} {v : AV} (h : evA ts x = some v) : PureW P ⟨dst, .move x, ty, pos, after, gd⟩ ts G v :=
  fun {E n ds ι a w} S => ⟨a.eval x, fun w' => by simp [execOp], S.ev h⟩
theorem W_assign {x : Operand} {v : AV} (h : evA ts x = some v) : PureW P ⟨dst, .assign x, ty, pos, after, gd⟩ ts G v :=
  fun {E n ds ι a w} S => ⟨a.eval x, fun w' => by simp [execOp], S.ev h⟩
theorem W_extract {x : Operand} {i : Nat} {xs : List AV} {v : AV} (h : evA ts x = some (.tup xs)) (hv : xs[i]? = some v) : PureW P ⟨dst, .extract x i, ty, pos, after, gd⟩ ts G v :=
  fun {E n ds ι a w} S => by
    have hr := S.ev h
    simp only [RA] at hr
    obtain ⟨us, ee, hr⟩ := hr
    obtain ⟨u, hu, hru⟩ := hr.get i v hv
    exact ⟨u, fun w' => by simp [execOp, ee, Instr.extract, hu], hru⟩
theorem W_nilCheck {x : Operand} {l off : Nat} (h : evA ts x = some (.ptr l off)) : PureW P ⟨dst, .nilCheck x, ty, pos, after, gd⟩ ts G (.ptr l off) :=
  fun {E n ds ι a w} S => by
    have hr := S.ev h
    have hr' := hr
    simp only [RA] at hr
    obtain ⟨b, hb, e⟩ := hr
    exact ⟨a.eval x, fun w' => by simp [execOp, e], hr'⟩
theorem W_fieldAddr {s : TypeId} {x : Operand} {i l off : Nat} {fs : Array Field} {sz : Nat} {fl : Field} {fd : TypeDesc} {fz : Nat} (hs : TyIs P s (.struct fs) sz) (hf : fs[i]? = some fl) (hz : TyIs P fl.type fd (fz + 1)) (h : evA ts x = some (.ptr l off)) :
    PureW P ⟨dst, .fieldAddr s x i, ty, pos, after, gd⟩ ts G (.ptr l (off + fl.offset)) :=
  fun {E n ds ι a w} S => by
    have hr := S.ev h
    simp only [RA] at hr
    obtain ⟨b, hb, e⟩ := hr
    refine ⟨.pointer (some ⟨b, off + fl.offset, none⟩), fun w' => ?_, by simp only [RA]; exact ⟨b, hb, rfl⟩⟩
    have hadd := add_at b off fl.offset
    simp [execOp, e, Instr.fieldAt, hs.run_und, hf, Instr.sureAddr, fieldPlace, hz.run_size, add_at]
end
end Go.Ab

namespace Go.Ab
open Go
section
variable {P : Program} {n : Nat} {ds : Fx} {E : Env} {ι : LMap} {G : GS} {ts : TS} {a : Act} {w w' : World} {ops : Array Oper} {Q : Exit → Act → World → Prop} {ts0 : TS} {G0 : GS} {its : List It}
/-- Whatever is not of the front waits for all of it, but for what is taken at once. -/
def frontOkE (ops : Array Oper) (its : List It) (eg : List Nat) : Bool :=
  (List.range ops.size).all (fun j => bif Nat.ble its.length j then (List.range its.length).all (fun u => memN (deps ops its j) u || memN eg u) || (edgesOf ops j).any (fun e => Nat.ble its.length e && Nat.blt e j) else true)
  && Nat.ble its.length ops.size && eg.all (fun e => Nat.blt e its.length)
def EgL (P : Program) (ops : Array Oper) (ts0 : TS) (G0 : GS) (eg : List Nat) : List It → Prop
  | [] => True
  | it :: r => (bif memN eg it.i then ∃ o, ops[it.i]? = some o ∧ o.guard = none ∧ it.g = [] ∧ PureW P o (tsOf ts0 (memN it.dp) r) (GOf G0 (memN it.dp) r) it.x else True) ∧ EgL P ops ts0 G0 eg r
theorem EgL_at {eg : List Nat} {it : It} {r : List It} : ∀ {its pr : List It}, EgL P ops ts0 G0 eg its → its = pr ++ it :: r → it.i ∈ eg → ∃ o, ops[it.i]? = some o ∧ o.guard = none ∧ it.g = [] ∧ PureW P o (tsOf ts0 (memN it.dp) r) (GOf G0 (memN it.dp) r) it.x
  | its, [], h, e, he => by subst e; have h1 := h.1; rw [memN_iff.2 he] at h1; exact h1
  | its, p :: pr, h, e, he => by subst e; exact EgL_at (its := pr ++ it :: r) (pr := pr) h.2 rfl he
theorem PureW.pure1 {o : Oper} {x : AV} {ts : TS} {G : GS} (h : PureW P o ts G x) : Pure1 P o ts G x := fun S => let ⟨u, h1, h2⟩ := h S; ⟨u, h1 _, h2⟩
theorem PureW.more {o : Oper} {x : AV} {tsm : TS} {Gm : GS} (h : PureW P o tsm Gm x) {ts : TS} {G : GS} (hT : SubL tsm ts) (hG : SubL Gm G) : PureW P o ts G x :=
  fun {E n ds ι a w} S => by
    have hsub : ∀ l, InDom Gm l → InDom G l := fun l ⟨o, ho⟩ => ⟨o, hG l o ho⟩
    let X' : BSet := fun b => E.X b ∨ ∃ l, InDom G l ∧ ¬ InDom Gm l ∧ ι l = some b
    have hm : ∀ b, Mut X' ι Gm b ↔ Mut E.X ι G b := by
      intro b
      constructor
      · rintro ((h | ⟨l, h1, _, h2⟩) | ⟨l, h1, h2⟩)
        · exact .inl h
        · exact .inr ⟨l, h1, h2⟩
        · exact .inr ⟨l, hsub l h1, h2⟩
      · rintro (h | ⟨l, h1, h2⟩)
        · exact .inl (.inl h)
        · by_cases h3 : InDom Gm l
          · exact .inr ⟨l, h3, h2⟩
          · exact .inl (.inr ⟨l, h1, h3, h2⟩)
    have hm' : Mut X' ι Gm = Mut E.X ι G := by funext b; exact propext (hm b)
    have S' : Sat ⟨X', w, LBlk ι Gm, ι⟩ n ⟨ds.ds, []⟩ ι Gm tsm a w :=
      { dfs := S.dfs, sz := S.sz, tm := fun t y hy => by show ∃ u, _ ∧ RA (Mut X' ι Gm) ι w y u; rw [hm']; exact S.tm t y (hT t y hy)
        hp := { obj := fun l o ho => by show RO (Mut X' ι Gm) ι w o (ι l); rw [hm']; exact S.hp.obj l o (hG l o ho)
                inj := fun l l' b h h' => S.hp.inj l l' b (hsub l h) (hsub l' h')
                lt := fun l b h e => ⟨(S.hp.lt l b (hsub l h) e).1, by
                  rintro (hx | ⟨q, h1, h2, h3⟩)
                  · exact (S.hp.lt l b (hsub l h) e).2 hx
                  · have := S.hp.inj l q b (hsub l h) h1 e h3
                    subst this; exact h2 h⟩
                xlt := fun b hb => by
                  rcases hb with hb | ⟨q, h1, _, h3⟩
                  · exact S.hp.xlt b hb
                  · exact (S.hp.lt q b h1 h3).1 }
        fr := Fr.refl _ _, wr := fun l b h e => .inl ⟨l, h, e⟩, fx := fun l hl => by cases hl }
    obtain ⟨u, h1, h2⟩ := h S'
    exact ⟨u, h1, by rw [← hm']; exact h2⟩

theorem mkL_mem {m : Nat} : ∀ {d : List Nat} {j : Nat}, j < m → (mkL m d).getD j true = true → j ∈ d
  | [], j, hj, h => by
    simp only [mkL] at h
    rw [Array.getD_eq_getD_getElem?, Array.getElem?_replicate, if_pos hj] at h
    cases h
  | i :: d, j, hj, h => by
    by_cases e : i = j
    · subst e; simp
    · simp only [mkL] at h
      rw [getD_set_ne true e] at h
      exact List.mem_cons_of_mem _ (mkL_mem hj h)

/-- The part in whatever order; some of it is taken as soon as it is ready. -/
theorem front_anyE (eg : List Nat) (hk : itOk ops ts0 G0 n its its = true) (ho : Obs P ops ts0 G0 its) (ht : frontOkE ops its eg = true) (hns : Region.noSelect ops = true) (hfree : eg.all (fun e => Region.free .any ops (mkL ops.size (deps ops its e)) e) = true) (hQ : ∀ c a w, ¬ Q (.panic c) a w) (hE : EgL P ops ts0 G0 eg its)
    (tail : ∀ a w ι, Sat E n ds ι (GOf G0 (fun _ => true) its) (tsOf ts0 (fun _ => true) its) a w → wpAny P .any ops Q (ops.size - its.length) (upTo ops.size its.length) a w) (hfx : ∀ l ∈ its.flatMap (fun it => labs it.g), ds.fx.contains l = false) :
    ∀ (f : Nat) (L : Array Bool) (a : Act) (w : World) (ι : LMap), L.size = ops.size → List.count false L.toList = f → (∀ j, its.length ≤ j → L.getD j false = false) →
      (∀ i, L.getD i false = true → ∀ q ∈ dpOf its i, L.getD q false = true) → Sat E n ds ι (GOf G0 (fun i => L.getD i false) its) (tsOf ts0 (fun i => L.getD i false) its) a w → wpAny P .any ops Q f L a w := by
  simp only [frontOkE, Bool.and_eq_true] at ht
  obtain ⟨⟨t1, t4⟩, t3⟩ := ht
  have t4 := Nat.le_of_ble_eq_true t4
  intro f
  induction f with
  | zero =>
    intro L a w ι hs hc hj hcl S
    -- all are listed
    have hall : ∀ i, i < ops.size → L.getD i false = true := by
      intro i hi
      cases hv : L.getD i false with
      | true => rfl
      | false =>
        have : false ∈ L.toList := by
          rw [Array.getD_eq_getD_getElem?, Array.getElem?_eq_getElem (by omega)] at hv
          simp only [Option.getD_some] at hv
          rw [← hv]; simp
        have := List.count_pos_iff.2 this
        omega
    have hlen : its.length = ops.size := by
      rcases Nat.lt_or_ge its.length ops.size with h | h
      · have := hall its.length h; rw [hj its.length (Nat.le_refl _)] at this; cases this
      · omega
    have e : L = upTo ops.size ops.size := by
      apply Array.ext
      · rw [hs, upTo_size _ _ (Nat.le_refl _)]
      · intro i h1 h2
        have g1 := hall i (by omega)
        rw [Array.getD_eq_getD_getElem?, Array.getElem?_eq_getElem h1] at g1
        have g2 := upTo_getD ops.size ops.size i false (Nat.le_refl _) (by omega)
        rw [Array.getD_eq_getD_getElem?, Array.getElem?_eq_getElem h2] at g2
        simp only [Option.getD_some] at g1 g2
        rw [g1, g2]; simp; omega
    have S' : Sat E n ds ι (GOf G0 (fun _ => true) its) (tsOf ts0 (fun _ => true) its) a w := by
      refine S.congr (fun t v hv => ?_) (fun l => ?_)
      · rw [look_tsOf hk ho] at hv ⊢
        rcases hv with ⟨it, h1, _, h3⟩ | h
        · exact .inl ⟨it, h1, hall _ (by have := (idx_nodup hk ho).2 it h1; omega), h3⟩
        · exact .inr h
      · apply Option.ext; intro o
        rw [look_GOf hk ho (fun _ h => h) (idx_nodup hk ho).1, look_GOf hk ho (fun _ h => h) (idx_nodup hk ho).1]
        constructor
        · rintro (⟨it, h1, _, h3⟩ | h)
          · exact .inl ⟨it, h1, hall _ (by have := (idx_nodup hk ho).2 it h1; omega), h3⟩
          · exact .inr h
        · rintro (⟨it, h1, _, h3⟩ | h)
          · exact .inl ⟨it, h1, rfl, h3⟩
          · exact .inr h
    subst e
    have := tail a w ι S'
    rw [hlen, Nat.sub_self] at this
    exact this
  | succ f ih =>
    intro L a w ι hs hc hj hcl S
    by_cases hun : ∃ i, i < its.length ∧ L.getD i false = false
    · -- some are left
      have step : ∀ i ∈ Region.ready .any ops L, i < its.length → ∃ it r o, it ∈ its ∧ (∃ pr, its = pr ++ it :: r) ∧ it.i = i ∧ ops[i]? = some o ∧ o.guard = none ∧ o.dst = some it.d ∧ Bth P o (tsOf ts0 (memN it.dp) r) (GOf G0 (memN it.dp) r) it.x it.g ∧
          SubL (tsOf ts0 (memN it.dp) r) (tsOf ts0 (fun i => L.getD i false) its) ∧ SubL (GOf G0 (memN it.dp) r) (GOf G0 (fun i => L.getD i false) its) ∧ freshAll it.g (tsOf ts0 (fun i => L.getD i false) its) (GOf G0 (fun i => L.getD i false) its) ∧
          (∀ u w1 ι1, Sat E n ds ι1 (it.g ++ GOf G0 (fun i => L.getD i false) its) (tsOf ts0 (fun i => L.getD i false) its) a w1 → RA (Mut E.X ι1 (it.g ++ GOf G0 (fun i => L.getD i false) its)) ι1 w1 it.x u → wpAny P .any ops Q f (L.setIfInBounds i true) (a.put (some it.d) u) w1) := by
        intro i hi hik
        obtain ⟨r1, o, r2, r3⟩ := mem_ready.1 hi
        have hlt := (Array.getElem?_eq_some_iff.1 r2).1
        obtain ⟨pre, it, r, e1, e2, g⟩ := good_at hk ho i hik
        obtain ⟨o', q1, q2, q3, q4⟩ := g.ob
        have hix : it.i = i := by rw [g.ix, e2]
        rw [hix, r2] at q1
        injection q1 with q1
        subst q1
        have hmem : it ∈ its := by rw [e1]; simp
        have hdpOf : dpOf its i = it.dp := by
          unfold dpOf
          have := itemAt_mid (pre := pre) (r := r) (it := it)
          rw [← e1, e2] at this
          rw [this]; rfl
        have hun' : L.getD i false = false := by
          rw [Array.getD_eq_getD_getElem?, Array.getElem?_eq_getElem (by omega)] at r1 ⊢; exact r1
        have hed : ∀ e ∈ edgesOf ops i, L.getD e false = true := by
          intro e he
          obtain ⟨ed, h1, h2, h3⟩ := (mem_edges r2).1 he
          rw [← h3]; exact r3 ed h1 h2
        have hdp : ∀ q ∈ it.dp, L.getD q false = true := by
          intro q hq
          have := g.dp q hq
          rw [hix] at this
          rcases List.mem_append.1 this with h | h
          · exact hed q h
          · obtain ⟨e, he, h2⟩ := List.mem_flatMap.1 h; exact hcl e (hed e he) q h2
        obtain ⟨sk, so⟩ := suffix_eq (pre := pre ++ [it]) (r := r) hk ho (by rw [e1]; simp)
        have hrsub : ∀ jt ∈ r, jt ∈ its := fun jt hj => by rw [e1]; simp [hj]
        have hrn : (r.map (·.i)).Nodup := (idx_nodup sk so).1
        have SL1 : SubL (tsOf ts0 (memN it.dp) r) (tsOf ts0 (fun i => L.getD i false) its) := by
          intro t v hv
          rw [look_tsOf sk so] at hv
          rw [look_tsOf hk ho]
          rcases hv with ⟨jt, h1, h2, h3⟩ | h
          · exact .inl ⟨jt, hrsub jt h1, hdp _ (memN_iff.1 h2), h3⟩
          · exact .inr h
        have SL2 : SubL (GOf G0 (memN it.dp) r) (GOf G0 (fun i => L.getD i false) its) := by
          intro t v hv
          rw [look_GOf hk ho hrsub hrn] at hv
          rw [look_GOf hk ho (fun _ h => h) (idx_nodup hk ho).1]
          rcases hv with ⟨jt, h1, h2, h3⟩ | h
          · exact .inl ⟨jt, hrsub jt h1, hdp _ (memN_iff.1 h2), h3⟩
          · exact .inr h
        have hother : ∀ l ∈ labs it.g, ∀ jt ∈ its, L.getD jt.i false = true → freshIt l jt = true := by
          intro l hl jt hj hL
          rcases (g.fr l hl).2.2 jt hj with h | h | h
          · rw [h, hix, hun'] at hL; cases hL
          · have : it.i ∈ dpOf its jt.i := by
              obtain ⟨pre2, jt2, r2', f1, f2, g2⟩ := good_at hk ho jt.i ((idx_nodup hk ho).2 jt hj)
              have hsame : jt2 = jt := by
                have hn := (idx_nodup hk ho).1
                have hm2 : jt2 ∈ its := by rw [f1]; simp
                have : jt2.i = jt.i := by rw [g2.ix, f2]
                exact inj_nodup hn hm2 hj this
              unfold dpOf
              have h3 := itemAt_mid (pre := pre2) (r := r2') (it := jt2)
              rw [← f1, f2] at h3
              rw [h3, hsame]; exact h
            have := hcl _ hL _ this
            rw [hix, hun'] at this; cases this
          · exact h
        have hfresh : freshAll it.g (tsOf ts0 (fun i => L.getD i false) its) (GOf G0 (fun i => L.getD i false) its) := by
          intro q hq
          have hl : q.1 ∈ labs it.g := List.mem_map.2 ⟨q, hq, rfl⟩
          obtain ⟨f1, f2, _⟩ := g.fr q.1 hl
          have ho' := hother q.1 hl
          have key : ∀ rs : List It, (∀ jt ∈ rs, jt ∈ its) → freshT q.1 (tsOf ts0 (fun i => L.getD i false) rs) = true ∧ freshG q.1 (GOf G0 (fun i => L.getD i false) rs) = true := by
            intro rs
            induction rs with
            | nil => intro _; exact ⟨f1, f2⟩
            | cons jt rs ihr =>
              intro hs'
              obtain ⟨k1, k2⟩ := ihr (fun j hj => hs' j (by simp [hj]))
              simp only [tsOf, GOf]
              cases hL : L.getD jt.i false with
              | false => exact ⟨k1, k2⟩
              | true =>
                have := ho' jt (hs' jt (by simp)) hL
                simp only [freshIt, Bool.and_eq_true] at this
                simp only [cond_true, freshT, List.all_cons, Bool.and_eq_true]
                refine ⟨⟨this.1, k1⟩, ?_⟩
                simp only [freshG, List.all_append, Bool.and_eq_true]
                exact ⟨this.2, k2⟩
          exact key its (fun _ h => h)
        have hset : ∀ j, (L.setIfInBounds i true).getD j false = (L.getD j false || decide (j = i)) := by
          intro j
          by_cases h : i = j
          · subst h; simp [Array.getD_eq_getD_getElem?, Array.getElem?_setIfInBounds, show i < L.size by omega]
          · rw [getD_set_ne false h]; simp [Ne.symm h]
        refine ⟨it, r, o, hmem, ⟨pre, e1⟩, hix, r2, q2, q3, q4, SL1, SL2, hfresh, fun u w1 ι1 S1 hR => ?_⟩
        have S2 := S1.put g.dn hR
        refine ih _ _ _ ι1 (by rw [Array.size_setIfInBounds]; exact hs) ?_ ?_ ?_ (S2.congr ?_ ?_)
        · have hil : i < L.toList.length := by simp; omega
          have : (L.setIfInBounds i true).toList = L.toList.set i true := by simp
          rw [this, List.count_set hil]
          have hb : L.toList[i] = false := by
            rw [Array.getD_eq_getD_getElem?, Array.getElem?_eq_getElem (by omega)] at hun'
            simpa using hun'
          rw [hb, hc]; simp
        · intro j hjj
          rw [hset, hj j hjj]; simp; omega
        · intro j hL q hq
          rw [hset] at hL ⊢
          simp only [Bool.or_eq_true, decide_eq_true_eq] at hL ⊢
          rcases hL with h | h
          · exact .inl (hcl j h q hq)
          · subst h; rw [hdpOf] at hq; exact .inl (hdp q hq)
        · intro t v hv
          rw [look_tsOf hk ho] at hv
          rcases hv with ⟨jt, h1, h2, h3, h4⟩ | h
          · rw [hset] at h2
            simp only [Bool.or_eq_true, decide_eq_true_eq] at h2
            by_cases hd : it.d = t
            · -- the same result's place: the same operation
              have hsame : jt = it := by
                rcases h2 with h2 | h2
                · exfalso
                  have hlt2 := (idx_nodup hk ho).2 jt h1
                  have hne : jt.i ≠ it.i := by rw [hix]; intro e; rw [e, hun'] at h2; cases h2
                  -- two items with one destination: the later one's row says no
                  rcases Nat.lt_or_ge jt.i it.i with hl | hl
                  · have : jt ∈ r := by
                      rw [e1] at h1
                      rcases List.mem_append.1 h1 with h5 | h5
                      · exfalso
                        have hnd := (idx_nodup hk ho).1
                        obtain ⟨p2, r2', f1, g2⟩ := good_of hk ho jt (by rw [e1]; exact List.mem_append_left _ h5)
                        obtain ⟨s1, s2, rfl⟩ := List.append_of_mem h5
                        have hix2 : jt.i = (s2 ++ it :: r).length := by
                          obtain ⟨g3, _, _⟩ := itOk_cons (suffix_eq (pre := s1) (r := jt :: (s2 ++ it :: r)) hk ho (by rw [e1]; simp)).1 (suffix_eq (pre := s1) (r := jt :: (s2 ++ it :: r)) hk ho (by rw [e1]; simp)).2
                          exact g3.ix
                        have := g.ix
                        simp at hix2; omega
                      · rcases List.mem_cons.1 h5 with h5 | h5
                        · exact absurd (h5 ▸ rfl) hne
                        · exact h5
                    exact g.dr (by rw [hd, ← h3]; exact List.mem_map.2 ⟨jt, this, rfl⟩)
                  · obtain ⟨p2, r2', f1, g2⟩ := good_of hk ho jt h1
                    have : it ∈ r2' := by
                      have hm := hmem
                      rw [f1] at hm
                      rcases List.mem_append.1 hm with h5 | h5
                      · exfalso
                        obtain ⟨s1, s2, rfl⟩ := List.append_of_mem h5
                        have hix2 : it.i = (s2 ++ jt :: r2').length := by
                          obtain ⟨g3, _, _⟩ := itOk_cons (suffix_eq (pre := s1) (r := it :: (s2 ++ jt :: r2')) hk ho (by rw [f1]; simp)).1 (suffix_eq (pre := s1) (r := it :: (s2 ++ jt :: r2')) hk ho (by rw [f1]; simp)).2
                          exact g3.ix
                        have := g2.ix
                        simp at hix2; omega
                      · rcases List.mem_cons.1 h5 with h5 | h5
                        · exact absurd (h5 ▸ rfl) hne
                        · exact h5
                    exact g2.dr (by rw [h3, ← hd]; exact List.mem_map.2 ⟨it, this, rfl⟩)
                · exact inj_nodup (idx_nodup hk ho).1 h1 hmem (by rw [h2, hix])
              subst hsame
              rw [← h4, ← h3]; exact look_cons_same _ _ _
            · rw [look_cons_ne _ _ hd, look_tsOf hk ho]
              rcases h2 with h2 | h2
              · exact .inl ⟨jt, h1, h2, h3, h4⟩
              · exfalso
                have := inj_nodup (idx_nodup hk ho).1 h1 hmem (by rw [h2, hix])
                subst this; exact hd h3
          · have hd : it.d ≠ t := by intro e; subst e; rw [g.d0] at h; cases h
            rw [look_cons_ne _ _ hd, look_tsOf hk ho]; exact .inr h
        · intro l
          apply Option.ext; intro ob
          rw [look_GOf hk ho (fun _ h => h) (idx_nodup hk ho).1, look_app]
          have hold := look_GOf hk ho (p := fun i => L.getD i false) (l := l) (o := ob) (fun _ h => h) (idx_nodup hk ho).1
          constructor
          · rintro (⟨jt, h1, h2, h3⟩ | h)
            · rw [hset] at h2
              simp only [Bool.or_eq_true, decide_eq_true_eq] at h2
              by_cases hs' : jt = it
              · subst hs'; rw [h3]; rfl
              · have hne : jt.i ≠ it.i := fun e => hs' (inj_nodup (idx_nodup hk ho).1 h1 hmem e)
                have : look it.g l = none := by
                  cases hg : look it.g l with
                  | none => rfl
                  | some z => exact absurd (labs_look h3) (labs_apart hk ho hmem h1 (Ne.symm hne) (labs_look hg))
                rw [this]
                simp only [Option.none_or]
                rcases h2 with h2 | h2
                · exact hold.2 (.inl ⟨jt, h1, h2, h3⟩)
                · exact absurd (by rw [h2, hix]) hne
            · have : look it.g l = none := by
                cases hg : look it.g l with
                | none => rfl
                | some z =>
                  have := freshG_look (g.fr l (labs_look hg)).2.1
                  rw [this] at h; cases h
              rw [this]
              simp only [Option.none_or]
              exact hold.2 (.inr h)
          · intro h
            cases hg : look it.g l with
            | some z =>
              rw [hg] at h
              simp only [Option.some_or, Option.some.injEq] at h
              subst h
              exact .inl ⟨it, hmem, by rw [hset, hix]; simp, hg⟩
            | none =>
              rw [hg] at h
              simp only [Option.none_or] at h
              rcases hold.1 h with ⟨jt, h1, h2, h3⟩ | h0
              · exact .inl ⟨jt, h1, by rw [hset, h2]; simp, h3⟩
              · exact .inr h0
      by_cases hEg : ∃ e ∈ eg, e ∈ Region.ready .any ops L
      · -- what may be taken at once
        obtain ⟨e, he, hre⟩ := hEg
        have hel : e < its.length := by
          rcases Nat.lt_or_ge e its.length with h | h
          · exact h
          · exact absurd (List.all_eq_true.1 t3 e he) (by simp; omega)
        obtain ⟨it, r, o, hmem, ⟨pr, e1⟩, hix, r2, q2, q3, q4, SL1, SL2, hfresh, next⟩ := step e hre hel
        obtain ⟨o', p1, p2, p3, p4⟩ := EgL_at hE e1 (by rw [hix]; exact he)
        rw [hix, r2] at p1
        injection p1 with p1
        subst p1
        obtain ⟨u, hu, hx⟩ := p4.more SL1 SL2 S
        have hfr : Region.free .any ops L e = true := by
          have := List.all_eq_true.1 hfree e he
          simp only [Region.free] at this ⊢
          rw [r2] at this ⊢
          simp only [List.all_eq_true] at this ⊢
          intro j hj
          have := this j hj
          simp only [Bool.or_eq_true] at this ⊢
          rcases this with (h | h) | h
          · exact .inl (.inl h)
          · refine .inl (.inr ?_)
            have hje := mkL_mem (List.mem_range.1 hj) h
            obtain ⟨_, o9, r8, r9⟩ := mem_ready.1 hre
            rw [r2] at r8; injection r8 with r8; subst r8
            have hedg : ∀ q ∈ edgesOf ops e, L.getD q false = true := by
              intro q hq
              obtain ⟨ed, h1, h2, h3⟩ := (mem_edges r2).1 hq
              rw [← h3]; exact r9 ed h1 h2
            have hjL : L.getD j false = true := by
              rcases List.mem_append.1 hje with h1 | h1
              · exact hedg j h1
              · obtain ⟨q, hq, h2⟩ := List.mem_flatMap.1 h1
                exact hcl q (hedg q hq) j h2
            have hjs : j < L.size := by rw [hs]; exact List.mem_range.1 hj
            rw [Array.getD_eq_getD_getElem?, Array.getElem?_eq_getElem hjs] at hjL ⊢
            exact hjL
          · exact .inr h
        refine wpAny_take r2 hns hfr (by simpa using hre) (fun c a w h => (hQ _ _ _ h).elim) (.inl ⟨by simp [Region.wanted, q2], hu⟩) ?_
        rw [q3]
        refine next u w ι ?_ ?_
        · rw [p3]; exact S
        · rw [p3]; exact hx
      · have hready : ∀ i ∈ Region.ready .any ops L, i < its.length := by
          intro i hi
          obtain ⟨r1, o, r2, r3⟩ := mem_ready.1 hi
          have hlt := (Array.getElem?_eq_some_iff.1 r2).1
          rcases Nat.lt_or_ge i its.length with h | h
          · exact h
          exfalso
          have hed : ∀ e ∈ edgesOf ops i, L.getD e false = true := by
            intro e he
            obtain ⟨ed, h1, h2, h3⟩ := (mem_edges r2).1 he
            rw [← h3]; exact r3 ed h1 h2
          have h1 := List.all_eq_true.1 t1 i (List.mem_range.2 hlt)
          rw [Nat.ble_eq_true_of_le h] at h1
          simp only [cond_true, Bool.or_eq_true] at h1
          rcases h1 with h1 | h1
          · obtain ⟨u, ⟨hu, hv⟩, hmin⟩ : ∃ u, (u < its.length ∧ L.getD u false = false) ∧ ∀ v, v < u → ¬ (v < its.length ∧ L.getD v false = false) := by
              obtain ⟨i, hi⟩ := hun
              induction i using Nat.strongRecOn with
              | ind i ihh =>
                by_cases h : ∃ v, v < i ∧ v < its.length ∧ L.getD v false = false
                · obtain ⟨v, h1, h2⟩ := h; exact ihh v h1 h2
                · exact ⟨i, hi, fun v hv hx => h ⟨v, hv, hx⟩⟩
            have hcl2 : ∀ q ∈ deps ops its i, L.getD q false = true := by
              intro q hq
              rcases List.mem_append.1 hq with h1 | h1
              · exact hed q h1
              · obtain ⟨e, he, h2⟩ := List.mem_flatMap.1 h1
                exact hcl e (hed e he) q h2
            have h2 := List.all_eq_true.1 h1 u (List.mem_range.2 hu)
            simp only [Bool.or_eq_true, Bool.and_eq_true] at h2
            rcases h2 with h2 | h2
            · rw [hcl2 u (memN_iff.1 h2)] at hv; cases hv
            · refine hEg ⟨u, memN_iff.1 h2, ?_⟩
              rw [mem_ready]
              have hltu : u < L.size := by rw [hs]; omega
              have hou : ops[u]? = some (ops[u]'(by omega)) := Array.getElem?_eq_getElem _
              refine ⟨?_, _, hou, fun ed hed' hb => ?_⟩
              · rw [Array.getD_eq_getD_getElem?, Array.getElem?_eq_getElem hltu] at hv ⊢; exact hv
              · obtain ⟨pre, it, r, e1, e2, g⟩ := good_at hk ho u hu
                have hix : it.i = u := by rw [g.ix, e2]
                have hd := g.down ed.on ((mem_edges (hix ▸ hou)).2 ⟨ed, hed', hb, rfl⟩)
                rw [hix] at hd
                cases hx : L.getD ed.on false with
                | true => rfl
                | false => exact absurd ⟨by omega, hx⟩ (hmin ed.on hd)
          · simp only [List.any_eq_true, Bool.and_eq_true] at h1
            obtain ⟨e, he, h1, h2⟩ := h1
            have := hed e he
            rw [hj e (Nat.le_of_ble_eq_true h1)] at this; cases this
        refine ⟨fun hr => ?_, fun i hi => ?_⟩
        · -- the least that is left is ready
          exfalso
          obtain ⟨u, ⟨hu, hv⟩, hmin⟩ : ∃ u, (u < its.length ∧ L.getD u false = false) ∧ ∀ v, v < u → ¬ (v < its.length ∧ L.getD v false = false) := by
            obtain ⟨i, hi⟩ := hun
            induction i using Nat.strongRecOn with
            | ind i ihh =>
              by_cases h : ∃ v, v < i ∧ v < its.length ∧ L.getD v false = false
              · obtain ⟨v, h1, h2⟩ := h; exact ihh v h1 h2
              · exact ⟨i, hi, fun v hv hx => h ⟨v, hv, hx⟩⟩
          obtain ⟨pre, it, r, e1, e2, g⟩ := good_at hk ho u hu
          obtain ⟨o, q1, q2, q3, q4⟩ := g.ob
          have hix : it.i = u := by rw [g.ix, e2]
          have : u ∈ Region.ready .any ops L := by
            rw [mem_ready]
            have hlt : u < L.size := by rw [hs]; omega
            refine ⟨?_, o, hix ▸ q1, fun ed hed hb => ?_⟩
            · rw [Array.getD_eq_getD_getElem?, Array.getElem?_eq_getElem hlt] at hv ⊢; exact hv
            · have hd := g.down ed.on ((mem_edges q1).2 ⟨ed, hed, hb, rfl⟩)
              rw [hix] at hd
              cases hx : L.getD ed.on false with
              | true => rfl
              | false => exact absurd ⟨by omega, hx⟩ (hmin ed.on hd)
          rw [hr] at this; cases this
        · obtain ⟨it, r, o, hmem, ⟨pr, e1⟩, hix, r2, q2, q3, q4, SL1, SL2, hfresh, next⟩ := step i hi (hready i hi)
          refine (show wpOp P ops Q i (wpAny P .any ops Q f (L.setIfInBounds i true)) a w from ?_)
          unfold wpOp
          rw [r2]
          simp only
          rw [if_pos (by simp [Region.wanted, q2])]
          left
          refine q4 _ _ SL1 SL2 hfresh (fun q hq => hfx q.1 (List.mem_flatMap.2 ⟨it, hmem, List.mem_map.2 ⟨q, hq, rfl⟩⟩)) S _ _ (fun u w1 ι1 S1 hR => ?_)
          rw [q3]
          exact next u w1 ι1 S1 hR
    · -- the tail
      have hall : ∀ i, i < its.length → L.getD i false = true := fun i hi => by
        cases hv : L.getD i false with
        | true => rfl
        | false => exact absurd ⟨i, hi, hv⟩ hun
      have e : L = upTo ops.size its.length := by
        apply Array.ext
        · rw [hs, upTo_size _ _ t4]
        · intro i h1 h2
          have g2 := upTo_getD ops.size its.length i false t4 (by omega)
          rw [Array.getD_eq_getD_getElem?, Array.getElem?_eq_getElem h2] at g2
          simp only [Option.getD_some] at g2
          rw [g2]
          rcases Nat.lt_or_ge i its.length with h | h
          · have g1 := hall i h
            rw [Array.getD_eq_getD_getElem?, Array.getElem?_eq_getElem h1] at g1
            simp only [Option.getD_some] at g1
            rw [g1]; simp [h]
          · have g1 := hj i h
            rw [Array.getD_eq_getD_getElem?, Array.getElem?_eq_getElem h1] at g1
            simp only [Option.getD_some] at g1
            rw [g1]; simp; omega
      have S' : Sat E n ds ι (GOf G0 (fun _ => true) its) (tsOf ts0 (fun _ => true) its) a w := by
        refine S.congr (fun t v hv => ?_) (fun l => ?_)
        · rw [look_tsOf hk ho] at hv ⊢
          rcases hv with ⟨it, h1, _, h3⟩ | h
          · exact .inl ⟨it, h1, hall _ ((idx_nodup hk ho).2 it h1), h3⟩
          · exact .inr h
        · apply Option.ext; intro o
          rw [look_GOf hk ho (fun _ h => h) (idx_nodup hk ho).1, look_GOf hk ho (fun _ h => h) (idx_nodup hk ho).1]
          constructor
          · rintro (⟨it, h1, _, h3⟩ | h)
            · exact .inl ⟨it, h1, hall _ ((idx_nodup hk ho).2 it h1), h3⟩
            · exact .inr h
          · rintro (⟨it, h1, _, h3⟩ | h)
            · exact .inl ⟨it, h1, rfl, h3⟩
            · exact .inr h
      have hcount : its.length + (f + 1) = ops.size := by
        rw [e] at hc
        simp only [upTo, List.toList_toArray, List.count_append, List.count_replicate] at hc
        simp at hc; omega
      rw [e]
      have := tail a w ι S'
      rw [show ops.size - its.length = f + 1 by omega] at this
      exact this


/-- A drawn region: a front in whatever order (some of it taken at once), the others one behind the other. -/
theorem AD.tailE {id : Nat} {l : List Oper} {Q : Exit → TS → GS → Prop} {ts : TS} {G : GS} {its : List It} (eg : List Nat) (hm : P.follows .mixedOrders = true) (hk : itOk l.toArray ts G n its its = true) (ht : frontOkE l.toArray its eg = true) (hq : seqOk l.toArray its = true) (hns : Region.noSelect l.toArray = true)
    (hfree : eg.all (fun e => Region.free .any l.toArray (mkL l.toArray.size (deps l.toArray its e)) e) = true) (hQ : ∀ c ts G, ¬ Q (.panic c) ts G) (hE : EgL P l.toArray ts G eg its)
    (hfx : ((its.flatMap fun it => labs it.g).all fun q => !ds.fx.contains q) = true) (next : AL P n ds l.toArray (l.drop its.length) Q (tsOf ts (fun _ => true) its) (GOf G (fun _ => true) its)) : AD P n ds id l Q ts G its := by
  intro ho E ι a w S
  have h0 : ∀ i, (Array.replicate l.toArray.size false).getD i false = false := by
    intro i
    rw [Array.getD_eq_getD_getElem?]
    by_cases h : i < l.toArray.size
    · rw [Array.getElem?_eq_getElem (by simpa using h)]; simp
    · rw [Array.getElem?_eq_none (by simpa using h)]; rfl
  refine wp_region_any hm ?_
  have S' : Sat E n ds ι G ts a { w with drawn := w.drawn + 1 } := S.grow rfl rfl rfl (Nat.le_refl _) (fun _ _ => rfl)
  have hlen : its.length ≤ l.toArray.size := by
    have h := ht
    simp only [frontOkE, Bool.and_eq_true] at h
    exact Nat.le_of_ble_eq_true h.1.2
  refine front_anyE (E := E) (ts0 := ts) (G0 := G) (its := its) eg hk ho ht hns hfree (fun c a w ⟨ts, G, ι, h, _⟩ => hQ c ts G h) hE (fun a w ι S => tail_wp (its := its) hq _ _ (Nat.le_refl _) (by omega) a w (by have := next E ι a w S; simpa using this)) (fun q hq => by simpa using List.all_eq_true.1 hfx q hq) _ _ a _ ι (by simp) (by simp) (fun j _ => h0 j) (fun i hi => by rw [h0] at hi; cases hi) ?_
  rw [tsOf_none _ _ h0, GOf_none _ _ h0]; exact S'

variable {ty : TypeId} {pos : String} {after : Array Edge} {gd : Option (Nat × Bool)} {dst : Option Tmp} {tx tyy : TypeId} {x y : Operand} {k : IntKind} {p q : Int}
theorem W_intop {op : BinOp} {r : Value} (h : evA ts x = some (vI k p)) (h' : evA ts y = some (vI k q)) (hr : ∀ w, (binOp op tx (.int k p) (.int k q)).run P w = .ok r w) : PureW P ⟨dst, .binOp op tx x y tyy, ty, pos, after, gd⟩ ts G (.tr (.val r)) :=
  fun {E n ds ι a w} S => ⟨r, fun w' => by
    have e1 := S.evV h; have e2 := S.evV h'
    simp only [execOp, e1, e2, Sem.run_bind, run_guard_int, Result.andThen_ok, hr w', Sem.run_pure], by simp [RA, RT]⟩
theorem PureW.cast {o : Oper} {x y : AV} (h : PureW P o ts G x) (e : x = y) : PureW P o ts G y := e ▸ h
theorem W_add (h : evA ts x = some (vI k p)) (h' : evA ts y = some (vI k q)) : PureW P ⟨dst, .binOp .add tx x y tyy, ty, pos, after, gd⟩ ts G (vI k (k.wrap (p + q))) := W_intop h h' fun w => by simp [binOp, Op.intArith]
theorem W_sub (h : evA ts x = some (vI k p)) (h' : evA ts y = some (vI k q)) : PureW P ⟨dst, .binOp .sub tx x y tyy, ty, pos, after, gd⟩ ts G (vI k (k.wrap (p - q))) := W_intop h h' fun w => by simp [binOp, Op.intArith]
theorem W_eql (h : evA ts x = some (vI k p)) (h' : evA ts y = some (vI k q)) : PureW P ⟨dst, .binOp .eql tx x y tyy, ty, pos, after, gd⟩ ts G (vB (decide (p = q))) := W_intop h h' fun w => by simp [binOp, Op.intCmp]; rfl
theorem W_neq (h : evA ts x = some (vI k p)) (h' : evA ts y = some (vI k q)) : PureW P ⟨dst, .binOp .neq tx x y tyy, ty, pos, after, gd⟩ ts G (vB (!decide (p = q))) := W_intop h h' fun w => by simp [binOp, Op.intCmp]; rfl
theorem W_lss (h : evA ts x = some (vI k p)) (h' : evA ts y = some (vI k q)) : PureW P ⟨dst, .binOp .lss tx x y tyy, ty, pos, after, gd⟩ ts G (vB (decide (p < q))) := W_intop h h' fun w => by simp [binOp, Op.intCmp]
theorem W_leq (h : evA ts x = some (vI k p)) (h' : evA ts y = some (vI k q)) : PureW P ⟨dst, .binOp .leq tx x y tyy, ty, pos, after, gd⟩ ts G (vB (decide (p ≤ q))) := W_intop h h' fun w => by simp [binOp, Op.intCmp]
theorem W_gtr (h : evA ts x = some (vI k p)) (h' : evA ts y = some (vI k q)) : PureW P ⟨dst, .binOp .gtr tx x y tyy, ty, pos, after, gd⟩ ts G (vB (decide (q < p))) := W_intop h h' fun w => by simp [binOp, Op.intCmp]
theorem W_geq (h : evA ts x = some (vI k p)) (h' : evA ts y = some (vI k q)) : PureW P ⟨dst, .binOp .geq tx x y tyy, ty, pos, after, gd⟩ ts G (vB (decide (q ≤ p))) := W_intop h h' fun w => by simp [binOp, Op.intCmp]
theorem W_indexStr {i : Operand} {st : TypeId} {s1 : Nat} {s : ByteArray} {j : Nat} (ht : TyIs P st .string s1) (h : evA ts x = some (vS s)) (hi : evA ts i = some (vI k (j : Int))) (hj : j < s.size) : PureW P ⟨dst, .index st x i, ty, pos, after, gd⟩ ts G (vI .u8 ((s[j]'hj).toNat : Int)) :=
  fun {E n ds ι a w} S => ⟨.int .u8 ((s[j]'hj).toNat : Int), fun w' => by simp [execOp, S.evV h, S.evV hi, Instr.index, asIntOf, ht.run_und, hj], by simp [RA, RT]⟩
end
end Go.Ab

namespace Go.Ab
open Go

theorem mkL_size (m : Nat) : ∀ d : List Nat, (mkL m d).size = m
  | [] => by simp [mkL]
  | i :: d => by simp [mkL, mkL_size m d]
theorem mkL_getD {m : Nat} (b : Bool) : ∀ (d : List Nat) {j : Nat}, j < m → (mkL m d).getD j b = decide (j ∈ d)
  | [], j, hj => by simp [mkL, Array.getD_eq_getD_getElem?, Array.getElem?_replicate, hj]
  | i :: d, j, hj => by
    have ih := mkL_getD b d hj
    simp only [mkL]
    by_cases e : i = j
    · subst e
      have : i < (mkL m d).size := by rw [mkL_size]; exact hj
      simp [Array.getD_eq_getD_getElem?, Array.getElem?_setIfInBounds, this]
    · rw [getD_set_ne b e, ih]; simp [Ne.symm e]
theorem mkL_congr {m : Nat} {d d' : List Nat} (h : ∀ j, j ∈ d ↔ j ∈ d') : mkL m d = mkL m d' := by
  apply Array.ext
  · rw [mkL_size, mkL_size]
  · intro j h1 h2
    have hj : j < m := by rw [mkL_size] at h1; exact h1
    have e1 := mkL_getD (m := m) false d hj
    have e2 := mkL_getD (m := m) false d' hj
    rw [Array.getD_eq_getD_getElem?, Array.getElem?_eq_getElem h1] at e1
    rw [Array.getD_eq_getD_getElem?, Array.getElem?_eq_getElem h2] at e2
    simp only [Option.getD_some] at e1 e2
    rw [e1, e2]; simp [h j]

section
variable {P : Program} {n : Nat} {ds : Fx} {E : Env} {ι : LMap} {G : GS} {ts : TS} {a : Act} {w w' : World} {ty : TypeId} {pos : String} {after : Array Edge} {gd : Option (Nat × Bool)} {dst : Option Tmp}
theorem W_build {t : TypeId} {fs : Array Field} {sz : Nat} {pl : List (Nat × Nat)} {z : Value} {parts : Array (Nat × Operand)} {cs : List AV} (ht : TyIs P t (.struct fs) sz) (hz : TyZ P t z) (hf : FldIs P fs pl)
    (hc : fillA ts (fun i : Nat => pl[i]?) (valsA z.cells.toList) parts.toList = some cs) : PureW P ⟨dst, .build t parts, ty, pos, after, gd⟩ ts G (mkA cs) :=
  fun {E n ds ι a w} S => by
    obtain ⟨us', q1, q2⟩ := fillA_spec S _ hc (RAs_vals z.cells.toList)
    refine ⟨.agg us'.toArray, fun w' => ?_, RA_mkA q2⟩
    have hp : ((parts.map fun (i, x) => (i, a.eval x)).toList) = parts.toList.map fun q => (q.1, a.eval q.2) := by simp
    have hpl : (fun i : Nat => pl.toArray[i]?) = (fun i : Nat => pl[i]?) := by funext i; simp
    simp only [execOp, Instr.build, hz.run, ht.run_und, hf.run, Sem.run_bind, Result.andThen_ok, hp, hpl]
    rw [show z.cells = z.cells.toList.toArray by simp, q1]
    rfl
theorem W_makeFunc {f : FuncId} {first cap : Array Operand} {fs cs : List AV} (h1 : evs ts first.toList = some fs) (h2 : evs ts cap.toList = some cs) : PureW P ⟨dst, .makeFunc (.func f) first cap, ty, pos, after, gd⟩ ts G (.fn f fs cs) :=
  fun {E n ds ι a w} S => ⟨_, fun _ => rfl, by
    simp only [RA]
    exact ⟨_, _, by rw [← Array.toArray_toList (xs := first.map _), ← Array.toArray_toList (xs := cap.map _)], by simpa using S.evl h1, by simpa using S.evl h2⟩⟩

/-! ### Maps whose entries stand in no order -/
theorem REnts.cons_at {M : BSet} : ∀ {es : List (Value × AV)} {arr : List MapEntry}, REnts M ι w es arr → ∀ e ∈ arr, ∃ p ∈ es, e.key = p.1 ∧ RA M ι w p.2 e.val
  | [], arr, h, e, he => by simp only [REnts] at h; subst h; cases he
  | q :: es, arr, h, e, he => by
    simp only [REnts] at h
    obtain ⟨e', r, rfl, h1, h2, h3⟩ := h
    rcases List.mem_cons.1 he with rfl | he
    · exact ⟨q, by simp, h1, h2⟩
    · obtain ⟨p, hp, h4⟩ := REnts.cons_at h3 e he
      exact ⟨p, List.mem_cons_of_mem _ hp, h4⟩
theorem REnts.of_mem {M : BSet} : ∀ {es : List (Value × AV)} {arr : List MapEntry}, REnts M ι w es arr → ∀ p ∈ es, ∃ e ∈ arr, e.key = p.1 ∧ RA M ι w p.2 e.val
  | [], arr, h, p, hp => by cases hp
  | q :: es, arr, h, p, hp => by
    simp only [REnts] at h
    obtain ⟨e', r, rfl, h1, h2, h3⟩ := h
    rcases List.mem_cons.1 hp with rfl | hp
    · exact ⟨e', by simp, h1, h2⟩
    · obtain ⟨e, he, h4⟩ := REnts.of_mem h3 p hp
      exact ⟨e, List.mem_cons_of_mem _ he, h4⟩
theorem S_mapS (S : Sat E n ds ι G ts a w) {l : Nat} {es : List (Value × AV)} (hl : look G l = some (.mapS es)) : ∃ b arr clock es', ι l = some b ∧ es'.Perm es ∧ w.heap[b]? = some (.map arr clock) ∧ REnts (Mut E.X ι G) ι w es' arr.toList ∧ arr.toList.Pairwise (fun x y => x.born < y.born) ∧ ∀ e ∈ arr.toList, e.born < clock := by
  obtain ⟨es', hp, b', arr, clock, h1, h2, h3, h4, h5⟩ := S.hp.obj l _ hl
  exact ⟨b', arr, clock, es', h1, hp, h2, h3, h4, h5⟩
theorem Sat.turnMapS (S : Sat E n ds ι G ts a w) {l b : Nat} {es es' : List (Value × AV)} {arr arr2 : Array MapEntry} {clock clock2 : Nat} (hd : InDom G l) (hb : ι l = some b) (hh : w.heap[b]? = some (.map arr clock)) (hpm : es'.Perm es)
    (hr : REnts (Mut E.X ι G) ι w es' arr2.toList) (hp : arr2.toList.Pairwise (fun x y => x.born < y.born)) (hc : ∀ e ∈ arr2.toList, e.born < clock2) :
    Sat E n ds ι ((l, .mapS es) :: dropL l G) ts a { w with heap := w.heap.setIfInBounds b (.map arr2 clock2) } := by
  have eι : (fun k => if k = l then some b else ι k) = ι := by
    funext q
    by_cases hq : q = l
    · subst hq; simp [hb]
    · simp [hq]
  have hlt := (S.hp.lt l b hd hb).1
  have hold : ∀ i, i ≠ b → (w.heap.setIfInBounds b (.map arr2 clock2))[i]? = w.heap[i]? := fun i hi => by rw [Array.getElem?_setIfInBounds_ne (Ne.symm hi)]
  have hat : (w.heap.setIfInBounds b (Obj.map arr2 clock2))[b]? = some (.map arr2 clock2) := by rw [Array.getElem?_setIfInBounds_self_of_lt hlt]
  have := S.turn (w' := { w with heap := w.heap.setIfInBounds b (.map arr2 clock2) }) l b (.mapS es) rfl rfl rfl (by simp) (fun i hi hne => hold i (fun e => hne hd (by rw [e]; exact hb)))
    (fun i hi => by
      by_cases e : i = b
      · subst e; simp only [cellsIn, hat, hh]
      · exact cellsIn_of (hold i e))
    (by simpa using hlt) (.inl ⟨hd, hb⟩) (fun _ => hb) (fun _ _ => .inl hb) (fun _ _ _ _ => .inl hb)
    (fun k => by
      rw [eι] at k ⊢
      exact ⟨es', hpm, b, arr2, clock2, rfl, hat, REnts.keepz k hr, hp, hc⟩)
  rwa [eι] at this
theorem insert_core (S : Sat E n ds ι G ts a w) {t k e : TypeId} {lb : Nat} {es : List (Value × AV)} {kx : Value} {v : AV} {u : Value} (M : MapIs P t k e) (hl : look G lb = some (.mapS es)) (hks : ∀ p ∈ es, ∃ q, keyOf P k p.1 = some q) (hne : ∀ p ∈ es, p.1 ≠ kx) (hkx : ∃ q, keyOf P k kx = some q)
    (hv : RA (Mut E.X ι G) ι w v u) : ∃ b w', ι lb = some b ∧ (Instr.mapUpdate t (.map (some b)) kx u).run P w = .ok () w' ∧ Sat E n ds ι ((lb, .mapS ((kx, v) :: es)) :: dropL lb G) ts a w' := by
  obtain ⟨b, arr, clock, es', hb, hpm, m1, m2, m3, m4⟩ := S_mapS S hl
  obtain ⟨lx, hlx⟩ := hkx
  have hkeys : ∀ e ∈ arr.toList, ∃ q, keyOf P k e.key = some q := by
    intro e he
    obtain ⟨p, hp, h1, _⟩ := REnts.cons_at m2 e he
    rw [h1]; exact hks p (hpm.mem_iff.1 hp)
  have hfind : (Instr.findKey k kx arr.toList).run P w = .ok none w := by
    rcases M.law.find w hlx arr.toList hkeys with ⟨h1, h2⟩ | ⟨j, e, h1, h2, h3⟩
    · exact h1
    · exfalso
      obtain ⟨p, hp, h4, _⟩ := REnts.cons_at m2 e (List.mem_of_getElem? h2)
      exact hne p (hpm.mem_iff.1 hp) (h4.symm.trans h3)
  refine ⟨b, { w with heap := w.heap.setIfInBounds b (.map (arr.push ⟨kx, u, clock⟩) (clock + 1)) }, hb, ?_, S.turnMapS ⟨_, hl⟩ hb m1 (es' := es' ++ [(kx, v)]) ?_ ?_ ?_ ?_⟩
  · simp only [Instr.mapUpdate, Sem.run_bind, run_underlying M.und, Result.andThen_ok, getMap m1, M.law.check w _ hlx, hfind, setMap _ m1]
  · exact (List.perm_append_singleton _ _).trans (hpm.cons _)
  · rw [Array.toList_push]; exact REnts.snoc (e := ⟨kx, u, clock⟩) m2 hv
  · rw [Array.toList_push, List.pairwise_append]; exact ⟨m3, by simp, fun x hx y hy => by simp at hy; subst hy; exact m4 x hx⟩
  · intro x hx; rw [Array.toList_push] at hx
    rcases List.mem_append.1 hx with hx | hx
    · have := m4 x hx; omega
    · simp at hx; subst hx; simp
/-- A look-up where it is known what is found. -/
theorem P_lookupSome {t k e : TypeId} {m i : Operand} {lb : Nat} {es : List (Value × AV)} {kx : Value} (v : AV) (M : MapIs P t k e) (hx : evA ts m = some (.map lb)) (hi : ∀ {E : Env} {n : Nat} {ds : Fx} {ι : LMap} {a : Act} {w : World}, Sat E n ds ι G ts a w → a.eval i = kx)
    (hl : look G lb = some (.mapS es)) (hks : ∀ p ∈ es, ∃ q, keyOf P k p.1 = some q) (hnd : (es.map (·.1)).Nodup) (hmem : (kx, v) ∈ es) : Pure1 P ⟨dst, .lookup t m i true, ty, pos, after, gd⟩ ts G (.tup [v, vB true]) :=
  fun {E n ds ι a w} S => by
    have hr := S.ev hx
    simp only [RA] at hr
    obtain ⟨b, arr, clock, es', hb, hpm, m1, m2, m3, m4⟩ := S_mapS S hl
    rw [hb] at hr
    obtain ⟨lx, hlx⟩ := hks _ hmem
    have hkeys : ∀ e ∈ arr.toList, ∃ q, keyOf P k e.key = some q := by
      intro e he
      obtain ⟨p, hp, h1, _⟩ := REnts.cons_at m2 e he
      rw [h1]; exact hks p (hpm.mem_iff.1 hp)
    rcases M.law.find w hlx arr.toList hkeys with ⟨h1, h2⟩ | ⟨j, e', h1, h2, h3⟩
    · exfalso
      obtain ⟨e', he, h3, _⟩ := REnts.of_mem m2 _ (hpm.mem_iff.2 hmem)
      exact h2 e' he h3
    · obtain ⟨p, hp, h4, h5⟩ := REnts.cons_at m2 e' (List.mem_of_getElem? h2)
      have hpe : p = (kx, v) := by
        have hp' := hpm.mem_iff.1 hp
        exact inj_nodup hnd hp' hmem (by show p.1 = kx; rw [← h4]; exact h3)
      subst hpe
      refine ⟨.tuple #[e'.val, .bool true], ?_, ?_⟩
      · simp only [execOp, hr, hi S, Instr.lookup, Sem.run_bind, run_underlying M.und, Result.andThen_ok, getMap m1, Sem.run_pure, M.law.check w _ hlx, h1]
        simp
      · simp only [RA, RAs]
        exact ⟨[e'.val, .bool true], rfl, e'.val, _, rfl, h5, _, _, rfl, by simp [RT], rfl⟩
theorem P_lookupNone {t k e : TypeId} {m i : Operand} {lb : Nat} {es : List (Value × AV)} {kx z : Value} (M : MapIs P t k e) (hz : TyZ P e z) (hx : evA ts m = some (.map lb)) (hi : ∀ {E : Env} {n : Nat} {ds : Fx} {ι : LMap} {a : Act} {w : World}, Sat E n ds ι G ts a w → a.eval i = kx)
    (hl : look G lb = some (.mapS es)) (hks : ∀ p ∈ es, ∃ q, keyOf P k p.1 = some q) (hkx : ∃ q, keyOf P k kx = some q) (hne : ∀ p ∈ es, p.1 ≠ kx) : Pure1 P ⟨dst, .lookup t m i true, ty, pos, after, gd⟩ ts G (.tup [.tr (valT z), vB false]) :=
  fun {E n ds ι a w} S => by
    have hr := S.ev hx
    simp only [RA] at hr
    obtain ⟨b, arr, clock, es', hb, hpm, m1, m2, m3, m4⟩ := S_mapS S hl
    rw [hb] at hr
    obtain ⟨lx, hlx⟩ := hkx
    have hkeys : ∀ e ∈ arr.toList, ∃ q, keyOf P k e.key = some q := by
      intro e he
      obtain ⟨p, hp, h1, _⟩ := REnts.cons_at m2 e he
      rw [h1]; exact hks p (hpm.mem_iff.1 hp)
    rcases M.law.find w hlx arr.toList hkeys with ⟨h1, h2⟩ | ⟨j, e', h1, h2, h3⟩
    · refine ⟨.tuple #[z, .bool false], ?_, ?_⟩
      · simp only [execOp, hr, hi S, Instr.lookup, Sem.run_bind, run_underlying M.und, Result.andThen_ok, getMap m1, Sem.run_pure, M.law.check w _ hlx, h1, hz.run]
        simp
      · simp only [RA, RAs]
        exact ⟨[z, .bool false], rfl, z, _, rfl, RT_valT z, _, _, rfl, by simp [RT], rfl⟩
    · exfalso
      obtain ⟨p, hp, h4, _⟩ := REnts.cons_at m2 e' (List.mem_of_getElem? h2)
      exact hne p (hpm.mem_iff.1 hp) (h4.symm.trans h3)
/-- A map that was just made. -/
theorem AL.mapTS {ops : Array Oper} {rest : List Oper} {Q : Exit → TS → GS → Prop} (l : Nat) (h : look G l = some (.mapT [])) (next : AL P n ds ops rest Q ts ((l, .mapS []) :: dropL l G)) : AL P n ds ops rest Q ts G := by
  intro E ι a w S
  refine next E ι a w (S.reO ⟨_, h⟩ ?_)
  obtain ⟨b, arr, clock, h1, h2⟩ := S.hp.obj l _ h
  exact ⟨[], List.Perm.refl _, b, arr, clock, h1, h2⟩
theorem Sat.permS (S : Sat E n ds ι G ts a w) (l : Nat) {es es' : List (Value × AV)} (h : look G l = some (.mapS es)) (hp : es.Perm es') : Sat E n ds ι ((l, .mapS es') :: dropL l G) ts a w := by
  refine S.reO ⟨_, h⟩ ?_
  obtain ⟨e2, hp2, h2⟩ := S.hp.obj l _ h
  exact ⟨e2, hp2.trans hp, h2⟩
end

section
variable {P : Program} {n : Nat} {ds : Fx} {ops : Array Oper} {Q : Exit → TS → GS → Prop} {ts : TS} {G : GS} {f : Nat} {done : List Nat}
/-- What waits for what, where some entries are to be laid. -/
def insOk (ops : Array Oper) (done I : List Nat) : Bool :=
  (List.range ops.size).all (fun j => bif memN done j then true else bif memN I j then subN (edgesOf ops j) done else I.all (memN (edgesOf ops j)) || (edgesOf ops j).any (fun e => !memN done e && !memN I e && Nat.blt e ops.size))
  && I.all (fun i => !memN done i && Nat.blt i ops.size) && done.all (fun e => Nat.blt e ops.size)
/-- An entry: which operation, its key, its value. -/
structure Ins where
  i : Nat
  k : Value
  v : AV
def InsAll (P : Program) (ops : Array Oper) (t : TypeId) (lb : Nat) (ts : TS) (G : GS) : List Ins → Prop
  | [] => True
  | q :: r => (∃ m ko vo ty pos after, ops[q.i]? = some ⟨none, .insert t m ko vo, ty, pos, after, none⟩ ∧ evA ts m = some (.map lb) ∧ evA ts vo = some q.v ∧ ∀ {E : Env} {n : Nat} {ds : Fx} {ι : LMap} {a : Act} {w : World} {G : GS}, Sat E n ds ι G ts a w → a.eval ko = q.k) ∧ InsAll P ops t lb ts G r
theorem InsAll_at {t : TypeId} {lb : Nat} : ∀ {l : List Ins}, InsAll P ops t lb ts G l → ∀ q ∈ l, ∃ m ko vo ty pos after, ops[q.i]? = some ⟨none, .insert t m ko vo, ty, pos, after, none⟩ ∧ evA ts m = some (.map lb) ∧ evA ts vo = some q.v ∧ ∀ {E : Env} {n : Nat} {ds : Fx} {ι : LMap} {a : Act} {w : World} {G : GS}, Sat E n ds ι G ts a w → a.eval ko = q.k
  | [], _, q, hq => by cases hq
  | p :: l, h, q, hq => by
    rcases List.mem_cons.1 hq with rfl | hq
    · exact h.1
    · exact InsAll_at h.2 q hq
theorem AO.inserts {t kt et : TypeId} {lb : Nat} (I : List Ins) (M : MapIs P t kt et) (hall : InsAll P ops t lb ts G I) (hks : ∀ q ∈ I, ∃ z, keyOf P kt q.k = some z) (hnd : (I.map (·.k)).Nodup) (hni : (I.map (·.i)).Nodup) (hok : insOk ops done (I.map (·.i)) = true)
    (hl : look G lb = some (.mapS [])) (next : AO P n ds ops f (I.map (·.i) ++ done) Q ts ((lb, .mapS (I.map fun q => (q.k, q.v))) :: dropL lb G)) : AO P n ds ops (f + I.length) done Q ts G := by
  simp only [insOk, Bool.and_eq_true] at hok
  obtain ⟨⟨o1, o2⟩, o3⟩ := hok
  have hdone : ∀ e ∈ done, e < ops.size := fun e he => by simpa [Nat.blt_eq] using List.all_eq_true.1 o3 e he
  have hI : ∀ q ∈ I, q.i ∉ done ∧ q.i < ops.size ∧ ∀ e ∈ edgesOf ops q.i, e ∈ done := by
    intro q hq
    have h1 := List.all_eq_true.1 o2 q.i (List.mem_map.2 ⟨q, hq, rfl⟩)
    simp only [Bool.and_eq_true, Bool.not_eq_true'] at h1
    have hlt : q.i < ops.size := by simpa [Nat.blt_eq] using h1.2
    have hnd' : q.i ∉ done := fun h => by rw [memN_iff.2 h] at h1; cases h1.1
    refine ⟨hnd', hlt, ?_⟩
    have h2 := List.all_eq_true.1 o1 q.i (List.mem_range.2 hlt)
    rw [h1.1, memN_iff.2 (List.mem_map.2 ⟨q, hq, rfl⟩)] at h2
    simp only [cond_false, cond_true] at h2
    exact subN_iff.1 h2
  -- the step
  have key : ∀ (rem D : List Ins), (D ++ rem).Perm I → AO P n ds ops (f + rem.length) (D.map (·.i) ++ done) Q ts ((lb, .mapS (D.map fun q => (q.k, q.v))) :: dropL lb G) := by
    intro rem
    induction hn : rem.length generalizing rem with
    | zero =>
      intro D hp E ι a w S
      have hr : rem = [] := List.eq_nil_of_length_eq_zero hn
      subst hr
      rw [List.append_nil] at hp
      have hL : mkL ops.size (D.map (·.i) ++ done) = mkL ops.size (I.map (·.i) ++ done) := mkL_congr fun j => by
        simp only [List.mem_append, (hp.map (·.i)).mem_iff]
      rw [hL]
      have S2 := S.permS lb (look_cons_same _ _ _) (hp.map fun q => (q.k, q.v))
      refine next E ι a w (S2.congr (fun _ _ h => h) fun q => ?_)
      by_cases e : q = lb
      · subst e; rw [look_cons_same, look_cons_same]
      · rw [look_cons_ne _ _ (Ne.symm e), look_cons_ne _ _ (Ne.symm e), look_dropL_ne e, look_dropL_ne e, look_cons_ne _ _ (Ne.symm e), look_dropL_ne e]
    | succ m ih =>
      intro D hp E ι a w S
      have hmemI : ∀ q, q ∈ D ∨ q ∈ rem ↔ q ∈ I := fun q => by rw [← List.mem_append]; exact hp.mem_iff
      have hndD : ((D ++ rem).map (·.i)).Nodup := (hp.map (·.i)).nodup_iff.2 hni
      have hkD : ((D ++ rem).map (·.k)).Nodup := (hp.map (·.k)).nodup_iff.2 hnd
      have hLt : ∀ (b : Bool) j, j < ops.size → (mkL ops.size (D.map (·.i) ++ done)).getD j b = decide (j ∈ D.map (·.i) ++ done) := fun b j hj => mkL_getD b _ hj
      have hready : ∀ i ∈ Region.ready .any ops (mkL ops.size (D.map (·.i) ++ done)), ∃ q ∈ rem, q.i = i := by
        intro i hi
        obtain ⟨r1, o, r2, r3⟩ := mem_ready.1 hi
        have hlt := (Array.getElem?_eq_some_iff.1 r2).1
        rw [hLt _ _ hlt] at r1
        have hnot : i ∉ D.map (·.i) ++ done := by simpa using r1
        rw [List.mem_append, not_or] at hnot
        have hedL : ∀ e ∈ edgesOf ops i, e < ops.size → e ∈ D.map (·.i) ++ done := by
          intro e he hes
          obtain ⟨ed, h1, h2, h3⟩ := (mem_edges r2).1 he
          have := r3 ed h1 h2
          rw [h3, hLt _ _ hes] at this
          simpa using this
        have h2 := List.all_eq_true.1 o1 i (List.mem_range.2 hlt)
        cases hmd : memN done i with
        | true => exact absurd (memN_iff.1 hmd) hnot.2
        | false =>
          rw [hmd] at h2
          simp only [cond_false] at h2
          cases hmi : memN (I.map (·.i)) i with
          | true =>
            obtain ⟨q, hq, e⟩ := List.mem_map.1 (memN_iff.1 hmi)
            rcases (hmemI q).2 hq with h | h
            · exact absurd (List.mem_map.2 ⟨q, h, e⟩) hnot.1
            · exact ⟨q, h, e⟩
          | false =>
            exfalso
            rw [hmi] at h2
            simp only [cond_false, Bool.or_eq_true] at h2
            rcases h2 with h2 | h2
            · obtain ⟨q, hq⟩ : ∃ q, q ∈ rem := by
                cases rem with
                | nil => simp at hn
                | cons q r => exact ⟨q, by simp⟩
              have hqI := (hmemI q).1 (.inr hq)
              have he := memN_iff.1 (List.all_eq_true.1 h2 q.i (List.mem_map.2 ⟨q, hqI, rfl⟩))
              obtain ⟨h3, h4, _⟩ := hI q hqI
              rcases List.mem_append.1 (hedL _ he h4) with h5 | h5
              · rw [List.map_append, List.nodup_append] at hndD
                exact hndD.2.2 _ h5 _ (List.mem_map.2 ⟨q, hq, rfl⟩) rfl
              · exact h3 h5
            · obtain ⟨e, he, h3⟩ := List.any_eq_true.1 h2
              simp only [Bool.and_eq_true, Bool.not_eq_true'] at h3
              have hes : e < ops.size := by simpa [Nat.blt_eq] using h3.2
              rcases List.mem_append.1 (hedL _ he hes) with h5 | h5
              · obtain ⟨q, hq, e2⟩ := List.mem_map.1 h5
                have := memN_iff.2 (List.mem_map.2 ⟨q, (hmemI q).1 (.inl hq), e2⟩)
                rw [h3.1.2] at this; cases this
              · have := memN_iff.2 h5
                rw [h3.1.1] at this; cases this
      have hne : Region.ready .any ops (mkL ops.size (D.map (·.i) ++ done)) ≠ [] := by
        obtain ⟨q, hq⟩ : ∃ q, q ∈ rem := by
          cases rem with
          | nil => simp at hn
          | cons q r => exact ⟨q, by simp⟩
        have hqI := (hmemI q).1 (.inr hq)
        obtain ⟨h3, h4, h5⟩ := hI q hqI
        have : q.i ∈ Region.ready .any ops (mkL ops.size (D.map (·.i) ++ done)) := by
          rw [mem_ready]
          have ho : ops[q.i]? = some ops[q.i] := Array.getElem?_eq_getElem h4
          refine ⟨?_, _, ho, fun ed h1 h2 => ?_⟩
          · rw [hLt _ _ h4]
            simp only [decide_eq_false_iff_not, List.mem_append, not_or]
            refine ⟨fun h => ?_, h3⟩
            rw [List.map_append, List.nodup_append] at hndD
            exact hndD.2.2 _ h _ (List.mem_map.2 ⟨q, hq, rfl⟩) rfl
          · have he := h5 ed.on ((mem_edges ho).2 ⟨ed, h1, h2, rfl⟩)
            rcases Nat.lt_or_ge ed.on ops.size with hlt | hge
            · rw [hLt _ _ hlt]; simp [he]
            · exfalso
              -- what is done lies within
              exact absurd (show ed.on < ops.size from by
                rcases Nat.lt_or_ge ed.on ops.size with h | h
                · exact h
                · exact (hdone ed.on he)) (by omega)
        intro h
        rw [h] at this; cases this
      rw [show f + (m + 1) = (f + m) + 1 by omega]
      refine wpAny_all rfl hne fun i hi => ?_
      obtain ⟨q, hq, rfl⟩ := hready i hi
      have hqI := (hmemI q).1 (.inr hq)
      obtain ⟨mo, ko, vo, ty, pos, after, p1, p2, p3, p4⟩ := InsAll_at hall q hqI
      have hm2 := S.ev p2
      simp only [RA] at hm2
      have hv := S.ev p3
      have hDk : ∀ p ∈ D.map (fun q => (q.k, q.v)), p.1 ≠ q.k := by
        intro p hp'
        obtain ⟨d, hd, rfl⟩ := List.mem_map.1 hp'
        rw [List.map_append, List.nodup_append] at hkD
        exact hkD.2.2 _ (List.mem_map.2 ⟨d, hd, rfl⟩) _ (List.mem_map.2 ⟨q, hq, rfl⟩)
      obtain ⟨b, w', hb, hrun, S'⟩ := insert_core (P := P) S M (look_cons_same _ _ _) (fun p hp' => by
        obtain ⟨d, hd, rfl⟩ := List.mem_map.1 hp'
        exact hks d ((hmemI d).1 (.inl hd))) hDk (hks q hqI) hv
      unfold wpOp
      rw [p1]
      simp only
      rw [if_pos (by simp [Region.wanted])]
      left
      unfold Oper.wp
      have hrun2 : (execOp a.eval ⟨none, .insert t mo ko vo, ty, pos, after, none⟩).run P w = .ok .skip w' := by
        rw [hb] at hm2
        simp only [execOp, hm2, p4 S, Sem.run_bind, hrun, Result.andThen_ok, Sem.run_pure]
      rw [hrun2]
      show wpAny P .any ops (Lift E n ds Q) (f + m) _ (a.put none undef) w'
      obtain ⟨r1, r2, hre⟩ := List.append_of_mem hq
      have hp2 : ((q :: D) ++ (r1 ++ r2)).Perm I := by
        refine List.Perm.trans ?_ hp
        rw [hre]
        simp only [List.cons_append, ← List.append_assoc]
        exact (List.perm_middle (a := q) (l₁ := D ++ r1) (l₂ := r2)).symm
      have hlen : (r1 ++ r2).length = m := by rw [hre] at hn; simp at hn ⊢; omega
      have := ih (r1 ++ r2) hlen (q :: D) hp2 E ι (a.put none undef) w' (by
        refine (S'.putN undef).congr (fun _ _ h => h) fun l => ?_
        by_cases e : l = lb
        · subst e; rw [look_cons_same, look_cons_same]; rfl
        · rw [look_cons_ne _ _ (Ne.symm e), look_cons_ne _ _ (Ne.symm e), look_dropL_ne e, look_dropL_ne e, look_cons_ne _ _ (Ne.symm e), look_dropL_ne e])
      exact this
  have := key I [] (by simp)
  intro E ι a w S
  refine this E ι a w (S.congr (fun _ _ h => h) fun l => ?_)
  by_cases e : l = lb
  · subst e; rw [look_cons_same]; exact hl.symm
  · rw [look_cons_ne _ _ (Ne.symm e), look_dropL_ne e]
end
end Go.Ab

namespace Go.Ab
open Go

theorem toList_loop (b : ByteArray) : ∀ (k i : Nat) (r : List UInt8), b.size - i = k → ByteArray.toList.loop b i r = r.reverse ++ b.data.toList.drop i
  | 0, i, r, h => by
    rw [ByteArray.toList.loop, if_neg (by omega), List.drop_of_length_le (by have : b.data.toList.length = b.size := Array.length_toList; omega), List.append_nil]
  | k + 1, i, r, h => by
    have hl : b.data.toList.length = b.size := Array.length_toList
    have hi : i < b.data.toList.length := by omega
    rw [ByteArray.toList.loop, if_pos (by omega), toList_loop b k (i + 1) _ (by omega), List.drop_eq_getElem_cons hi]
    have : b.get! i = b.data.toList[i] := by
      have h2 : i < b.data.size := by simpa using hi
      show b.data[i]! = _
      rw [getElem!_pos b.data i h2, Array.getElem_toList]
    simp [this]
theorem toList_data (b : ByteArray) : b.toList = b.data.toList := by
  have := toList_loop b b.size 0 [] (by omega)
  simpa [ByteArray.toList] using this
theorem seq_iff (p q : ByteArray) : (p.toList == q.toList) = decide (p = q) := by
  rw [toList_data, toList_data]
  by_cases h : p = q
  · subst h; simp
  · rw [decide_eq_false h]
    simp only [beq_eq_false_iff_ne, ne_eq]
    intro e
    apply h
    cases p; cases q
    simp only [ByteArray.mk.injEq]
    exact Array.ext' e
theorem P_seqD {P : Program} {ts : TS} {G : GS} {ty : TypeId} {pos : String} {after : Array Edge} {gd : Option (Nat × Bool)} {dst : Option Tmp} {x y : Operand} {tx tyy : TypeId} {p q : ByteArray} (h : evA ts x = some (vS p)) (h' : evA ts y = some (vS q)) : Pure1 P ⟨dst, .binOp .eql tx x y tyy, ty, pos, after, gd⟩ ts G (vB (decide (p = q))) :=
  seq_iff p q ▸ P_seql h h'
theorem P_sneD {P : Program} {ts : TS} {G : GS} {ty : TypeId} {pos : String} {after : Array Edge} {gd : Option (Nat × Bool)} {dst : Option Tmp} {x y : Operand} {tx tyy : TypeId} {p q : ByteArray} (h : evA ts x = some (vS p)) (h' : evA ts y = some (vS q)) : Pure1 P ⟨dst, .binOp .neq tx x y tyy, ty, pos, after, gd⟩ ts G (vB (!decide (p = q))) :=
  seq_iff p q ▸ P_sneq h h'
abbrev sT (s : ByteArray) : Tr := .val (.string s)
theorem getElem_data (s : ByteArray) {i : Nat} (h : i < s.size) : s.data.toList[i]? = some (s[i]'h) := by
  have h2 : i < s.data.size := h
  rw [Array.getElem?_toList, Array.getElem?_eq_getElem h2]; rfl
theorem P_sliceSH {P : Program} {ts : TS} {G : GS} {ty : TypeId} {pos : String} {after : Array Edge} {gd : Option (Nat × Bool)} {dst : Option Tmp} {st : TypeId} {s1 : Nat} {x hi : Operand} {k' : IntKind} {q : Int} {s : ByteArray} (ht : TyIs P st .string s1) (h : evA ts x = some (vS s)) (hq : evA ts hi = some (vI k' q)) (h0 : 0 ≤ q ∧ q ≤ s.size) :
    Pure1 P ⟨dst, .slice st x none (some hi) none, ty, pos, after, gd⟩ ts G (vS (s.extract 0 q.toNat)) :=
  fun {E n ds ι a w} S => by
    refine ⟨.string (s.extract 0 q.toNat), ?_, by simp [RA, RT]⟩
    have e1 : (q.toNat : Int) = q := Int.toNat_of_nonneg h0.1
    simp [execOp, S.evV h, S.evV hq, Instr.sliceAt, ht.run_und, Instr.slice, Instr.sliceBounds, Instr.sliceBound, asIntOf, h0.1, h0.2, e1]
/-- The byte at a place of a text. -/
abbrev atB (s : ByteArray) (j : Nat) : UInt8 := s.data.toList.getD j 0
theorem atB_eq (s : ByteArray) {j : Nat} (h : j < s.size) : atB s j = s[j]'h := by
  simp [atB, List.getD, getElem_data s h]
theorem P_indexStrG {P : Program} {ts : TS} {G : GS} {ty : TypeId} {pos : String} {after : Array Edge} {gd : Option (Nat × Bool)} {dst : Option Tmp} {x i : Operand} {st : TypeId} {s1 : Nat} {s : ByteArray} {k : IntKind} {j : Nat} (ht : TyIs P st .string s1) (h : evA ts x = some (vS s)) (hi : evA ts i = some (vI k (j : Int))) (hj : j < s.size) :
    Pure1 P ⟨dst, .index st x i, ty, pos, after, gd⟩ ts G (vI .u8 ((atB s j).toNat : Int)) :=
  (atB_eq s hj) ▸ P_indexStr ht h hi hj
theorem W_indexStrG {P : Program} {ts : TS} {G : GS} {ty : TypeId} {pos : String} {after : Array Edge} {gd : Option (Nat × Bool)} {dst : Option Tmp} {x i : Operand} {k : IntKind} {st : TypeId} {s1 : Nat} {s : ByteArray} {j : Nat} (ht : TyIs P st .string s1) (h : evA ts x = some (vS s)) (hi : evA ts i = some (vI k (j : Int))) (hj : j < s.size) : PureW P ⟨dst, .index st x i, ty, pos, after, gd⟩ ts G (vI .u8 ((atB s j).toNat : Int)) :=
  (atB_eq s hj) ▸ W_indexStr ht h hi hj
end Go.Ab

namespace Go.Ab
open Go

section
variable {P : Program} {n : Nat} {ds : Fx} {E : Env} {ι : LMap} {G : GS} {ts : TS} {a : Act} {w : World}
theorem Sat.ghost0 (S : Sat E n ds ι G ts a w) (l : Nat) (e : TypeId) (sz : Nat) (hF : ds.fx.contains l = false) (hT : freshT l ts = true) (hG : freshG l G = true) :
    ∃ ι', Sat E n ds ι' ((l, .els e sz []) :: G) ts a w := by
  obtain ⟨hd, hG'⟩ := freshG_spec hG
  let ι' : LMap := fun k => if k = l then none else ι k
  have hι : ∀ k, (!(Nat.beq k l)) = true → ι' k = ι k := fun k hk => if_neg (beq_ne hk)
  have dom : ∀ k, k ≠ l → (InDom ((l, AObj.els e sz []) :: G) k ↔ InDom G k) := by
    intro k hk
    unfold InDom
    rw [look_cons_ne _ _ (fun e => hk e.symm)]
  have hmu : ∀ b, Mut E.X ι' ((l, .els e sz []) :: G) b → Mut E.X ι G b := by
    rintro b (h | ⟨k, hk, e⟩)
    · exact .inl h
    · by_cases h1 : k = l
      · subst h1; simp [ι'] at e
      · simp only [ι', if_neg h1] at e; exact .inr ⟨k, (dom k h1).1 hk, e⟩
  have k : Keep (Mut E.X ι G) (Mut E.X ι' ((l, .els e sz []) :: G)) w w := ⟨Nat.le_refl _, fun _ _ _ => rfl, fun b _ h => hmu b h, fun _ _ => rfl⟩
  refine ⟨ι', { dfs := S.dfs, sz := S.sz, tm := ?_, hp := { obj := ?_, inj := ?_, lt := ?_, xlt := S.hp.xlt }, fr := S.fr, wr := ?_, fx := ?_ }⟩
  · intro t' x hx
    obtain ⟨u, hu, hr⟩ := S.tm _ _ hx
    exact ⟨u, hu, RA.keep k _ hι x u (List.all_eq_true.1 hT _ (mem_of_look hx)) hr⟩
  · intro q o ho
    rcases look_cons ho with ⟨rfl, rfl⟩ | ⟨hne, ho⟩
    · exact .inl ⟨by simp [ι'], rfl⟩
    · have : ι' q = ι q := if_neg fun e => hne e.symm
      rw [this]
      exact RO.keep k _ hι o _ (fun _ _ => rfl) (hG' q o ho) (S.hp.obj q o ho)
  · intro q q' b hq hq' e1 e2
    by_cases h1 : q = l
    · subst h1; simp [ι'] at e1
    · by_cases h2 : q' = l
      · subst h2; simp [ι'] at e2
      · simp only [ι', if_neg h1] at e1
        simp only [ι', if_neg h2] at e2
        exact S.hp.inj q q' b ((dom q h1).1 hq) ((dom q' h2).1 hq') e1 e2
  · intro q b hq e1
    by_cases h1 : q = l
    · subst h1; simp [ι'] at e1
    · simp only [ι', if_neg h1] at e1
      exact S.hp.lt q b ((dom q h1).1 hq) e1
  · intro q b hq e1
    by_cases h1 : q = l
    · subst h1; simp [ι'] at e1
    · simp only [ι', if_neg h1] at e1
      exact S.wr q b ((dom q h1).1 hq) e1
  · intro q hq
    by_cases h1 : q = l
    · subst h1; simp [hq] at hF; 
    · simp only [ι', if_neg h1]; exact S.fx q hq
/-- A nil slice in a field that is going to be appended to. -/
theorem AL.ghostO {ops : Array Oper} {rest : List Oper} {Q : Exit → TS → GS → Prop} (r i l : Nat) (e : TypeId) (sz : Nat) {e' : TypeId} {cs : List AV} (hr : look G r = some (.row e' cs)) (hne : Nat.beq r l = false) (h : cs[i]? = some (.tr (.val (.slice none 0 0)))) (hF : ds.fx.contains l = false) (hT : freshT l ts = true) (hG : freshG l G = true)
    (next : AL P n ds ops rest Q ts ((r, .row e' (cs.set i (.own sz l 0 0))) :: dropL r ((l, .els e sz []) :: G))) : AL P n ds ops rest Q ts G := by
  intro E ι a w S
  obtain ⟨ι', S'⟩ := S.ghost0 l e sz hF hT hG
  refine next E ι' a w (S'.fieldW r i (.own sz l 0 0) ?_ h (fun u hu => ?_))
  · rw [look_cons_ne _ _ (fun e => by rw [e, beqN_self] at hne; cases hne)]; exact hr
  · simp only [RA, RT] at hu ⊢
    exact ⟨none, 0, hu, Nat.le_refl _, Nat.zero_le _, .inl ⟨rfl, rfl⟩⟩
end

section
variable {P : Program} {G : GS} {ts : TS} {ty : TypeId} {pos : String} {after : Array Edge} {gd : Option (Nat × Bool)} {dst : Option Tmp}
theorem P_sliceDataNil {x : Operand} {st : TypeId} (h : evA ts x = some (.tr (.val (.slice none 0 0)))) : Pure1 P ⟨dst, .call { callee := .builtin .unsafeSliceData, args := #[x], argTypes := #[st] }, ty, pos, after, gd⟩ ts G (.tr (.val (.pointer none))) :=
  fun {E n ds ι a w} S => by
    have hr := S.evV h
    refine ⟨.pointer none, ?_, by simp only [RA, RT]⟩
    have hrun : (Builtin.unsafeSliceData_ #[st] ty #[.slice none 0 0]).run P w = .ok (.pointer none) w := rfl
    simp only [execOp, resolve, invoke, builtin, Sem.run_bind, Sem.run_pure, Result.andThen_ok, List.map_toArray, List.map_cons, List.map_nil, hr, hrun]
theorem P_unsafeStringNil {x y : Operand} {pt it : TypeId} (h : evA ts x = some (.tr (.val (.pointer none)))) (hy : evA ts y = some (vI .i64 0)) : Pure1 P ⟨dst, .call { callee := .builtin .unsafeString, args := #[x, y], argTypes := #[pt, it] }, ty, pos, after, gd⟩ ts G (vS ⟨#[]⟩) :=
  fun {E n ds ι a w} S => by
    have hr := S.evV h
    have hs := S.evV hy
    refine ⟨.string ⟨#[]⟩, ?_, by simp only [RA, RT]⟩
    have hrun : (Builtin.unsafeString_ #[pt, it] ty #[.pointer none, .int .i64 0]).run P w = .ok (.string ⟨#[]⟩) w := rfl
    simp only [execOp, resolve, invoke, builtin, Sem.run_bind, Sem.run_pure, Result.andThen_ok, List.map_toArray, List.map_cons, List.map_nil, hr, hs, hrun]
theorem P_remNN {x y : Operand} {tx tyy : TypeId} {k : IntKind} {p : Nat} {q : Int} (m : Nat) (h : evA ts x = some (vI k (p : Int))) (h' : evA ts y = some (vI k q)) (hq : q = (m : Int)) (h1 : 0 < m) : Pure1 P ⟨dst, .binOp .rem tx x y tyy, ty, pos, after, gd⟩ ts G (vI k ((p % m : Nat) : Int)) := by
  subst hq
  exact Pure1.cast (P_remN h h' (by omega) (by omega)) (by rw [Int.natCast_emod])
theorem P_mulNN {x y : Operand} {tx tyy : TypeId} {q : Nat} {p : Int} (m : Nat) (h : evA ts x = some (vI .i64 p)) (h' : evA ts y = some (vI .i64 (q : Int))) (hq : p = (m : Int)) (h1 : m * q ≤ 9223372036854775807) : Pure1 P ⟨dst, .binOp .mul tx x y tyy, ty, pos, after, gd⟩ ts G (vI .i64 ((m * q : Nat) : Int)) := by
  subst hq
  have e : (m : Int) * (q : Int) = ((m * q : Nat) : Int) := by simp
  have h2 : Pure1 P ⟨dst, .binOp .mul tx x y tyy, ty, pos, after, gd⟩ ts G (vI .i64 ((m : Int) * (q : Int))) := P_mulN h h' (by rw [e]; omega) (by rw [e]; omega)
  rw [e] at h2
  exact fun {E n ds ι a w} S => h2 S
end
end Go.Ab

namespace Go.Ab
open Go

theorem ACalls.data1 {P : Program} {f : FuncId} {args : List AV} {l k : Nat} {e : TypeId} {xs : List Tr} (h : ACalls P f args [] [] (fun r G => r = .own 1 l 0 k ∧ G = [(l, .els e 1 xs)])) (hk : k ≤ xs.length) : ACalls P f args [] [] (fun r G => r = .tr (.sl 1 (xs.take k)) ∧ G = []) := by
  intro X ι w vs H ha
  refine (h X ι w vs H ha).mono ?_
  rintro en w' ⟨v, r, G', ι', rfl, ⟨rfl, rfl⟩, H', hr, hfr, hnew, hsame, hother⟩
  have hl : look [(l, AObj.els e 1 xs)] l = some (.els e 1 xs) := look_cons_same _ _ _
  have hd : InDom [(l, AObj.els e 1 xs)] l := ⟨_, hl⟩
  have k0 : Keep (Mut X ι' [(l, AObj.els e 1 xs)]) (Mut X ι []) w' w' := ⟨Nat.le_refl _, fun _ _ _ => rfl, fun b _ hb => by
    rcases hb with hb | ⟨q, ⟨o, ho⟩, _⟩
    · exact .inl hb
    · simp [look] at ho, fun _ _ => rfl⟩
  refine ⟨v, .tr (.sl 1 (xs.take k)), [], ι, rfl, ⟨rfl, rfl⟩, ⟨fun l o h => by simp [look] at h, fun l l' b hl => by obtain ⟨o, ho⟩ := hl; simp [look] at ho, fun l b hl => by obtain ⟨o, ho⟩ := hl; simp [look] at ho, H'.xlt⟩, ?_, hfr, fun l b hl => by obtain ⟨o, ho⟩ := hl; simp [look] at ho, fun l hl => by obtain ⟨o, ho⟩ := hl; simp [look] at ho, fun _ _ => rfl⟩
  simp only [RA] at hr
  obtain ⟨A, cap, rfl, hc1, hc2, hown⟩ := hr
  have hlen : (xs.take k).length = k := by simp; omega
  simp only [RA, RT]
  rcases hown with ⟨rfl, hcap⟩ | ⟨b, hbι, rfl, hblt, hcells⟩
  · have hm0 : k = 0 := by omega
    subst hm0
    exact ⟨none, cap, [], by simp, ⟨by simp, by simp, by simp, by simp, by simp⟩, by simp [RTe]⟩
  · rcases H'.obj l _ hl with ⟨h1, _⟩ | ⟨b', us, more, h1, hh, hus, huo⟩
    · rw [hbι] at h1; cases h1
    · rw [hbι] at h1; injection h1 with h1; subst h1
      have hcut := RTe.take k hus
      refine ⟨_, cap, us.take (k * 1), by rw [hlen], ⟨by rw [hlen]; exact hc1, hcut.length, by rw [hlen]; simp only [maxLen] at hc2; omega, fun u hu => huo u (List.mem_append_left _ (List.mem_of_mem_take hu)), fun _ => ⟨_, rfl, ?_, hblt, ?_⟩⟩, RTe.keep k0 _ _ _ hcut⟩
      · rintro (hx | ⟨q, ⟨o, hq⟩, eq⟩)
        · exact (H'.lt l b hd hbι).2 hx
        · simp [look] at hq
      · intro q u hu
        rw [add_at, cell_of_heap hh, Nat.zero_add]
        rw [List.getElem?_take] at hu
        split at hu
        · have := (List.getElem?_eq_some_iff.1 hu).1
          simp [List.getElem?_append_left this, hu]
        · cases hu
end Go.Ab

namespace Go.Ab
open Go Go.ChangeShapes Go.WideShapes Go.ChangeAt Go.RowKit

theorem calls_of {P : Program} {f : FuncId} {fn : Func} {c : Code} {vs : Array Value} {w : World} {R : Ending → World → Prop} (hf : P.funcs[f]? = some fn) (hb : fn.body = some c) (hname : (fn.name == "runtime.NumGoroutine") = false) (h : CallsF P f vs w R) : Calls P f vs w R := by
  unfold CallsF at h
  have hcall : (callFunc f vs).run P w = .ok (.enter f vs) w := by
    simp only [callFunc, Sem.run_bind, run_program, Result.andThen_ok, hf]
    rw [hname]
    simp [hb]
  rw [hcall] at h
  exact h
abbrev X0 : BSet := fun _ => False
abbrev ι0 : LMap := fun _ => none
theorem hsat0 (w : World) : HSat X0 ι0 [] w := ⟨fun l o h => by simp [look] at h, fun l l' b h => by obtain ⟨o, ho⟩ := h; simp [look] at ho, fun l b h => by obtain ⟨o, ho⟩ := h; simp [look] at ho, fun b h => h.elim⟩
theorem not_mut0 (b : Nat) : ¬ Mut X0 ι0 [] b := by
  rintro (h | ⟨l, ⟨o, ho⟩, _⟩)
  · exact h
  · simp [look] at ho
/-- A law's walk, run. -/
theorem law_run {P : Program} {f : FuncId} {fn : Func} {c : Code} {args : List AV} {vs : List Value} {w : World} (hf : P.funcs[f]? = some fn) (hb : fn.body = some c) (hname : (fn.name == "runtime.NumGoroutine") = false) (h : ACalls P f args [] [] (fun r G => r = vB true ∧ G = [])) (ha : RAs (Mut X0 ι0 []) ι0 w args vs) :
    Calls P f vs.toArray w fun e w' => e = .returned (.bool true) ∧ Below w.heap.size w w' := by
  refine calls_of hf hb hname ((h X0 ι0 w vs (hsat0 w) ha).mono ?_)
  rintro e w' ⟨v, r, G', ι', rfl, ⟨rfl, rfl⟩, H', hr, hfr, _⟩
  simp only [RA, RT] at hr
  subst hr
  exact ⟨rfl, hfr.os, hfr.tape, hfr.output, hfr.size, fun k hk => hfr.same k hk (fun ⟨l, ⟨o, ho⟩, _⟩ => by simp [look] at ho)⟩

section
variable {H : Type} {enc : TypeId × Value → H} {P : Program}
theorem trodAll_below {W W' : World} (hl : laidOutB P = true) (hb : Below W.heap.size W W') : ∀ {ts : List TypeId} {vs : List Value} {ds : List (DataW H)} {p : List MemPlace}, ts.all (fun t => P.readableRec t && Nat.blt t P.types.size) = true → DataW.TrodAll enc P W 0 (fun _ => true) true ts vs ds p → (∀ x ∈ p, x.block < W.heap.size) → DataW.TrodAll enc P W' 0 (fun b => decide (b < W.heap.size)) true ts vs ds p
  | [], vs, ds, p, _, h, _ => by
    obtain ⟨rfl, rfl, rfl⟩ := trodAll_nil h
    rfl
  | t :: ts, vs, ds, p, hr, h, hlt => by
    obtain ⟨v, vs1, d, ds1, a, b, rfl, rfl, rfl, h1, h2⟩ := trodAll_cons h
    simp only [List.all_cons, Bool.and_eq_true] at hr
    exact ⟨a, b, Below.trod hl hr.1.1 (by simpa [Nat.blt_eq] using hr.1.2) h1 hb (fun x hx => hlt x (by simp [hx])), trodAll_below hl hb (by simpa using hr.2) h2 (fun x hx => hlt x (by simp [hx])), rfl⟩
/-- What a law's row says behind the call. -/
theorem law_post {f : Func} {s : ChangeSpec} {W W' : World} {args : Array Value} {ds gs : List (DataW H)} {before : List MemPlace} {tb : TypeId} (hlo : laidOutB P = true) (hrd : f.params.toList.all (fun t => P.readableRec t && Nat.blt t P.types.size) = true) (hv : s.vars = []) (hrt : f.resultTypes = #[tb]) (htb : P.underlying tb = some .bool)
    (hres : s.fn H ds = { results := [.lit (.bool true)], args := ds }) (hW : DataW.Whole enc P f.params.toList s.vars false W args.toList ds gs before) (hb : Below W.heap.size W W') : s.post enc P f false true false false W args (.bool true) W' := by
  have hW' := hW
  obtain ⟨p, q, hA, hV, rfl, _, _⟩ := hW
  rw [hv] at hV
  obtain ⟨rfl, rfl⟩ := trodVars_none hV
  have hlt : ∀ x ∈ p, x.block < W.heap.size := fun x hx => hW'.lt x (by simp [hx])
  have hs : s.fn H (ds ++ []) = { results := [.lit (.bool true)], args := ds } := by rw [List.append_nil]; exact hres
  refine ⟨ds, [], p ++ [], [], p, [], hW', ?_, ?_, ?_, hb.frame _, fun h => by cases h⟩
  · rw [hs, hrt]
    exact trodAll_mk1 (shut_bool htb _)
  · rw [hs]
    exact trodAll_below hlo hb hrd hA hlt
  · rw [hs, hv]; rfl
/-- Bytes handed in. -/
theorem RA_bytes {W : World} {base : Nat} {t e : TypeId} {v : Value} {d : DataW H} {p : List MemPlace} (ht : P.underlying t = some (.slice e)) (he : P.underlying e = some (.int .u8)) (hc : P.cellsOf e = 1) (hval : Value.okWide P W .any base t v) (h : DataW.Trod enc P W 0 (fun _ => true) true t v d p) :
    ∃ l : List UInt8, RA (Mut X0 ι0 []) ι0 W (sB l) v := by
  obtain ⟨a1, len, cap, rfl⟩ := okWide_slice ht hval
  obtain ⟨fuel, hf⟩ := h
  rcases open_ints ht he hc hf with ⟨hcs, hx⟩ | ⟨a, len', cap', zs, hcs, _, hl, hm, hz, hx, hcell, hwz⟩
  · simp [Value.cells] at hcs
    obtain ⟨rfl, rfl, rfl⟩ := hcs
    refine ⟨[], ?_⟩
    simp only [RA, RT]
    exact ⟨none, 0, [], rfl, ⟨by simp, by simp, by simp, by simp, by simp⟩, by simp [RTe]⟩
  · simp [Value.cells] at hcs
    obtain ⟨rfl, rfl, rfl⟩ := hcs
    simp only [if_true] at hz
    have hlen : ((zs.take len).map fun n => UInt8.ofNat n.toNat).length = len := by simp; omega
    have hnum : ∀ z ∈ zs, ((UInt8.ofNat z.toNat).toNat : Int) = z := by
      intro z hz
      have := hwz z hz
      simp only [Lit.wf, Bool.and_eq_true, decide_eq_true_eq] at this
      have h1 : (0 : Int) ≤ z := this.1
      have h2 : z ≤ 255 := this.2
      simp only [UInt8.toNat_ofNat']; omega
    refine ⟨(zs.take len).map fun n => UInt8.ofNat n.toNat, ?_⟩
    simp only [RA, RT]
    have hbl : (bs ((zs.take len).map fun n => UInt8.ofNat n.toNat)).length = len := by rw [bs_length, hlen]
    refine ⟨some a, cap, ((zs.take len).map fun n => UInt8.ofNat n.toNat).map fun x => Value.int .u8 (x.toNat : Int), by rw [hbl], ⟨by rw [hbl]; exact hl, by rw [hbl, List.length_map, hlen, Nat.mul_one], by rw [hbl]; simp only [maxLen] at hm; omega, ?_, fun h0 => ⟨a, rfl, not_mut0 _, ?_, ?_⟩⟩, RTe_one (fun x => ⟨by simp [RT], rfl⟩) _⟩
    · intro u hu
      obtain ⟨x, _, rfl⟩ := List.mem_map.1 hu
      rfl
    · rw [hbl] at h0
      have h1 := hcell 0 (by omega)
      have := World.block_lt_of_cell? W _ h1
      simpa [Addr.add] using this
    · intro j u hu
      simp only [List.map_map, List.getElem?_map, List.getElem?_take] at hu
      split at hu
      · next hj =>
        have hjz : j < zs.length := by omega
        rw [List.getElem?_eq_getElem hjz] at hu
        simp only [Option.map_some, Option.some.injEq, Function.comp] at hu
        subst hu
        rw [hcell j hjz, hnum _ (List.getElem_mem _)]
        simp [List.getD, hjz]
      · cases hu
end
end Go.Ab
