/- The machine, third part: goroutine 0 acts, all others only leave: the judgement of goroutine 0 that the machine itself bears out. Conditions: none; over any program. -/
import Derived.Test.YtabamagholjdcaaGreatDoorQLgTrace
namespace Go.Lg
open Go.Conc
def sumT : Nat → (Nat → Nat) → Nat
 | 0, _ => 0
 | j + 1, f => sumT j f + f j
theorem sumT_congr {f g : Nat → Nat} : ∀ {j : Nat}, (∀ i, i < j → f i = g i) → sumT j f = sumT j g
 | 0, _ => rfl
 | j + 1, h => by rw [sumT, sumT, sumT_congr (fun i hi => h i (by omega)), h j (by omega)]
theorem sumT_upd {f g : Nat → Nat} {i : Nat} : ∀ {j : Nat}, i < j → (∀ k, k ≠ i → g k = f k) → sumT j g + f i = sumT j f + g i
 | j + 1, h, hg => by
  rcases Nat.lt_or_ge i j with hlt | hge
  ·have := sumT_upd hlt hg
   simp only [sumT, hg j (by omega)]
   omega
  ·obtain rfl : i = j := by omega
   simp only [sumT]
   rw [sumT_congr (g := f) (fun a ha => hg a (by omega))]
   omega
section
variable (P : Program) (Post : Value → World → Prop)
def Runs (m : Machine) (t : Trace) : Prop := ∃ N last o w' t', runNT P (N + 1) m t = (.ended o w', t') ∧ runN P N m = .next last ∧ step P last = .ended o w' ∧ Good P Post last o w' t'
variable {P Post}
theorem Runs.step {m m' : Machine} {t : Trace} {ops : Array MemOp} (hs : stepT P m = (.next m', ops)) (h : Runs P Post m' (t ++ ops)) : Runs P Post m t := by
 obtain ⟨N, last, o, w', t', h1, h2, h3, h4⟩ := h
 exact ⟨N + 1, last, o, w', t', by rw [runNT_succ_next hs]; exact h1, by rw [runN_succ_next hs]; exact h2, h3, h4⟩
theorem Runs.end {m : Machine} {t : Trace} {o : Outcome} {w' : World} {ops : Array MemOp} (hs : stepT P m = (.ended o w', ops)) (h : Good P Post m o w' (t ++ ops)) : Runs P Post m t :=
 ⟨0, m, o, w', t ++ ops, by simp [runNT, hs], rfl, by simp [Go.step, hs], h⟩
end
theorem mem_ofEv {g : Nat} {fn : FuncId} {pos : String} {es : Array Event} {op : MemOp} (h : op ∈ MemOp.ofEvents g fn pos es) : ∃ e ∈ es, op = { g, fn, pos, act := .ofEvent e } := by
 rw [ofEvents_eq] at h
 obtain ⟨e, he, rfl⟩ := Array.mem_map.1 h
 exact ⟨e, he, rfl⟩
section
variable {R : RMap} {H : HList} {n m : Nat} {e : Event} {ch : HList}
theorem evOk_touch {a : Touch} (h : EvOk R H n m e) (ht : (MemAct.ofEvent e).touch? = some a) : OpOk ch R H n a := by
 obtain ⟨loc, wr, sy⟩ := e
 have key : ∀ b, Touchable R H n wr b → ((wr = false ∧ ∃ o, R b = some o) ∨ (∃ o, (b, o) ∈ H) ∨ n ≤ b) := fun b hb => by
  rcases hb with ⟨h1, h2⟩ | h2 | h2
  ·exact .inl ⟨h1, Option.isSome_iff_exists.1 h2⟩
  ·exact .inr (.inl h2)
  ·exact .inr (.inr h2)
 cases loc with
 | cell a' =>
  obtain ⟨h1, _, h3⟩ := h
  simp only at h1; subst h1
  have e1 : MemAct.ofEvent ⟨.cell a', wr, false⟩ = .access ⟨.cell a', wr, false⟩ := by cases wr <;> rfl
  rw [e1] at ht
  simp only [MemAct.touch?, Option.some.injEq] at ht
  subst ht
  refine ⟨a'.block, rfl, ?_⟩
  rcases key _ h3 with x | x | x
  ·exact .inl x
  ·exact .inr (.inl x)
  ·exact .inr (.inr (.inl x))
 | obj b =>
  obtain ⟨h1, _, h3⟩ := h
  simp only at h1; subst h1
  have e1 : MemAct.ofEvent ⟨.obj b, wr, false⟩ = .access ⟨.obj b, wr, false⟩ := by cases wr <;> rfl
  rw [e1] at ht
  simp only [MemAct.touch?, Option.some.injEq] at ht
  subst ht
  refine ⟨b, rfl, ?_⟩
  rcases key _ h3 with x | x | x
  ·exact .inl x
  ·exact .inr (.inl x)
  ·exact .inr (.inr (.inl x))
 | mark mk =>
  cases mk <;> simp [EvOk] at h
  cases wr <;> cases sy <;> simp [MemAct.ofEvent, MemAct.touch?] at ht
 | _ => simp [EvOk] at h
theorem evOk_low (h : EvOk R H n m e) : (MemAct.ofEvent e).low m := by
 obtain ⟨loc, wr, sy⟩ := e
 cases loc with
 | cell a' =>
  obtain ⟨h1, h2, _⟩ := h
  simp only at h1; subst h1
  cases wr <;> exact h2
 | obj b =>
  obtain ⟨h1, h2, _⟩ := h
  simp only at h1; subst h1
  cases wr <;> exact h2
 | mark mk =>
  cases mk <;> simp [EvOk] at h
  cases wr <;> cases sy <;> trivial
 | _ => simp [EvOk] at h
theorem evOk_word (h : EvOk R H n m e) : ∀ mk, MemAct.ofEvent e = .mark mk → Neutral mk := by
 obtain ⟨loc, wr, sy⟩ := e
 intro mk hm
 cases loc with
 | cell a' => obtain ⟨h1, _⟩ := h; simp only at h1; subst h1; cases wr <;> cases hm
 | obj b => obtain ⟨h1, _⟩ := h; simp only at h1; subst h1; cases wr <;> cases hm
 | mark mk' =>
  cases mk' <;> simp [EvOk] at h
  cases wr <;> cases sy <;> (cases hm; rfl)
 | _ => simp [EvOk] at h
end
section
variable {B : Base} {th : Nat → Option Th} {ch : HList} {cls : Option Nat} {w w' : World} {i : Nat} {R R' : RMap} {H H' : HList} {t : Trace}
theorem own_step (hM : MemI B th ch w) (h : TrI th ch cls w.heap.size t) (hi : th i = some ⟨R, H⟩) {es : Array Event} (hes : ∀ e ∈ es, EvOk R H w.heap.size w'.heap.size e) (hu : Upd B R H w R' H' w') (fn : FuncId) (pos : String) :
  MemI B (updT th i (some ⟨R', H'⟩)) ch w' ∧ TrI (updT th i (some ⟨R', H'⟩)) ch cls w'.heap.size (t ++ MemOp.ofEvents i fn pos es) := by
 refine ⟨hM.upd hi hu, TrI.app hM rfl h hi ?_ ?_ ?_ ?_ hu.size hu.newR hu.newH⟩
 ·intro op hop; obtain ⟨e, _, rfl⟩ := mem_ofEv hop; rfl
 ·intro op hop a ha; obtain ⟨e, he, rfl⟩ := mem_ofEv hop; exact evOk_touch (hes e he) ha
 ·intro op hop; obtain ⟨e, he, rfl⟩ := mem_ofEv hop; exact evOk_low (hes e he)
 ·intro op hop mk hm; obtain ⟨e, he, rfl⟩ := mem_ofEv hop; exact evOk_word (hes e he) mk hm
theorem ghost_step (hM : MemI B th ch w) (h : TrI th ch cls w.heap.size t) (hi : th i = some ⟨R, H⟩) (hu : Upd B R H w R' H' w) :
  MemI B (updT th i (some ⟨R', H'⟩)) ch w ∧ TrI (updT th i (some ⟨R', H'⟩)) ch cls w.heap.size t := by
 have := own_step (w' := w) (es := #[]) hM h hi (by simp) hu 0 ""
 rw [ofEvents_none, Array.append_empty] at this
 exact this
end
def only (x : Th) : Nat → Option Th := fun i => if i = 0 then some x else none
theorem only_upd (x y : Th) : updT (only x) 0 (some y) = only y := by funext i; unfold updT only; split <;> rfl
structure Alone (P : Program) (B : Base) (R : RMap) (H : HList) (gs : Array Goroutine) (w : World) (t : Trace) (q : Nat → Nat) : Prop where
 mem : MemI B (only ⟨R, H⟩) [] w
 tr : TrI (only ⟨R, H⟩) [] none w.heap.size t
 lv : ∀ i g, 0 < i → gs[i]? = some g → QuitsIn P (q i) g
section
variable (P : Program) (B : Base) (Post : Value → World → Prop)
def MJ (R : RMap) (H : HList) (g : Goroutine) : Prop := ∀ gs w sl t q, gs[0]? = some g → Alone P B R H gs w t q → Runs P Post (crowd gs w sl) t
end
section
variable {P : Program} {B : Base} {Post : Value → World → Prop} {R : RMap} {H : HList} {g : Goroutine}
theorem Alone.fits {gs : Array Goroutine} {w : World} {t : Trace} {q : Nat → Nat} (h : Alone P B R H gs w t q) : Fits B R H w := h.mem.fits 0 ⟨R, H⟩ rfl
theorem Alone.at {gs : Array Goroutine} {w : World} {t : Trace} {q : Nat → Nat} (h : Alone P B R H gs w t q) (d : Nat) : Alone P B R H gs (w.at d) t q := ⟨h.mem.at d, h.tr, h.lv⟩
theorem woken_quitsIn {g g' b : Goroutine} {w' : World} {k : Nat} (hB : QuitsIn P k b) : woken P g g' w' b = b := by
 unfold woken
 split
 ·exact again_running _ hB.status
 ·rfl
theorem MJ.pick (hs : g.status = .running)
  (h : ∀ gs w sl sl' d t q, gs[0]? = some g → Alone P B R H gs (w.at d) t q → stepT P (crowd gs w sl) = runT P (crowd gs (w.at d) sl') 0 → Runs P Post (crowd gs w sl) t) : MJ P B Post R H g := by
 have key : ∀ M gs w sl t q, sumT gs.size q ≤ M → gs[0]? = some g → Alone P B R H gs w t q → Runs P Post (crowd gs w sl) t := by
  intro M
  induction M with
  | zero =>
   intro gs w sl t q hM h0 hA
   have haw : ∀ x ∈ gs, awake x := by
    intro x hx
    obtain ⟨i, hi, rfl⟩ := Array.mem_iff_getElem.1 hx
    rcases Nat.eq_zero_or_pos i with rfl | hpos
    ·have : gs[0] = g := by simpa [Array.getElem?_eq_getElem hi] using h0
     rw [this]; exact awake_of (.inl hs)
    ·exact awake_of ((hA.lv i _ hpos (Array.getElem?_eq_getElem hi)).status.elim .inl fun x => .inr (.inr x))
   obtain ⟨i, x, d, sl', hi, hx, hst⟩ := crowd_pick (P := P) (w := w) (sl := sl) haw ⟨0, g, h0, hs⟩
   rcases Nat.eq_zero_or_pos i with rfl | hpos
   ·exact h gs w sl sl' d t q h0 (hA.at d) hst
   ·have hq := hA.lv i x hpos hi
    have hlt : i < gs.size := (Array.getElem?_eq_some_iff.1 hi).1
    have hq0 : q i = 0 := by
     have := sumT_upd (f := q) (g := fun k => if k = i then q i + 0 else q k) hlt (fun k hk => by simp [hk])
     have h2 : ∀ (j : Nat), i < j → q i ≤ sumT j q := by
      intro j hj
      induction j with
      | zero => omega
      | succ j ih =>
       rcases Nat.lt_or_ge i j with hlt | hge
       ·have := ih hlt; simp only [sumT]; omega
       ·obtain rfl : i = j := by omega
        simp only [sumT]; omega
     have := h2 gs.size hlt
     omega
    rw [hq0] at hq
    rw [show x.status = .finished from hq] at hx; cases hx
  | succ M ih =>
   intro gs w sl t q hM h0 hA
   have haw : ∀ x ∈ gs, awake x := by
    intro x hx
    obtain ⟨i, hi, rfl⟩ := Array.mem_iff_getElem.1 hx
    rcases Nat.eq_zero_or_pos i with rfl | hpos
    ·have : gs[0] = g := by simpa [Array.getElem?_eq_getElem hi] using h0
     rw [this]; exact awake_of (.inl hs)
    ·exact awake_of ((hA.lv i _ hpos (Array.getElem?_eq_getElem hi)).status.elim .inl fun x => .inr (.inr x))
   obtain ⟨i, x, d, sl', hi, hx, hst⟩ := crowd_pick (P := P) (w := w) (sl := sl) haw ⟨0, g, h0, hs⟩
   rcases Nat.eq_zero_or_pos i with rfl | hpos
   ·exact h gs w sl sl' d t q h0 (hA.at d) hst
   ·have hq := hA.lv i x hpos hi
    have hi0 : (i == 0) = false := by simp; omega
    have hlt : i < gs.size := (Array.getElem?_eq_some_iff.1 hi).1
    cases hqi : q i with
    | zero => rw [hqi] at hq; rw [show x.status = .finished from hq] at hx; cases hx
    | succ k =>
     rw [hqi] at hq
     rcases hq with hf | ⟨_, x', hstp, hq'⟩
     ·rw [hf] at hx; cases hx
     have hrunT := runT_crowd_go (P := P) (sl := sl') (i := i) hi (by rw [hi0]; exact hstp (w.at d))
     rw [ofEvents_none] at hrunT
     refine Runs.step (hst.trans hrunT) ?_
     rw [Array.append_empty]
     have hsz : ((gs.map (woken P x x' (w.at d))).setIfInBounds i x').size = gs.size := by simp
     have hsum := sumT_upd (f := q) (g := fun j => if j = i then k else q j) hlt (fun j hj => by simp [hj])
     simp only [if_true, hqi] at hsum
     refine ih _ _ _ _ (fun j => if j = i then k else q j) (by rw [hsz]; omega) ?_ ⟨(hA.at d).mem, hA.tr, fun j y hj hy => ?_⟩
     ·have hne : i ≠ 0 := by omega
      rw [Array.getElem?_setIfInBounds_ne hne, Array.getElem?_map, h0]
      simp [woken_run hs]
     ·by_cases hji : i = j
      ·subst hji
       rw [Array.getElem?_setIfInBounds_self_of_lt (by simpa using hlt)] at hy
       obtain rfl := Option.some.inj hy
       simpa using hq'
      ·rw [Array.getElem?_setIfInBounds_ne hji, Array.getElem?_map] at hy
       obtain ⟨z, hz, rfl⟩ := Option.map_eq_some_iff.1 hy
       have hqj := hA.lv j z hj hz
       rw [woken_quitsIn hqj]
       simpa [Ne.symm hji] using hqj
 exact fun gs w sl t q h0 hA => key _ gs w sl t q (Nat.le_refl _) h0 hA
theorem MJ.step (hs : g.status = .running) (h : ∀ w, Fits B R H w → ∃ g' w' es R' H', stepG P true g w = .go g' w' es ∧ (∀ e ∈ es, EvOk R H w.heap.size w'.heap.size e) ∧ Upd B R H w R' H' w' ∧ MJ P B Post R' H' g') : MJ P B Post R H g := by
 refine MJ.pick hs fun gs w sl sl' d t q h0 hA hst => ?_
 obtain ⟨g', w', es, R', H', h1, h2, h3, h4⟩ := h _ hA.fits
 have hrunT := runT_crowd_go (P := P) (sl := sl') (i := 0) h0 (show stepG P (0 == 0) g (w.at d) = _ from h1)
 refine Runs.step (hst.trans hrunT) ?_
 have hlt : 0 < gs.size := (Array.getElem?_eq_some_iff.1 h0).1
 have hst := own_step hA.mem hA.tr (i := 0) rfl h2 h3 g.frame.fn g.frame.place
 rw [only_upd] at hst
 refine h4 _ _ _ _ q (by simp [hlt]) ⟨hst.1, hst.2, fun j x hj hx => ?_⟩
 have hne : 0 ≠ j := by omega
 rw [Array.getElem?_setIfInBounds_ne hne, Array.getElem?_map] at hx
 obtain ⟨y, hy, rfl⟩ := Option.map_eq_some_iff.1 hx
 have hq := hA.lv j y hj hy
 rw [woken_quitsIn hq]
 exact hq
theorem MJ.ghost {R' : RMap} {H' : HList} (hg : ∀ w, Fits B R H w → Upd B R H w R' H' w) (h : MJ P B Post R' H' g) : MJ P B Post R H g := by
 intro gs w sl t q h0 hA
 have hst := ghost_step hA.mem hA.tr (i := 0) rfl (hg w hA.fits)
 rw [only_upd] at hst
 exact h gs w sl t q h0 ⟨hst.1, hst.2, hA.lv⟩
def mainJd (P : Program) (B : Base) (Post : Value → World → Prop) : Jd P B true := ⟨MJ P B Post, MJ.step, MJ.ghost⟩
theorem handed {n : Nat} {t : Trace} (h : TrI (only ⟨R, H⟩) [] none n t) : t.HandedOver := by
 intro i x hx hne hc
 obtain ⟨a, ha, hm, _⟩ := hc
 rcases h.all i a ha hm with ⟨j, y, hy, hk⟩ | ⟨c, p, hcl, _⟩
 ·have hj : j = 0 := by
   unfold only at hy
   split at hy
   ·assumption
   ·cases hy
  subst hj
  obtain ⟨q, z, h1, h2, h3⟩ := hk
  refine ⟨q, by simp [Trace.g?, h1, h2], ?_⟩
  rcases h3 with rfl | h3
  ·rw [show t.g? i = some z.g by simp [Trace.g?, h1], h2] at hx
   exact absurd (Option.some.inj hx).symm hne
  ·exact h3
 ·cases hcl
end
end Go.Lg
