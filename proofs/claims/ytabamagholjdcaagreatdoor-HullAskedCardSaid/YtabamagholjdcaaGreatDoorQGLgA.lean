/- The base of a logic of goroutines in company. Conditions: none. -/
import Derived.Conc.Beside
import Derived.Conc.Events
import Derived.Conc.Listed
import Derived.Orders
namespace Go.Lg
open Go.Conc
abbrev aA := Nat → Option Obj
abbrev ak := List (Nat × Obj)
structure Base where
 os : Os
 tape : Nat → Question → Nat
 out : Array (Nat × ByteArray)
structure Fits (B : Base) (R : aA) (H : ak) (w : World) : Prop where
 r : ∀ b o, R b = some o → w.heap[b]? = some o
 h : ∀ b o, (b, o) ∈ H → w.heap[b]? = some o
 nd : (H.map (·.1)).Nodup
 dj : ∀ b o, (b, o) ∈ H → R b = none
 os : w.os = B.os
 tape : w.tape = B.tape
 out : w.output = B.out
theorem gD {w : World} {b : Nat} {o : Obj} (h : w.heap[b]? = some o) : b < w.heap.size := (Array.getElem?_eq_some_iff.1 h).1
structure di (B : Base) (R : aA) (H : ak) (w : World) (R' : aA) (H' : ak) (w' : World) : Prop where
 fits : Fits B R' H' w'
 rle : ∀ b o, R b = some o → R' b = some o
 size : w.heap.size ≤ w'.heap.size
 same : ∀ b, b < w.heap.size → (∀ o, (b, o) ∉ H) → w'.heap[b]? = w.heap[b]?
 newR : ∀ b o, R' b = some o → R b = some o ∨ (∃ o', (b, o') ∈ H) ∨ w.heap.size ≤ b
 uV : ∀ b o, (b, o) ∈ H' → (∃ o', (b, o') ∈ H) ∨ w.heap.size ≤ b
theorem di.refl {B : Base} {R : aA} {H : ak} {w : World} (h : Fits B R H w) : di B R H w R H w :=
 ⟨h, λ _ _ x => x, Nat.le_refl _, λ _ _ _ => rfl, λ _ _ x => .inl x, λ _ o x => .inl ⟨o, x⟩⟩
theorem di.trans {B : Base} {R R' bX : aA} {H H' cx : ak} {w w' w'' : World} (h : di B R H w R' H' w') (k : di B R' H' w' bX cx w'') : di B R H w bX cx w'' := by
 refine ⟨k.fits, λ b o x => k.rle b o (h.rle b o x), Nat.le_trans h.size k.size, λ b hb hn => ?_, λ b o x => ?_, λ b o x => ?_⟩
 ·rw [k.same b (Nat.lt_of_lt_of_le hb h.size) (λ o ho => ?_), h.same b hb hn]
  rcases h.uV b o ho with ⟨o', ho'⟩ | hge
  ·exact hn o' ho'
  ·omega
 ·rcases k.newR b o x with x | ⟨o', x⟩ | x
  ·exact h.newR b o x
  ·exact .inr (h.uV b o' x)
  ·exact .inr (.inr (Nat.le_trans h.size x))
 ·rcases k.uV b o x with ⟨o', x⟩ | x
  ·exact h.uV b o' x
  ·exact .inr (Nat.le_trans h.size x)
def yK (R : aA) (H : ak) (n : Nat) (write : Bool) (b : Nat) : Prop := (write = false ∧ (R b).isSome = true) ∨ (∃ o, (b, o) ∈ H) ∨ n ≤ b
def gq (R : aA) (H : ak) (n m : Nat) (e : Event) : Prop :=
 match e.loc with
 | .cell a => e.sync = false ∧ a.block < m ∧ yK R H n e.write a.block
 | .obj b => e.sync = false ∧ b < m ∧ yK R H n e.write b
 | .mark .noRoom => True
 | _ => False
theorem yK.up {B : Base} {R R' : aA} {H H' : ak} {w w' : World} (h : di B R H w R' H' w') {wr : Bool} {b : Nat} (k : yK R' H' w'.heap.size wr b) : yK R H w.heap.size wr b := by
 rcases k with ⟨k1, k2⟩ | ⟨o, k⟩ | k
 ·obtain ⟨o, ho⟩ := Option.isSome_iff_exists.1 k2
  rcases h.newR b o ho with x | x | x
  ·exact .inl ⟨k1, by simp [x]⟩
  ·exact .inr (.inl x)
  ·exact .inr (.inr x)
 ·exact .inr (h.uV b o k)
 ·exact .inr (.inr (Nat.le_trans h.size k))
theorem gq.up {B : Base} {R R' : aA} {H H' : ak} {w w' : World} (h : di B R H w R' H' w') {m : Nat} {e : Event} (k : gq R' H' w'.heap.size m e) : gq R H w.heap.size m e := by
 unfold gq at k ⊢
 split at k
 ·exact ⟨k.1, k.2.1, k.2.2.up h⟩
 ·exact ⟨k.1, k.2.1, k.2.2.up h⟩
 ·trivial
 ·exact k.elim
theorem gq.more {R : aA} {H : ak} {n m m' : Nat} {e : Event} (hm : m ≤ m') (k : gq R H n m e) : gq R H n m' e := by
 unfold gq at k ⊢
 split at k
 ·exact ⟨k.1, by omega, k.2.2⟩
 ·exact ⟨k.1, by omega, k.2.2⟩
 ·trivial
 ·exact k.elim
def aC {α : Type} (P : Program) (B : Base) (R : aA) (H : ak) (s : Sem α) (K : α → aA → ak → Prop) : Prop :=
 ∀ w, Fits B R H w → ∃ a w' R' H', s.run P w = .ok a w' ∧ (∀ e ∈ s.events P w #[], gq R H w.heap.size w'.heap.size e) ∧ di B R H w R' H' w' ∧ K a R' H'
section
variable {P : Program} {B : Base} {R : aA} {H : ak}
theorem aC.mono {α : Type} {s : Sem α} {K K' : α → aA → ak → Prop} (h : aC P B R H s K) (hk : ∀ a R' H', K a R' H' → K' a R' H') : aC P B R H s K' := by
 intro w hw
 obtain ⟨a, w', R', H', h1, h2, h3, h4⟩ := h w hw
 exact ⟨a, w', R', H', h1, h2, h3, hk _ _ _ h4⟩
theorem aC.pure {α : Type} {a : α} {K : α → aA → ak → Prop} (h : K a R H) : aC P B R H (Pure.pure a : Sem α) K :=
 λ w hw => ⟨a, w, R, H, rfl, by simp, di.refl hw, h⟩
theorem aC.bind {α β : Type} {s : Sem α} {f : α → Sem β} {K : β → aA → ak → Prop} (h : aC P B R H s λ a R' H' => aC P B R' H' (f a) K) : aC P B R H (s >>= f) K := by
 intro w hw
 obtain ⟨a, w', R', H', h1, h2, h3, h4⟩ := h w hw
 obtain ⟨b, w'', bX, cx, k1, k2, k3, k4⟩ := h4 w' h3.fits
 refine ⟨b, w'', bX, cx, by simp [h1, k1], λ e he => ?_, h3.trans k3, k4⟩
 rw [Sem.events_bind, h1, Result.evThen_ok, Sem.events_acc] at he
 rcases Array.mem_append.1 he with he | he
 ·exact (h2 e he).more k3.size
 ·exact (k2 e he).up h3
theorem aC.map {α β : Type} {s : Sem α} {f : α → β} {K : β → aA → ak → Prop} (h : aC P B R H s λ a R' H' => K (f a) R' H') : aC P B R H (f <$> s) K := by
 intro w hw
 obtain ⟨a, w', R', H', h1, h2, h3, h4⟩ := h w hw
 exact ⟨f a, w', R', H', by simp [h1], by simpa using h2, h3, h4⟩
def an {α : Type} (P : Program) (s : Sem α) (a : α) : Prop := ∀ w, s.run P w = .ok a w ∧ s.events P w #[] = #[]
theorem an.ok {α : Type} {s : Sem α} {a : α} {K : α → aA → ak → Prop} (h : an P s a) (hk : K a R H) : aC P B R H s K :=
 λ w hw => ⟨a, w, R, H, (h w).1, by rw [(h w).2]; simp, di.refl hw, hk⟩
theorem an.pure {α : Type} (a : α) : an P (Pure.pure a : Sem α) a := λ _ => ⟨rfl, rfl⟩
theorem an.bind {α β : Type} {s : Sem α} {f : α → Sem β} {a : α} {b : β} (h : an P s a) (k : an P (f a) b) : an P (s >>= f) b :=
 λ w => ⟨by simp [(h w).1, (k w).1], by rw [Sem.events_bind, (h w).1, (h w).2]; exact (k w).2⟩
theorem an.map {α β : Type} {s : Sem α} {f : α → β} {a : α} (h : an P s a) : an P (f <$> s) (f a) :=
 λ w => ⟨by simp [(h w).1], by simpa using (h w).2⟩
theorem an.program : an P program P := λ _ => ⟨rfl, rfl⟩
theorem an.underlying {t : TypeId} {d : TypeDesc} (h : P.underlying t = some d) : an P (underlying t) d := λ w => ⟨by simp [Go.underlying, h], by simp⟩
theorem an.typeInfo {t : TypeId} {i : TypeInfo} (h : P.info? t = some i) : an P (typeInfo t) i := λ w => ⟨by simp [Go.typeInfo, h], by simp⟩
theorem an.cz {α β : Type} {s : Sem α} {f : α → Sem β} {a : α} {K : β → aA → ak → Prop} (h : an P s a) (hk : aC P B R H (f a) K) : aC P B R H (s >>= f) K :=
 aC.bind (h.ok hk)
def Cell (R : aA) (H : ak) (a : Addr) (v : Value) : Prop :=
 a.spot = none ∧ ∃ cs e fz, (R a.block = some (.cells cs e fz) ∨ (a.block, Obj.cells cs e fz) ∈ H) ∧ cs[a.off]? = some v
theorem Cell.at_ {w : World} {a : Addr} {v : Value} (h : Cell R H a v) (hw : Fits B R H w) : w.cell? a = some v := by
 obtain ⟨hs, cs, e, fz, h1, h2⟩ := h
 have hh : w.heap[a.block]? = some (.cells cs e fz) := h1.elim (hw.r _ _) (hw.h _ _)
 simp [World.cell?, hh, hs, h2]
theorem Cell.touch {a : Addr} {v : Value} (h : Cell R H a v) (n : Nat) : yK R H n false a.block := by
 obtain ⟨_, cs, e, fz, h1, _⟩ := h
 rcases h1 with h1 | h1
 ·exact .inl ⟨rfl, by simp [h1]⟩
 ·exact .inr (.inl ⟨_, h1⟩)
theorem axn {w : World} {a : Addr} {v : Value} (h : w.cell? a = some v) : a.block < w.heap.size := by
 unfold World.cell? at h
 split at h
 ·exact gD ‹_›
 ·cases h
theorem aC.load {a : Addr} {v : Value} {K : Value → aA → ak → Prop} (h : Cell R H a v) (hk : K v R H) : aC P B R H (load a) K := by
 intro w hw
 have hc := h.at_ hw
 refine ⟨v, w, R, H, by simp [hc], ?_, di.refl hw, hk⟩
 intro e he
 simp only [events_load, hc] at he
 simp at he
 subst he
 exact ⟨rfl, axn hc, h.touch _⟩
theorem aC.new {o : Obj} {K : Nat → aA → ak → Prop} (hk : ∀ r, R r = none → (∀ x, (r, x) ∉ H) → K r R ((r, o) :: H)) : aC P B R H (newObj o) K := by
 intro w hw
 have hR : R w.heap.size = none := by
  cases h : R w.heap.size with
  | none => rfl
  | some x => exact absurd (gD (hw.r _ _ h)) (Nat.lt_irrefl _)
 have hH : ∀ x, (w.heap.size, x) ∉ H := λ x hx => absurd (gD (hw.h _ _ hx)) (Nat.lt_irrefl _)
 have qo : ∀ b (x : Obj), w.heap[b]? = some x → (w.heap.push o)[b]? = some x := λ b x hx => by
  have := gD hx
  rw [Array.getElem?_push]
  rw [if_neg (by omega)]; exact hx
 refine ⟨w.heap.size, { w with heap := w.heap.push o }, R, (w.heap.size, o) :: H, by simp, by simp, ⟨⟨?_, ?_, ?_, ?_, hw.os, hw.tape, hw.out⟩, λ _ _ x => x, by simp, ?_, λ _ _ x => .inl x, ?_⟩, hk _ hR hH⟩
 ·exact λ b x hx => qo b x (hw.r b x hx)
 ·intro b x hx
  rcases List.mem_cons.1 hx with hx | hx
  ·cases hx; simp
  ·exact qo b x (hw.h b x hx)
 ·rw [List.map_cons, List.nodup_cons]
  refine ⟨λ hm => ?_, hw.nd⟩
  obtain ⟨p, hp, he⟩ := List.mem_map.1 hm
  have he' : p.1 = w.heap.size := he
  exact hH p.2 (by rw [← he']; exact hp)
 ·intro b x hx
  rcases List.mem_cons.1 hx with hx | hx
  ·cases hx; exact hR
  ·exact hw.dj b x hx
 ·intro b hb _
  show (w.heap.push o)[b]? = _
  rw [Array.getElem?_push, if_neg (by omega)]
 ·intro b x hx
  rcases List.mem_cons.1 hx with hx | hx
  ·cases hx; exact .inr (Nat.le_refl _)
  ·exact .inl ⟨x, hx⟩
inductive dD : ak → Nat → Obj → Obj → ak → Prop
 | here {b : Nat} {o o' : Obj} {H : ak} : dD ((b, o) :: H) b o o' ((b, o') :: H)
 | there {b : Nat} {o o' : Obj} {p : Nat × Obj} {H H' : ak} : dD H b o o' H' → dD (p :: H) b o o' (p :: H')
theorem dD.keys {H H' : ak} {b : Nat} {o o' : Obj} (h : dD H b o o' H') : H'.map (·.1) = H.map (·.1) := by
 induction h with
 | here => rfl
 | there _ ih => simp [ih]
theorem dD.mem {H H' : ak} {b : Nat} {o o' : Obj} (h : dD H b o o' H') : (b, o) ∈ H := by
 induction h with
 | here => simp
 | there _ ih => exact List.mem_cons_of_mem _ ih
theorem dD.old {H H' : ak} {b : Nat} {o o' : Obj} (h : dD H b o o' H') (hn : (H.map (·.1)).Nodup) : ∀ c x, (c, x) ∈ H' → (c = b ∧ x = o') ∨ (c ≠ b ∧ (c, x) ∈ H) := by
 induction h with
 | @here b o o' H =>
  intro c x hx
  rw [List.map_cons, List.nodup_cons] at hn
  rcases List.mem_cons.1 hx with hx1 | hx1
  ·cases hx1; exact .inl ⟨rfl, rfl⟩
  ·refine .inr ⟨λ e => hn.1 ?_, List.mem_cons_of_mem _ hx1⟩
   rw [← e]
   exact List.mem_map.2 ⟨(c, x), hx1, rfl⟩
 | @there b o o' p H H' hs ih =>
  intro c x hx
  rw [List.map_cons, List.nodup_cons] at hn
  rcases List.mem_cons.1 hx with hx | hx
  ·subst hx
   refine .inr ⟨λ e => hn.1 ?_, by simp⟩
   simp only at e ⊢
   subst e
   exact List.mem_map.2 ⟨_, hs.mem, rfl⟩
  ·exact (ih hn.2 c x hx).imp id λ y => ⟨y.1, List.mem_cons_of_mem _ y.2⟩
theorem Fits.zu {H' : ak} {b : Nat} {o o' : Obj} {w : World} (hw : Fits B R H w) (h : dD H b o o' H') :
  di B R H w R H' { w with heap := w.heap.setIfInBounds b o' } := by
 have hb : w.heap[b]? = some o := hw.h _ _ h.mem
 have hlt := gD hb
 have hne : ∀ c, c ≠ b → (w.heap.setIfInBounds b o')[c]? = w.heap[c]? := λ c hc => Array.getElem?_setIfInBounds_ne (by omega)
 refine ⟨⟨?_, ?_, by rw [h.keys]; exact hw.nd, ?_, hw.os, hw.tape, hw.out⟩, λ _ _ x => x, by simp, ?_, λ _ _ x => .inl x, ?_⟩
 ·intro c x hx
  show (w.heap.setIfInBounds b o')[c]? = _
  rw [hne c (λ e => by subst e; have := hw.dj _ _ h.mem; rw [hx] at this; cases this)]
  exact hw.r c x hx
 ·intro c x hx
  show (w.heap.setIfInBounds b o')[c]? = _
  rcases h.old hw.nd c x hx with ⟨rfl, rfl⟩ | ⟨hc, hx⟩
  ·rw [Array.getElem?_setIfInBounds_self_of_lt hlt]
  ·rw [hne c hc]; exact hw.h c x hx
 ·intro c x hx
  rcases h.old hw.nd c x hx with ⟨rfl, _⟩ | ⟨_, hx⟩
  ·exact hw.dj _ _ h.mem
  ·exact hw.dj c x hx
 ·intro c _ hn
  exact hne c (λ e => by subst e; exact hn _ h.mem)
 ·intro c x hx
  rcases h.old hw.nd c x hx with ⟨rfl, _⟩ | ⟨_, hx⟩
  ·exact .inl ⟨_, h.mem⟩
  ·exact .inl ⟨_, hx⟩
theorem aC.store {a : Addr} {v : Value} {cs : Array Value} {e : TypeId} {H' : ak} {K : Unit → aA → ak → Prop} (h1 : v.oneCell' = true) (ha : a.spot = none) (hlt : a.off < cs.size)
  (hs : dD H a.block (.cells cs e (0, 0)) (.cells (cs.setIfInBounds a.off v) e (0, 0)) H') (hk : K () R H') : aC P B R H (store a v) K := by
 intro w hw
 have hb : w.heap[a.block]? = some (.cells cs e (0, 0)) := hw.h _ _ hs.mem
 have hc : w.cell? a = some cs[a.off] := by simp [World.cell?, hb, ha, hlt]
 have hf : w.frozen? a = false := by simp [World.frozen?, hb]
 have zu : w.setCell a v = { w with heap := w.heap.setIfInBounds a.block (.cells (cs.setIfInBounds a.off v) e (0, 0)) } := by
  simp only [World.setCell]
  congr 1
  apply Array.ext_getElem?
  intro i
  rw [Array.getElem?_modify]
  by_cases hi : a.block = i
  ·subst hi
   rw [Array.getElem?_setIfInBounds_self_of_lt (gD hb), hb]
   simp [ha]
  ·simp [hi, Array.getElem?_setIfInBounds_ne hi]
 refine ⟨(), w.setCell a v, R, H', by rw [run_store P w a v _ h1]; simp [hc, hf], ?_, ?_, hk⟩
 ·intro e he
  rw [events_store P w #[] a v _ h1] at he
  simp [hc, hf] at he
  subst he
  refine ⟨rfl, ?_, .inr (.inl ⟨_, hs.mem⟩)⟩
  simpa [World.setCell] using gD hb
 ·rw [zu]; exact hw.zu hs
def Obj.plain : Obj → Bool
 | .cells .. => false
 | .chan .. => false
 | _ => true
theorem aC.getObj {r : Nat} {o : Obj} {K : Obj → aA → ak → Prop} (ho : Obj.plain o = true) (h : R r = some o ∨ (r, o) ∈ H) (hk : K o R H) : aC P B R H (getObj r) K := by
 intro w hw
 have hh : w.heap[r]? = some o := h.elim (hw.r _ _) (hw.h _ _)
 have hrun : (Go.getObj r).run P w = .ok o w := by
  cases o <;> simp_all [Obj.plain, Go.getObj, Sem.run]
 have hev : (Go.getObj r).events P w #[] = #[⟨.obj r, false, false⟩] := by
  cases o <;> simp_all [Obj.plain, Go.getObj, Sem.events, Sem.runT, Obj.isChan, -Sem.runT_eq]
 refine ⟨o, w, R, H, hrun, ?_, di.refl hw, hk⟩
 intro e he
 rw [hev] at he
 simp at he
 subst he
 exact ⟨rfl, gD hh, h.elim (λ x => .inl ⟨rfl, by simp [x]⟩) (λ x => .inr (.inl ⟨_, x⟩))⟩
theorem aC.setObj {r : Nat} {o o' : Obj} {H' : ak} {K : Unit → aA → ak → Prop} (ho : Obj.plain o = true) (ho' : Obj.plain o' = true) (hs : dD H r o o' H') (hk : K () R H') : aC P B R H (setObj r o') K := by
 intro w hw
 have hh : w.heap[r]? = some o := hw.h _ _ hs.mem
 have hrun : (Go.setObj r o').run P w = .ok () { w with heap := w.heap.setIfInBounds r o' } := by
  cases o <;> simp_all [Obj.plain, Go.setObj, Sem.run]
 have hev : (Go.setObj r o').events P w #[] = #[⟨.obj r, true, false⟩] := by
  cases o <;> simp_all [Obj.plain, Go.setObj, Sem.events, Sem.runT, -Sem.runT_eq] <;> (cases o' <;> simp_all [Obj.isChan])
 refine ⟨(), _, R, H', hrun, ?_, hw.zu hs, hk⟩
 intro e he
 rw [hev] at he
 simp at he
 subst he
 exact ⟨rfl, by simpa using gD hh, .inr (.inl ⟨_, hs.mem⟩)⟩
theorem aC.choose {q : Question} {K : Nat → aA → ak → Prop} (hk : ∀ t, K (if q.forced then 0 else q.cut t) R H) : aC P B R H (choose q) K := by
 intro w hw
 cases hf : q.forced with
 | true =>
  have := hk 0
  rw [hf] at this
  exact ⟨0, w, R, H, by simp [Go.choose, Sem.run, hf], by simp, di.refl hw, by simpa using this⟩
 | false =>
  have := hk (w.tape w.drawn q)
  rw [hf] at this
  exact ⟨q.cut (w.tape w.drawn q), { w with drawn := w.drawn + 1 }, R, H, by simp [Go.choose, Sem.run, hf], by simp, ⟨⟨hw.r, hw.h, hw.nd, hw.dj, hw.os, hw.tape, hw.out⟩, λ _ _ x => x, Nat.le_refl _, λ _ _ _ => rfl, λ _ _ x => .inl x, λ _ o x => .inl ⟨o, x⟩⟩, by simpa using this⟩
theorem aC.azn {K : Unit → aA → ak → Prop} (hk : K () R H) : aC P B R H (mark .noRoom) K :=
 λ w hw => ⟨(), w, R, H, rfl, by simp [gq], di.refl hw, hk⟩
theorem aC.shape {r : Nat} {K : Option (TypeId × Nat) → aA → ak → Prop} (hk : ∀ x, K x R H) : aC P B R H (shape r) K :=
 λ w hw => ⟨_, w, R, H, rfl, by simp, di.refl hw, hk _⟩
end
end Go.Lg
namespace Go.Lg
open Go.Conc
structure Jd (P : Program) (B : Base) (main : Bool) where
 J : aA → ak → Goroutine → Prop
 step : ∀ {R H g}, g.status = .running → (∀ w, Fits B R H w → ∃ g' w' es R' H', stepG P main g w = .go g' w' es ∧ (∀ e ∈ es, gq R H w.heap.size w'.heap.size e) ∧ di B R H w R' H' w' ∧ J R' H' g') → J R H g
 ghost : ∀ {R H R' H' g}, (∀ w, Fits B R H w → di B R H w R' H' w) → J R' H' g → J R H g
abbrev St := List (Nat × Value)
structure Ctx where
 fn : FuncId
 kind : CallKind
 ro : Option Nat
 n : Nat
 defers : List Deferred
 cs : List Frame
def bt (fr : Frame) (cs : List Frame) : Goroutine := { frame := fr, callers := cs, status := .running, dying := none }
def bl (c : Ctx) (tmps : Array Value) (todo : List Item) : Frame := { fn := c.fn, tmps, todo, defers := c.defers, mode := .run, kind := c.kind, roundOf := c.ro }
def e6 (n : Nat) (st : St) (tmps : Array Value) : Prop := tmps.size = n ∧ ∀ t v, st.lookup t = some v → tmps[t]? = some v
def ay (st : St) : St → Prop
 | [] => True
 | p :: r => st.lookup p.1 = some p.2 ∧ ay st r
def aF (st st' : St) : Prop := ∀ t v, st'.lookup t = some v → st.lookup t = some v
theorem ay.sub {st : St} : ∀ {st' : St}, ay st st' → aF st st'
 | [], _, _, _, h => by cases h
 | p :: r, hs, t, v, h => by
  rw [List.lookup_cons] at h
  split at h
  ·rename_i heq
   cases h
   have : t = p.1 := by simpa using heq
   subst this
   exact hs.1
  ·exact ay.sub hs.2 t v h
theorem aF.refl (st : St) : aF st st := λ _ _ h => h
theorem e6.sub {n : Nat} {st st' : St} {tmps : Array Value} (h : e6 n st tmps) (hs : aF st st') : e6 n st' tmps := ⟨h.1, λ t v x => h.2 t v (hs t v x)⟩
def bS (dst : Option Tmp) (v : Value) (st : St) : St := match dst with | some d => (d, v) :: st | none => st
theorem aF.put {dst : Option Tmp} {d : Tmp} {v : Value} {st : St} (h : dst = some d) : aF (bS dst v st) ((d, v) :: st) := by subst h; exact aF.refl _
theorem aF.non {dst : Option Tmp} {v : Value} {st : St} (h : dst = none) : aF (bS dst v st) st := by subst h; exact aF.refl _
def ez (dst : Option Tmp) (v : Value) (tmps : Array Value) : Array Value := match dst with | some d => tmps.setIfInBounds d v | none => tmps
def ags (dst : Option Tmp) (n : Nat) : Bool := match dst with | some d => Nat.blt d n | none => true
def cg (dst : Option Tmp) (n : Nat) : Prop := ags dst n = true
theorem cg.lt {d n : Nat} (h : cg (some d) n) : d < n := by
 have : Nat.blt d n = true := h
 simpa [Nat.blt_eq] using this
theorem e6.put {n : Nat} {st : St} {tmps : Array Value} (h : e6 n st tmps) {dst : Option Tmp} (v : Value) (hd : cg dst n) : e6 n (bS dst v st) (ez dst v tmps) := by
 cases dst with
 | none => exact h
 | some d =>
  refine ⟨by simp [ez, h.1], λ t u hu => ?_⟩
  have hd' : d < tmps.size := by rw [h.1]; exact hd.lt
  simp only [bS, List.lookup_cons] at hu
  split at hu
  ·rename_i heq
   cases hu
   have : t = d := by simpa using heq
   subst this
   simp [ez, hd']
  ·rename_i heq
   have hne : t ≠ d := by simpa using heq
   simp only [ez]
   rw [Array.getElem?_setIfInBounds_ne (Ne.symm hne)]
   exact h.2 t u hu
def bh (st : St) : Operand → Option Value
 | .tmp t => st.lookup t
 | .const v => some v
 | .global g => some (.pointer (some ⟨g, 0, none⟩))
 | .func f => some (.func (.func f) #[] #[])
def Knows (st : St) (ρ : Operand → Value) : Prop := ∀ x v, bh st x = some v → ρ x = v
theorem e6.knows {n : Nat} {st : St} {tmps : Array Value} (h : e6 n st tmps) (c : Ctx) (todo : List Item) : Knows st (bl c tmps todo).eval := by
 intro x v hx
 cases x with
 | tmp t =>
  have := h.2 t v hx
  simp [bl, Frame.eval, Array.getD_eq_getD_getElem?, this]
 | const u => cases hx; rfl
 | global g => cases hx; rfl
 | func f => cases hx; rfl
section
variable {P : Program} {B : Base} {main : Bool} (ah : Jd P B main)
def At (c : Ctx) (R : aA) (H : ak) (st : St) (todo : List Item) : Prop := ∀ tmps, e6 c.n st tmps → ah.J R H (bt (bl c tmps todo) c.cs)
variable {ah} {c : Ctx} {R : aA} {H : ak} {st : St} {k : List Item}
theorem At.sub {st' : St} {todo : List Item} (hs : aF st st') (h : At ah c R H st' todo) : At ah c R H st todo := λ tmps ht => h tmps (ht.sub hs)
theorem At.ghost {R' : aA} {H' : ak} {todo : List Item} (hg : ∀ w, Fits B R H w → di B R H w R' H' w) (h : At ah c R' H' st todo) : At ah c R H st todo := λ tmps ht => ah.ghost hg (h tmps ht)
theorem Jd.ctl {R : aA} {H : ak} {g g' : Goroutine} (hs : g.status = .running) (h : ∀ w, stepG P main g w = .go g' w) (hj : ah.J R H g') : ah.J R H g :=
 ah.step hs λ w hw => ⟨g', w, #[], R, H, h w, by simp, di.refl hw, hj⟩
theorem At.skip (h : At ah c R H st k) : At ah c R H st (.code .skip :: k) := λ tmps ht => Jd.ctl rfl (λ w => by simp [stepG, stepG.exec, bt, bl]) (h tmps ht)
theorem At.label {l : Nat} (h : At ah c R H st k) : At ah c R H st (.code (.label l) :: k) := λ tmps ht => Jd.ctl rfl (λ w => by simp [stepG, stepG.exec, bt, bl]) (h tmps ht)
theorem At.inBlock {id : Nat} (h : At ah c R H st k) : At ah c R H st (.inBlock id :: k) := λ tmps ht => Jd.ctl rfl (λ w => by simp [stepG, stepG.exec, bt, bl]) (h tmps ht)
theorem At.seq {x y : Code} (h : At ah c R H st (.code x :: .code y :: k)) : At ah c R H st (.code (.seq x y) :: k) := λ tmps ht => Jd.ctl rfl (λ w => by simp [stepG, stepG.exec, bt, bl]) (h tmps ht)
theorem At.block {id : Nat} {x : Code} (h : At ah c R H st (.code x :: .inBlock id :: k)) : At ah c R H st (.code (.block id x) :: k) := λ tmps ht => Jd.ctl rfl (λ w => by simp [stepG, stepG.exec, bt, bl]) (h tmps ht)
theorem At.scope {x : Code} (h : At ah c R H st (.code x :: .inScope x :: k)) : At ah c R H st (.code (.scope x) :: k) := λ tmps ht => Jd.ctl rfl (λ w => by simp [stepG, stepG.exec, bt, bl]) (h tmps ht)
theorem At.enterLoop {x : Code} (h : At ah c R H st (.code x :: .inLoop x :: k)) : At ah c R H st (.code (.loop x) :: k) := λ tmps ht => Jd.ctl rfl (λ w => by simp [stepG, stepG.exec, bt, bl]) (h tmps ht)
theorem At.inLoop {x : Code} (h : At ah c R H st (.code x :: .inLoop x :: k)) : At ah c R H st (.inLoop x :: k) := λ tmps ht => Jd.ctl rfl (λ w => by simp [stepG, stepG.exec, bt, bl]) (h tmps ht)
theorem At.exit {id : Nat} {k' : List Item} (he : exitTo id k = some k') (h : At ah c R H st k') : At ah c R H st (.code (.exit id) :: k) := λ tmps ht => Jd.ctl rfl (λ w => by simp [stepG, stepG.exec, bt, bl, he]) (h tmps ht)
theorem At.region {id : Nat} {ops : Array Oper} (h : At ah c R H st (.inRegion ops (List.range ops.size) :: k)) : At ah c R H st (.code (.region id ops false) :: k) := λ tmps ht => Jd.ctl rfl (λ w => by simp [stepG, stepG.exec, bt, bl]) (h tmps ht)
theorem At.dK {ops : Array Oper} (h : At ah c R H st k) : At ah c R H st (.inRegion ops [] :: k) := λ tmps ht => Jd.ctl rfl (λ w => by simp [stepG, stepG.exec, bt, bl]) (h tmps ht)
theorem At.cond {x : Operand} {th el : Code} {t : Bool} (hx : bh st x = some (.bool t)) (h1 : t = true → At ah c R H st (.code th :: k)) (h2 : t = false → At ah c R H st (.code el :: k)) : At ah c R H st (.code (.cond x th el) :: k) := by
 intro tmps ht
 have he := ht.knows c (.code (.cond x th el) :: k) x _ hx
 cases t with
 | true => exact Jd.ctl rfl (λ w => by simp only [bl] at he; simp [stepG, stepG.exec, bt, bl, he]) (h1 rfl tmps ht)
 | false => exact Jd.ctl rfl (λ w => by simp only [bl] at he; simp [stepG, stepG.exec, bt, bl, he]) (h2 rfl tmps ht)
theorem At.cond_true {x : Operand} {th el : Code} (hx : bh st x = some (.bool true)) (h : At ah c R H st (.code th :: k)) : At ah c R H st (.code (.cond x th el) :: k) := At.cond hx (λ _ => h) (λ e => by cases e)
theorem At.cond_false {x : Operand} {th el : Code} (hx : bh st x = some (.bool false)) (h : At ah c R H st (.code el :: k)) : At ah c R H st (.code (.cond x th el) :: k) := At.cond hx (λ e => by cases e) (λ _ => h)
def lI : Op → Bool
 | .defer _ => true
 | _ => false
theorem u9 {tmps : Array Value} {ops : Array Oper} {i : Nat} {rest : List Nat} {o : Oper} {w : World} (ho : ops[i]? = some o) (hw : Region.wanted o (yielded ops tmps) = true) (hd : lI o.op = false) :
  stepG P main (bt (bl c tmps (.inRegion ops (i :: rest) :: k)) c.cs) w = stepG.apply P true (bl c tmps (.inRegion ops (i :: rest) :: k)) c.cs none (execOp (bl c tmps (.inRegion ops (i :: rest) :: k)).eval o) w := by
 cases hr : c.ro with
 | none => simp [bt, stepG, stepG.exec, stepG.oper, Frame.oper?, bl, ho, hw, hr]
 | some l =>
  simp only [bt, stepG, stepG.exec, stepG.oper, Frame.oper?, bl, ho, hw, hr, Option.map_some, Option.getD_some, if_true]
  split
  ·rename_i h1 h2; rw [h2] at hd; cases hd
  ·rfl
theorem ab4 {tmps : Array Value} {ops : Array Oper} {i : Nat} {rest : List Nat} {o : Oper} {w : World} (ho : ops[i]? = some o) (hw : Region.wanted o (yielded ops tmps) = false) :
  stepG P main (bt (bl c tmps (.inRegion ops (i :: rest) :: k)) c.cs) w = .go (bt (bl c (ez o.dst undef tmps) (.inRegion ops rest :: k)) c.cs) w := by
 simp only [bt, stepG, stepG.exec, bl, ho, hw, Option.map_some, Option.getD_some, Frame.finish, Option.bind_some, ez]
 cases o.dst <;> rfl
theorem rT {tmps : Array Value} {ops : Array Oper} {i : Nat} {rest : List Nat} {o : Oper} {v : Value} (ho : ops[i]? = some o) :
  (bl c tmps (.inRegion ops (i :: rest) :: k)).finish v = bl c (ez o.dst v tmps) (.inRegion ops rest :: k) := by
 simp only [Frame.finish, bl, ho, Option.bind_some, ez]
 cases o.dst <;> rfl
def dG (ops : Array Oper) (st : St) (o : Oper) : Option Bool :=
 match o.guard with
 | none => some true
 | some (j, want) => match ((ops[j]?).bind (·.dst)).bind (st.lookup ·) with
  | some (.bool b) => some (b == want)
  | some (.tuple _) => some false
  | _ => none
theorem lU {n : Nat} {ops : Array Oper} {tmps : Array Value} {o : Oper} {b : Bool} (ht : e6 n st tmps) (h : dG ops st o = some b) : Region.wanted o (yielded ops tmps) = b := by
 unfold dG at h
 unfold Region.wanted
 split at h
 ·rename_i hg; simp only [hg]; exact Option.some.inj h
 ·rename_i j want hg
  simp only [hg, yielded]
  cases hd : (ops[j]?).bind (·.dst) with
  | none => simp [hd] at h
  | some d =>
   simp only [hd, Option.bind_some] at h ⊢
   cases hl : st.lookup d with
   | none => simp [hl] at h
   | some v =>
    rw [hl] at h
    rw [ht.2 d v hl]
    cases v <;> simp at h ⊢ <;> first | (rw [← h]; done) | exact h.symm | (subst h; rfl)
theorem M4 {fr : Frame} {cs : List Frame} {s : Sem Next} {w w' : World} {v : Value} (hk : fr.kind ≠ .early) (hr : s.run P w = .ok (.value v) w') :
  stepG.apply P true fr cs none s w = .go (bt (fr.finish v) cs) w' (seen P fr.fn (s.events P w #[])) := by
 have hk' : (fr.kind == CallKind.early) = false := by simpa using hk
 simp [stepG.apply, hr, bt, hk', GStep.after]
theorem M3 {fr : Frame} {cs : List Frame} {s : Sem Next} {w w' : World} (hk : fr.kind ≠ .early) (hr : s.run P w = .ok .skip w') :
  stepG.apply P true fr cs none s w = .go (bt (fr.finish undef) cs) w' (seen P fr.fn (s.events P w #[])) := by
 have hk' : (fr.kind == CallKind.early) = false := by simpa using hk
 simp [stepG.apply, hr, bt, hk', GStep.after]
theorem WA {fr : Frame} {cs : List Frame} {s : Sem Next} {w w' : World} {f : FuncId} {args : Array Value} {ops : Array Oper} {is : List Nat} {k : List Item} (ht : fr.todo = .inRegion ops is :: k) (hk : fr.kind ≠ .early) (hr : s.run P w = .ok (.enter f args) w') :
  stepG.apply P true fr cs none s w = .go (bt (Frame.enter P f args .normal) (fr :: cs)) w' (seen P fr.fn (s.events P w #[])) := by
 have hk' : (fr.kind == CallKind.early) = false := by simpa using hk
 simp [stepG.apply, hr, bt, hk', GStep.after, ht]
theorem At.op {ops : Array Oper} {i : Nat} {rest : List Nat} {o : Oper} (ho : ops[i]? = some o) (hw : dG ops st o = some true) (hd : lI o.op = false) (hk : c.kind ≠ .early)
  (h : ∀ ρ, Knows st ρ → aC P B R H (execOp ρ o) λ nx R' H' => ∃ v, (nx = .value v ∨ (nx = .skip ∧ v = undef)) ∧ cg o.dst c.n ∧ ∃ st', aF (bS o.dst v st) st' ∧ At ah c R' H' st' (.inRegion ops rest :: k)) :
  At ah c R H st (.inRegion ops (i :: rest) :: k) := by
 intro tmps ht
 refine ah.step rfl λ w hwf => ?_
 obtain ⟨nx, w', R', H', h1, h2, h3, v, hv, kN, st', hs, hat⟩ := h _ (ht.knows c _) w hwf
 refine ⟨bt (bl c (ez o.dst v tmps) (.inRegion ops rest :: k)) c.cs, w', seen P c.fn ((execOp (bl c tmps (.inRegion ops (i :: rest) :: k)).eval o).events P w #[]), R', H', ?_, λ e he => h2 e (mem_seen he), h3, hat _ ((ht.put v kN).sub hs)⟩
 rw [u9 ho (lU ht hw) hd, ← rT (rest := rest) (k := k) (c := c) (tmps := tmps) (v := v) ho]
 rcases hv with rfl | ⟨rfl, rfl⟩
 ·exact M4 hk h1
 ·exact M3 hk h1
theorem At.unwanted {ops : Array Oper} {i : Nat} {rest : List Nat} {o : Oper} {st' : St} (ho : ops[i]? = some o) (hw : dG ops st o = some false) (kN : cg o.dst c.n) (hs : aF (bS o.dst undef st) st')
  (h : At ah c R H st' (.inRegion ops rest :: k)) : At ah c R H st (.inRegion ops (i :: rest) :: k) :=
 λ _ ht => Jd.ctl rfl (λ _ => ab4 ho (lU ht hw)) (h _ ((ht.put undef kN).sub hs))
def aB (ah : Jd P B main) (f : FuncId) (args : Array Value) (R : aA) (H : ak) (Post : Value → aA → ak → Prop) : Prop :=
 ∀ fr cs, (∀ v R' H', Post v R' H' → ah.J R' H' (bt (fr.finish v) cs)) → ah.J R H (bt (Frame.enter P f args .normal) (fr :: cs))
theorem aB.mono {f : FuncId} {args : Array Value} {Post Post' : Value → aA → ak → Prop} (h : aB ah f args R H Post) (hp : ∀ v R' H', Post v R' H' → Post' v R' H') : aB ah f args R H Post' :=
 λ fr cs hk => h fr cs λ v R' H' hv => hk v R' H' (hp v R' H' hv)
theorem At.enters {ops : Array Oper} {i : Nat} {rest : List Nat} {o : Oper} {f : FuncId} {args : Array Value} {Post : Value → aA → ak → Prop} (ho : ops[i]? = some o) (hw : dG ops st o = some true) (hd : lI o.op = false) (hk : c.kind ≠ .early) (kN : cg o.dst c.n)
  (he : ∀ ρ, Knows st ρ → an P (execOp ρ o) (.enter f args)) (hf : aB ah f args R H Post)
  (h : ∀ v R' H', Post v R' H' → ∃ st', aF (bS o.dst v st) st' ∧ At ah c R' H' st' (.inRegion ops rest :: k)) :
  At ah c R H st (.inRegion ops (i :: rest) :: k) := by
 intro tmps ht
 refine ah.step rfl λ w hwf => ?_
 have hv := he _ (ht.knows c (.inRegion ops (i :: rest) :: k)) w
 refine ⟨bt (Frame.enter P f args .normal) (bl c tmps (.inRegion ops (i :: rest) :: k) :: c.cs), w, seen P c.fn ((execOp (bl c tmps (.inRegion ops (i :: rest) :: k)).eval o).events P w #[]), R, H, ?_, ?_, di.refl hwf, hf _ _ λ v R' H' hp => ?_⟩
 ·rw [u9 ho (lU ht hw) hd]
  exact WA rfl hk hv.1
 ·intro e hee
  have := mem_seen hee
  rw [hv.2] at this
  simp at this
 ·obtain ⟨st', hs, hat⟩ := h v R' H' hp
  rw [rT ho]
  exact hat _ ((ht.put v kN).sub hs)
def l7 (ah : Jd P B main) (c : Ctx) (o : Oper) (R : aA) (H : ak) (st : St) (C : aA → ak → St → Prop) : Prop :=
 lI o.op = false ∧ cg o.dst c.n ∧
  ((∀ ρ, Knows st ρ → aC P B R H (execOp ρ o) λ nx R' H' => ∃ v, (nx = .value v ∨ (nx = .skip ∧ v = undef)) ∧ ∃ st', aF (bS o.dst v st) st' ∧ C R' H' st') ∨
   (∃ f args, (∀ ρ, Knows st ρ → an P (execOp ρ o) (.enter f args)) ∧ aB ah f args R H λ v R' H' => ∃ st', aF (bS o.dst v st) st' ∧ C R' H' st'))
def aP (P : Program) (B : Base) (c : Ctx) (o : Oper) (R : aA) (H : ak) (st : St) (C : aA → ak → St → Prop) : Prop :=
 lI o.op = false ∧ cg o.dst c.n ∧ ∀ ρ, Knows st ρ → aC P B R H (execOp ρ o) λ nx R' H' => ∃ v, (nx = .value v ∨ (nx = .skip ∧ v = undef)) ∧ ∃ st', aF (bS o.dst v st) st' ∧ C R' H' st'
theorem aP.to {o : Oper} {C : aA → ak → St → Prop} (h : aP P B c o R H st C) : l7 ah c o R H st C := ⟨h.1, h.2.1, .inl h.2.2⟩
theorem At.step {ops : Array Oper} {i : Nat} {rest : List Nat} {o : Oper} (ho : ops[i]? = some o) (hw : dG ops st o = some true) (hk : (c.kind == CallKind.early) = false)
  (h : l7 ah c o R H st λ R' H' st' => At ah c R' H' st' (.inRegion ops rest :: k)) : At ah c R H st (.inRegion ops (i :: rest) :: k) := by
 obtain ⟨hd, kN, h | ⟨f, args, h1, h2⟩⟩ := h
 ·exact At.op ho hw hd (by simpa using hk) λ ρ hρ => (h ρ hρ).mono λ nx R' H' ⟨v, hv, hx⟩ => ⟨v, hv, kN, hx⟩
 ·exact At.enters ho hw hd (by simpa using hk) kN h1 h2 λ v R' H' hx => hx
theorem At.cP {ops : Array Oper} {i : Nat} {rest : List Nat} {o : Oper} (ho : ops[i]? = some o) (hw : dG ops st o = some true) (hk : (c.kind == CallKind.early) = false)
  (h : aP P B c o R H st λ R' H' st' => At ah c R' H' st' (.inRegion ops rest :: k)) : At ah c R H st (.inRegion ops (i :: rest) :: k) := At.step ho hw hk h.to
theorem At.iC {id n : Nat} {is : List Nat} {ops : Array Oper} (hn : ops.size = n) (lH : List.range n = is) (h : At ah c R H st (.inRegion ops is :: k)) : At ah c R H st (.code (.region id ops false) :: k) := by
 subst hn; subst lH; exact At.region h
def BI : Nat → List Value → St
 | _, [] => []
 | i, v :: r => (i, v) :: BI (i + 1) r
theorem IN : ∀ (args : List Value) (i t : Nat) (v : Value), (BI i args).lookup t = some v → i ≤ t ∧ args[t - i]? = some v
 | [], _, _, _, h => by cases h
 | a :: r, i, t, v, h => by
  simp only [BI, List.lookup_cons] at h
  split at h
  ·rename_i heq
   cases h
   have : t = i := by simpa using heq
   subst this
   simp
  ·rename_i heq
   have hne : t ≠ i := by simpa using heq
   obtain ⟨h1, h2⟩ := IN r (i + 1) t v h
   refine ⟨by omega, ?_⟩
   have : t - i = (t - (i + 1)) + 1 := by omega
   rw [this]
   simpa using h2
theorem aB.bk {f : FuncId} {fn : Func} {body : Code} {args : List Value} {n : Nat} {Post : Value → aA → ak → Prop} (hf : P.funcs[f]? = some fn) (hb : fn.body = some body) (hnt : fn.ntmps = n) (hn : Nat.ble args.length n = true)
  (h : ∀ fr cs, (∀ v R' H', Post v R' H' → ah.J R' H' (bt (fr.finish v) cs)) → At ah ⟨f, .normal, none, n, [], fr :: cs⟩ R H (BI 0 args) [.code body]) : aB ah f args.toArray R H Post := by
 subst hnt
 intro fr cs hk
 have hn : args.length ≤ fn.ntmps := by simpa [Nat.ble_eq] using hn
 have := h fr cs hk (args.toArray ++ Array.replicate (fn.ntmps - args.length) undef) ⟨by simp; omega, λ t v ht => ?_⟩
 ·have e : Frame.enter P f args.toArray .normal = bl ⟨f, .normal, none, fn.ntmps, [], fr :: cs⟩ (args.toArray ++ Array.replicate (fn.ntmps - args.length) undef) [.code body] := by
   simp [Frame.enter, bl, hf, hb]
  rw [e]
  exact this
 ·obtain ⟨_, h2⟩ := IN args 0 t v ht
  have hlt : t < args.length := by
   have := (List.getElem?_eq_some_iff.1 h2).1
   simpa using this
  rw [Array.getElem?_append_left (by simpa using hlt)]
  simpa using h2
def He (st : St) : List ResultVar → Option (List Value)
 | [] => some []
 | .tmp t :: r => match st.lookup t, He st r with
  | some v, some vs => some (v :: vs)
  | _, _ => none
 | .cell _ _ :: _ => none
def pG : List Value → Value
 | [v] => v
 | vs => .tuple vs.toArray
theorem acm {st : St} {tmps : Array Value} {n : Nat} (ht : e6 n st tmps) : ∀ (l : List ResultVar) (vs : List Value), He st l = some vs →
  an P (l.mapM (m := Sem) λ
   | .tmp t => pure (tmps.getD t undef)
   | .cell a t => do loadVar t (← asAddr (tmps.getD a undef))) vs
 | [], vs, h => by cases h; exact an.pure _
 | .tmp t :: r, vs, h => by
  simp only [He] at h
  cases hl : st.lookup t with
  | none => simp [hl] at h
  | some v =>
   cases hr : He st r with
   | none => simp [hl, hr] at h
   | some us =>
    simp only [hl, hr, Option.some.injEq] at h
    subst h
    rw [List.mapM_cons]
    refine an.bind (a := v) ?_ (an.bind (acm ht r us hr) (an.pure _))
    have : tmps.getD t undef = v := by simp [Array.getD_eq_getD_getElem?, ht.2 t v hl]
    show an P (pure (tmps.getD t undef)) v
    rw [this]; exact an.pure _
 | .cell _ _ :: _, _, h => by cases h
theorem aBW {fn : Func} {st : St} {tmps : Array Value} {n : Nat} {vs : List Value} (ht : e6 n st tmps) (h : He st fn.results.toList = some vs) : an P (results fn tmps) (pG vs) := by
 unfold results
 rw [← Array.toArray_toList (xs := fn.results), List.mapM_toArray]
 refine an.bind (an.map (acm ht _ _ h)) ?_
 cases vs with
 | nil => exact an.pure _
 | cons v r => cases r with
  | nil => exact an.pure _
  | cons _ _ => exact an.pure _
end
end Go.Lg
namespace Go.Lg
open Go.Conc
theorem n6 (b o n : Nat) : (⟨b, o, none⟩ : Addr).add n = ⟨b, o + n, none⟩ := by
 unfold Addr.add; split
 ·subst_vars; rfl
 ·rfl
def ff (P : Program) (s f off : Nat) : Prop := ∀ b o : Nat, an P (Instr.fieldAt s (.pointer (some ⟨b, o, none⟩)) f) (.pointer (some ⟨b, o + off, none⟩))
def lp (P : Program) (t e n : Nat) : Prop := P.underlying t = some (.slice e) ∧ an P (sizeOf e) n
def vG (P : Program) (t len e n : Nat) : Prop := P.underlying t = some (.array len e) ∧ an P (sizeOf e) n
def adz (z : Int) : Prop := -9223372036854775808 ≤ z ∧ z ≤ 9223372036854775807
theorem aCN {z : Int} (h : adz z) : IntKind.wrap .i64 z = z := by
 obtain ⟨h1, h2⟩ := h
 simp only [IntKind.wrap, IntKind.bits, IntKind.signed]
 simp
 omega
section
variable {P : Program} {B : Base} {main : Bool} {ah : Jd P B main} {c : Ctx} {R : aA} {H : ak} {st st' : St} {o : Oper} {C : aA → ak → St → Prop}
theorem Ox.val {v : Value} (hdf : lI o.op = false) (hd : cg o.dst c.n)
  (hv : ∀ ρ, Knows st ρ → an P (execOp ρ o) (.value v)) (hs : aF (bS o.dst v st) st') (h : C R H st') : aP P B c o R H st C :=
 ⟨hdf, hd, λ ρ hρ => (hv ρ hρ).ok ⟨v, .inl rfl, st', hs, h⟩⟩
theorem Ox.val' {s : (Operand → Value) → Sem Value} {v : Value} (hdf : lI o.op = false) (hd : cg o.dst c.n)
  (he : ∀ ρ, execOp ρ o = (do let x ← s ρ; pure (.value x))) (hv : ∀ ρ, Knows st ρ → an P (s ρ) v) (hs : aF (bS o.dst v st) st') (h : C R H st') : aP P B c o R H st C :=
 Ox.val hdf hd (λ ρ hρ => by rw [he]; exact an.bind (hv ρ hρ) (an.pure _)) hs h
theorem Ox.mem {s : (Operand → Value) → Sem Value} (hdf : lI o.op = false) (hd : cg o.dst c.n)
  (he : ∀ ρ, execOp ρ o = (do let x ← s ρ; pure (.value x)))
  (hv : ∀ ρ, Knows st ρ → aC P B R H (s ρ) λ v R' H' => ∃ st', aF (bS o.dst v st) st' ∧ C R' H' st') : aP P B c o R H st C :=
 ⟨hdf, hd, λ ρ hρ => by
  rw [he]
  exact aC.bind ((hv ρ hρ).mono λ v R' H' ⟨st', hs, h⟩ => aC.pure ⟨v, .inl rfl, st', hs, h⟩)⟩
theorem Ox.G1 {s : (Operand → Value) → Sem Unit} (hdf : lI o.op = false) (hd : o.dst = none)
  (he : ∀ ρ, execOp ρ o = (do s ρ; pure .skip)) (hs : aF st st')
  (hv : ∀ ρ, Knows st ρ → aC P B R H (s ρ) λ _ R' H' => C R' H' st') : aP P B c o R H st C :=
 ⟨hdf, by rw [hd]; rfl, λ ρ hρ => by
  rw [he]
  exact aC.bind ((hv ρ hρ).mono λ v R' H' h => aC.pure ⟨undef, .inr ⟨rfl, rfl⟩, st', by rw [hd]; exact hs, h⟩)⟩
theorem Ox.move {x : Operand} {v : Value} (hop : o.op = .move x) (hx : bh st x = some v) (hd : cg o.dst c.n)
  (hs : aF (bS o.dst v st) st') (h : C R H st') : aP P B c o R H st C :=
 Ox.val (by rw [hop]; rfl) hd (λ ρ hρ => by simp only [execOp, hop, hρ x v hx]; exact an.pure _) hs h
theorem Ox.assign {x : Operand} {v : Value} (hop : o.op = .assign x) (hx : bh st x = some v) (hd : cg o.dst c.n)
  (hs : aF (bS o.dst v st) st') (h : C R H st') : aP P B c o R H st C :=
 Ox.val (by rw [hop]; rfl) hd (λ ρ hρ => by simp only [execOp, hop, hρ x v hx]; exact an.pure _) hs h
theorem Ox.aAl {x y z : Operand} {v : Value} (hop : o.op = .pick x y z) (hx : bh st x = some (.bool true)) (hy : bh st y = some v) (hd : cg o.dst c.n)
  (hs : aF (bS o.dst v st) st') (h : C R H st') : aP P B c o R H st C :=
 Ox.val (by rw [hop]; rfl) hd (λ ρ hρ => by
  simp only [execOp, hop, hρ x _ hx, hρ y v hy, asBool]
  exact an.bind (an.pure true) (an.pure _)) hs h
theorem Ox.aAk {x y z : Operand} {v : Value} (hop : o.op = .pick x y z) (hx : bh st x = some (.bool false)) (hz : bh st z = some v) (hd : cg o.dst c.n)
  (hs : aF (bS o.dst v st) st') (h : C R H st') : aP P B c o R H st C :=
 Ox.val (by rw [hop]; rfl) hd (λ ρ hρ => by
  simp only [execOp, hop, hρ x _ hx, hρ z v hz, asBool]
  exact an.bind (an.pure false) (an.pure _)) hs h
theorem Ox.fieldAddr {x : Operand} {s f off b n : Nat} (hop : o.op = .fieldAddr s x f) (hx : bh st x = some (.pointer (some ⟨b, n, none⟩))) (hf : ff P s f off) (hd : cg o.dst c.n)
  (hs : aF (bS o.dst (.pointer (some ⟨b, n + off, none⟩)) st) st') (h : C R H st') : aP P B c o R H st C :=
 Ox.val' (s := λ ρ => Instr.fieldAt s (ρ x) f) (by rw [hop]; rfl) hd (λ ρ => by simp only [execOp, hop]) (λ ρ hρ => by rw [hρ x _ hx]; exact hf b n) hs h
theorem Ur {t e n b m len cap : Nat} {kd : IntKind} {j : Nat} (ht : lp P t e n) (hj : j < len) :
  an P (Instr.indexAt t (.slice (some ⟨b, m, none⟩) len cap) (.int kd (j : Int))) (.pointer (some ⟨b, m + j * n, none⟩)) := by
 unfold Instr.indexAt
 refine an.bind (a := (kd, (j : Int))) (an.pure _) (an.bind (an.underlying ht.1) (an.bind (a := (some (⟨b, m, none⟩ : Addr), len, e)) (an.pure _) (an.bind (an.underlying ht.1) ?_)))
 have h1 : (0 : Int) ≤ (j : Int) ∧ (j : Int) < (len : Int) := by omega
 simp only [h1, and_self, if_true, Int.toNat_natCast]
 refine an.bind ht.2 ?_
 rw [n6]
 exact an.pure _
theorem aBV {t e n b m len : Nat} {kd : IntKind} {j : Nat} (ht : vG P t len e n) (hj : j < len) :
  an P (Instr.indexAt t (.pointer (some ⟨b, m, none⟩)) (.int kd (j : Int))) (.pointer (some ⟨b, m + j * n, none⟩)) := by
 unfold Instr.indexAt
 refine an.bind (a := (kd, (j : Int))) (an.pure _) (an.bind (an.underlying ht.1) (an.bind (a := (⟨b, m, none⟩ : Addr)) (an.pure _) (an.bind (a := (some (⟨b, m, none⟩ : Addr), len, e)) (an.pure _) (an.bind (an.underlying ht.1) ?_))))
 have h1 : (0 : Int) ≤ (j : Int) ∧ (j : Int) < (len : Int) := by omega
 simp only [h1, and_self, if_true, Int.toNat_natCast]
 refine an.bind ht.2 ?_
 rw [n6]
 exact an.pure _
theorem AS (op : BinOp) (t : TypeId) (x y : Operand) (ka kb : IntKind) (a b : Int) : an P (eqGuard op t x y (.int ka a) (.int kb b)) () := by
 unfold eqGuard
 cases op <;> exact an.pure _
def Nt : BinOp → Int → Int → Option Bool
 | .eql, x, y => some (x == y)
 | .neq, x, y => some (x != y)
 | .lss, x, y => some (decide (x < y))
 | .leq, x, y => some (decide (x ≤ y))
 | .gtr, x, y => some (decide (x > y))
 | .geq, x, y => some (decide (x ≥ y))
 | _, _, _ => none
theorem Ox.cmp {x y : Operand} {bo : BinOp} {t u : TypeId} {a b : Int} {kd : IntKind} {r : Bool} (hop : o.op = .binOp bo t x y u) (hx : bh st x = some (.int kd a)) (hy : bh st y = some (.int kd b)) (hr : Nt bo a b = some r)
  (hd : cg o.dst c.n) (hs : aF (bS o.dst (.bool r) st) st') (h : C R H st') : aP P B c o R H st C :=
 Ox.val' (s := λ ρ => do eqGuard bo t x y (ρ x) (ρ y); binOp bo t (ρ x) (ρ y)) (by rw [hop]; rfl) hd (λ ρ => by simp only [execOp, hop]) (λ ρ hρ => by
  rw [hρ x _ hx, hρ y _ hy]
  refine an.bind (AS _ _ _ _ _ _ _ _) ?_
  cases bo <;> simp only [Nt, Option.some.injEq, reduceCtorEq] at hr <;> subst hr <;> simp only [binOp, ne_eq, not_true_eq_false, if_false] <;> exact an.pure _) hs h
def M5 : BinOp → Int → Int → Option Int
 | .add, x, y => some (x + y)
 | .sub, x, y => some (x - y)
 | .mul, x, y => some (x * y)
 | _, _, _ => none
theorem Ox.not {x : Operand} {t : TypeId} {a : Bool} (hop : o.op = .unOp .not t x) (hx : bh st x = some (.bool a))
  (hd : cg o.dst c.n) (hs : aF (bS o.dst (.bool (!a)) st) st') (h : C R H st') : aP P B c o R H st C :=
 Ox.val' (s := λ ρ => Op.unary .not (ρ x)) (by rw [hop]; rfl) hd (λ ρ => by simp only [execOp, hop]) (λ ρ hρ => by rw [hρ x _ hx]; exact an.pure _) hs h
theorem Ox.extract {x : Operand} {j : Nat} {vs : Array Value} {v : Value} (hop : o.op = .extract x j) (hx : bh st x = some (.tuple vs)) (hj : vs[j]? = some v)
  (hd : cg o.dst c.n) (hs : aF (bS o.dst v st) st') (h : C R H st') : aP P B c o R H st C :=
 Ox.val' (s := λ ρ => Instr.extract (ρ x) j) (by rw [hop]; rfl) hd (λ ρ => by simp only [execOp, hop]) (λ ρ hρ => by
  rw [hρ x _ hx]
  simp only [Instr.extract, hj]; exact an.pure _) hs h
theorem Ox.makeFunc {fn : Fn} {first captured : Array Operand} {vs us : Array Value} (hop : o.op = .makeFunc fn first captured) (h1 : first.toList.mapM (bh st) = some vs.toList) (h2 : captured.toList.mapM (bh st) = some us.toList)
  (hd : cg o.dst c.n) (hs : aF (bS o.dst (.func fn vs us) st) st') (h : C R H st') : aP P B c o R H st C :=
 Ox.val' (s := λ ρ => Instr.makeFunc fn (first.map ρ) (captured.map ρ)) (by rw [hop]; rfl) hd (λ ρ => by simp only [execOp, hop]) (λ ρ hρ => by
  have key : ∀ (l : List Operand) (r : List Value), l.mapM (bh st) = some r → l.map ρ = r := by
   intro l
   induction l with
   | nil => intro r hr; simpa using hr
   | cons a l ih =>
    intro r hr
    rw [List.mapM_cons] at hr
    cases ha : bh st a with
    | none => simp [ha] at hr
    | some u =>
     cases hl : l.mapM (bh st) with
     | none => simp [ha, hl] at hr
     | some us =>
      simp [ha, hl] at hr
      subst hr
      simp [hρ a u ha, ih us hl]
  have e1 : first.map ρ = vs := by apply Array.ext'; simpa using key _ _ h1
  have e2 : captured.map ρ = us := by apply Array.ext'; simpa using key _ _ h2
  rw [e1, e2]
  exact an.pure _) hs h
theorem Ox.len {x : Operand} {t e : TypeId} {a : Option Addr} {n cap : Nat} (hop : o.op = .call ⟨.builtin .len, #[x], #[t]⟩) (hx : bh st x = some (.slice a n cap)) (ht : P.underlying t = some (.slice e))
  (hd : cg o.dst c.n) (hs : aF (bS o.dst (.int .i64 (n : Int)) st) st') (h : C R H st') : aP P B c o R H st C :=
 Ox.val (by rw [hop]; rfl) hd (λ ρ hρ => by
  simp only [execOp, hop]
  refine an.bind (a := ⟨.builtin .len #[t] o.type (#[x].map λ | .const _ => true | _ => false), #[x].map ρ⟩) (an.pure _) ?_
  simp only [invoke, builtin]
  refine an.bind (a := .int .i64 (n : Int)) ?_ (an.pure _)
  have e : (#[x].map ρ) = #[.slice a n cap] := by simp [hρ x _ hx]
  rw [e]
  exact an.bind (an.underlying ht) (an.pure _)) hs h
theorem Ox.Gw {x : Operand} {t : TypeId} {s : ByteArray} (hop : o.op = .call ⟨.builtin .len, #[x], #[t]⟩) (hx : bh st x = some (.string s)) (ht : P.underlying t = some .string)
  (hd : cg o.dst c.n) (hs : aF (bS o.dst (.int .i64 (s.size : Int)) st) st') (h : C R H st') : aP P B c o R H st C :=
 Ox.val (by rw [hop]; rfl) hd (λ ρ hρ => by
  simp only [execOp, hop]
  refine an.bind (a := ⟨.builtin .len #[t] o.type (#[x].map λ | .const _ => true | _ => false), #[x].map ρ⟩) (an.pure _) ?_
  simp only [invoke, builtin]
  refine an.bind (a := .int .i64 (s.size : Int)) ?_ (an.pure _)
  have e : (#[x].map ρ) = #[.string s] := by simp [hρ x _ hx]
  rw [e]
  exact an.bind (an.underlying ht) (an.pure _)) hs h
theorem Up {f : FuncId} {fn : Func} {args : Array Value} (hf : P.funcs[f]? = some fn) (hn : (fn.name == "runtime.NumGoroutine") = false) (hb : fn.body.isNone = false) : an P (callFunc f args) (.enter f args) := by
 unfold callFunc
 refine an.bind an.program ?_
 simp only [hf, hn, hb]
 exact an.pure _
structure aZ (P : Program) (f : FuncId) : Prop where
 ex : ∃ fn, P.funcs[f]? = some fn ∧ (fn.name == "runtime.NumGoroutine") = false ∧ fn.body.isNone = false
def pY (st : St) : List Operand → Option (List Value)
 | [] => some []
 | x :: r => match bh st x, pY st r with
  | some v, some vs => some (v :: vs)
  | _, _ => none
theorem Ep {st : St} {ρ : Operand → Value} (hρ : Knows st ρ) : ∀ (l : List Operand) (r : List Value), pY st l = some r → l.map ρ = r
 | [], r, h => by cases h; rfl
 | x :: l, r, h => by
  simp only [pY] at h
  cases hx : bh st x with
  | none => simp [hx] at h
  | some v =>
   cases hl : pY st l with
   | none => simp [hx, hl] at h
   | some vs =>
    simp [hx, hl] at h
    subst h
    simp [hρ x v hx, Ep hρ l vs hl]
theorem Ox.cD {ca : Call} {x : Operand} {f : FuncId} {first captured : Array Value} {vs : List Value} {args : Array Value}
  (hop : o.op = .call ca) (hc : ca.callee = .value x) (hx : bh st x = some (.func (.func f) first captured)) (ha : pY st ca.args.toList = some vs) (he : aZ P f) (hargs : first ++ vs.toArray ++ captured = args)
  (hd : cg o.dst c.n) (hf : aB ah f args R H λ v R' H' => ∃ st', aF (bS o.dst v st) st' ∧ C R' H' st') : l7 ah c o R H st C :=
 ⟨by rw [hop]; rfl, hd, .inr ⟨f, args, λ ρ hρ => by
  obtain ⟨fn, h1, h2, h3⟩ := he.ex
  simp only [execOp, hop, resolve, hc, hρ x _ hx, Deferred.ofValue]
  have e : ca.args.map ρ = vs.toArray := by apply Array.ext'; simpa using Ep hρ _ _ ha
  refine an.bind (a := ⟨.fn (.func f) captured, first ++ vs.toArray⟩) (by rw [e]; exact an.pure _) ?_
  simp only [invoke, hargs]
  exact Up h1 h2 h3, hf⟩⟩
end
end Go.Lg
namespace Go.Lg
open Go.Conc
def gv (P : Program) (t : TypeId) (cs : Array Value) : Prop := ∃ z, an P (zeroValue t) z ∧ z.cells = cs
def gr (P : Program) (t : TypeId) : Prop := an P (isAgg t) false ∧ an P (sizeOf t) 1
def j4 (P : Program) (t : TypeId) (n : Nat) : Prop := an P (isAgg t) true ∧ an P (sizeOf t) n
def aS (R : aA) (H : ak) (b o : Nat) (vs : List Value) : Prop := ∀ j v, vs[j]? = some v → Cell R H ⟨b, o + j, none⟩ v
theorem aS.known {R : aA} {H : ak} {b o n : Nat} {cs : Array Value} {e : TypeId} {fz : Nat × Nat} {vs : List Value} (hm : R b = some (Obj.cells cs e fz)) (hv : (cs.toList.drop o).take n = vs) : aS R H b o vs := by
 intro j v hj
 refine ⟨rfl, cs, e, fz, .inl hm, ?_⟩
 subst hv
 rw [List.getElem?_take] at hj
 split at hj
 ·rw [List.getElem?_drop] at hj
  simpa using hj
 ·cases hj
def ey (cs : Array Value) : Nat → List Value → Array Value
 | _, [] => cs
 | o, v :: r => ey (cs.setIfInBounds o v) (o + 1) r
theorem G8 : ∀ (vs : List Value) (cs : Array Value) (o : Nat), (ey cs o vs).size = cs.size
 | [], _, _ => rfl
 | v :: r, cs, o => by simp only [ey]; rw [G8 r]; simp
theorem dD.mid {H H1 H' : ak} {b : Nat} {o o' o'' : Obj} (h : dD H b o o' H1) (k : dD H b o o'' H') (hn : (H.map (·.1)).Nodup) : dD H1 b o' o'' H' := by
 induction h generalizing H' with
 | @here b o o' H =>
  cases k with
  | here => exact .here
  | there k =>
   rw [List.map_cons, List.nodup_cons] at hn
   exact absurd (List.mem_map.2 ⟨_, k.mem, rfl⟩) hn.1
 | @there b o o' p H H1 hs ih =>
  cases k with
  | here =>
   rw [List.map_cons, List.nodup_cons] at hn
   exact absurd (List.mem_map.2 ⟨_, hs.mem, rfl⟩) hn.1
  | there k =>
   rw [List.map_cons, List.nodup_cons] at hn
   exact .there (ih k hn.2)
section
variable {P : Program} {B : Base} {main : Bool} {ah : Jd P B main} {c : Ctx} {R : aA} {H H' : ak} {st st' : St} {o : Oper} {C : aA → ak → St → Prop}
theorem aC.Hg {b : Nat} {e : TypeId} {K : Unit → aA → ak → Prop} : ∀ (vs : List Value) (cs : Array Value) (off i : Nat) (H H' : ak), (∀ v ∈ vs, v.oneCell' = true) → off + i + vs.length ≤ cs.size →
  dD H b (.cells cs e (0, 0)) (.cells (ey cs (off + i) vs) e (0, 0)) H' → (H.map (·.1)).Nodup → K () R H' → aC P B R H (storeCells ⟨b, off, none⟩ vs i) K
 | [], cs, off, i, H, H', _, _, hs, hn, hk => by
  have e1 : H' = H := by
   have : ∀ {H H' : ak} {o : Obj}, dD H b o o H' → H' = H := by
    intro H H' o h
    induction H generalizing H' with
    | nil => cases h
    | cons p r ih =>
     cases h with
     | here => rfl
     | there h => rw [ih h]
   exact this hs
  subst e1
  simp only [storeCells]
  exact aC.pure hk
 | v :: r, cs, off, i, H, H', h1, hl, hs, hn, hk => by
  simp only [storeCells]
  simp only [List.length_cons] at hl
  have hex : ∀ (H : ak) (o o' : Obj), (b, o) ∈ H → ∃ H1, dD H b o o' H1 := by
   intro H o o' hm
   induction H with
   | nil => cases hm
   | cons p r ih =>
    rcases List.mem_cons.1 hm with rfl | hm
    ·exact ⟨_, .here⟩
    ·obtain ⟨H1, h1⟩ := ih hm
     exact ⟨_, .there h1⟩
  obtain ⟨H1, r8⟩ := hex H _ (.cells (cs.setIfInBounds (off + i) v) e (0, 0)) hs.mem
  have Fo : dD H1 b (.cells (cs.setIfInBounds (off + i) v) e (0, 0)) (.cells (ey cs (off + i) (v :: r)) e (0, 0)) H' := dD.mid r8 hs hn
  refine aC.bind ?_
  rw [n6]
  refine aC.store (h1 v (by simp)) rfl (by show off + i < cs.size; omega) r8 ?_
  exact aC.Hg r (cs.setIfInBounds (off + i) v) off (i + 1) H1 H' (λ u hu => h1 u (by simp [hu])) (by simp; omega) (by simpa [ey, Nat.add_assoc] using Fo) (by rw [r8.keys]; exact hn) hk
theorem aC.given {α : Type} {s : Sem α} {K : α → aA → ak → Prop} (h : (H.map (·.1)).Nodup → aC P B R H s K) : aC P B R H s K := λ w hw => h hw.nd w hw
theorem aC.storeVar {t : TypeId} {b off n : Nat} {e : TypeId} {v : Value} {cs : Array Value} {K : Unit → aA → ak → Prop} (hn : an P (sizeOf t) n) (ZL : v.cells.size = n) (h1 : ∀ u ∈ v.cells.toList, u.oneCell' = true) (hl : off + n ≤ cs.size)
  (hs : dD H b (.cells cs e (0, 0)) (.cells (ey cs off v.cells.toList) e (0, 0)) H') (hk : K () R H') : aC P B R H (storeVar t ⟨b, off, none⟩ v) K := by
 refine aC.given λ cE => ?_
 unfold Go.storeVar
 refine an.cz hn ?_
 simp only [ZL, ne_eq, not_true_eq_false, if_false]
 exact aC.Hg _ cs off 0 H H' h1 (by simp [ZL]; exact hl) (by simpa using hs) cE hk
theorem aC.loadCellsFrom {b off : Nat} {K : Array Value → aA → ak → Prop} : ∀ (vs : List Value) (i : Nat) (acc : Array Value), aS R H b (off + i) vs → K (acc ++ vs.toArray) R H → aC P B R H (loadCellsFrom ⟨b, off, none⟩ i vs.length acc) K
 | [], i, acc, _, hk => by
  simp only [List.length_nil, Go.loadCellsFrom]
  exact aC.pure (by simpa using hk)
 | v :: r, i, acc, hc, hk => by
  simp only [List.length_cons, Go.loadCellsFrom]
  refine aC.bind ?_
  rw [n6]
  refine aC.load (v := v) (by simpa using hc 0 v rfl) ?_
  refine aC.loadCellsFrom r (i + 1) (acc.push v) (λ j u hj => ?_) (by simpa using hk)
  have := hc (j + 1) u (by simpa using hj)
  simpa [Nat.add_assoc, Nat.add_comm, Nat.add_left_comm] using this
theorem Ox.bu {x : Operand} {t : TypeId} {b off : Nat} {v : Value} (hop : o.op = .load t x) (hx : bh st x = some (.pointer (some ⟨b, off, none⟩))) (ht : gr P t) (hc : Cell R H ⟨b, off, none⟩ v)
  (hd : cg o.dst c.n) (hs : aF (bS o.dst v st) st') (h : C R H st') : aP P B c o R H st C :=
 Ox.mem (s := λ ρ => Instr.loadAt t (ρ x)) (by rw [hop]; rfl) hd (λ ρ => by simp only [execOp, hop]) (λ ρ hρ => by
  rw [hρ x _ hx]
  simp only [Instr.loadAt, Instr.sureAddr, loadVar]
  refine an.cz (an.pure _) (an.cz ht.1 ?_)
  exact aC.load hc ⟨st', hs, h⟩)
theorem Ox.ck {x : Operand} {t : TypeId} {b off n : Nat} {vs : List Value} (hop : o.op = .load t x) (hx : bh st x = some (.pointer (some ⟨b, off, none⟩))) (ht : j4 P t n) (hn : vs.length = n) (hc : aS R H b off vs)
  (hd : cg o.dst c.n) (hs : aF (bS o.dst (.agg vs.toArray) st) st') (h : C R H st') : aP P B c o R H st C :=
 Ox.mem (s := λ ρ => Instr.loadAt t (ρ x)) (by rw [hop]; rfl) hd (λ ρ => by simp only [execOp, hop]) (λ ρ hρ => by
  rw [hρ x _ hx]
  simp only [Instr.loadAt, Instr.sureAddr, loadVar]
  refine an.cz (an.pure _) (an.cz ht.1 ?_)
  simp only [if_true]
  refine an.cz ht.2 (aC.bind ?_)
  subst hn
  exact aC.loadCellsFrom vs 0 #[] (by simpa using hc) (aC.pure ⟨st', by simpa using hs, h⟩))
theorem Ox.cI {x y : Operand} {t e : TypeId} {b off : Nat} {v : Value} {cs cs' : Array Value} (hop : o.op = .store t x y) (hx : bh st x = some (.pointer (some ⟨b, off, none⟩))) (hy : bh st y = some v) (ht : gr P t) (hv : v.oneCell' = true) (hs : dD H b (.cells cs e (0, 0)) (.cells cs' e (0, 0)) H') (hl : Nat.blt off cs.size = true) (hcs : cs.setIfInBounds off v = cs')
  (hd : o.dst = none) (hsub : aF st st') (h : C R H' st') : aP P B c o R H st C :=
 Ox.G1 (s := λ ρ => Instr.storeAt t (ρ x) (ρ y)) (by rw [hop]; rfl) hd (λ ρ => by simp only [execOp, hop]) hsub (λ ρ hρ => by
  rw [hρ x _ hx, hρ y _ hy]
  simp only [Instr.storeAt, Instr.sureAddr]
  refine an.cz (an.pure _) ?_
  have RN : v.cells = #[v] := by cases v <;> first | rfl | (simp [Value.oneCell'] at hv)
  refine aC.storeVar (cs := cs) (e := e) ht.2 (by rw [RN]; rfl) (by rw [RN]; simpa using hv) (Nat.le_of_ble_eq_true hl) ?_ h
  rw [RN]
  simpa [ey, hcs] using hs)
theorem Ox.bG {x y : Operand} {t e : TypeId} {b off n : Nat} {vs : Array Value} {cs cs' : Array Value} (hop : o.op = .store t x y) (hx : bh st x = some (.pointer (some ⟨b, off, none⟩))) (hy : bh st y = some (.agg vs)) (ht : j4 P t n) (hn : vs.size = n) (h1 : ∀ u ∈ vs.toList, u.oneCell' = true) (hs : dD H b (.cells cs e (0, 0)) (.cells cs' e (0, 0)) H') (hl : Nat.ble (off + n) cs.size = true) (hcs : ey cs off vs.toList = cs')
  (hd : o.dst = none) (hsub : aF st st') (h : C R H' st') : aP P B c o R H st C :=
 Ox.G1 (s := λ ρ => Instr.storeAt t (ρ x) (ρ y)) (by rw [hop]; rfl) hd (λ ρ => by simp only [execOp, hop]) hsub (λ ρ hρ => by
  rw [hρ x _ hx, hρ y _ hy]
  simp only [Instr.storeAt, Instr.sureAddr]
  refine an.cz (an.pure _) ?_
  exact aC.storeVar (cs := cs) (e := e) ht.2 hn h1 (Nat.le_of_ble_eq_true hl) (by simpa [Value.cells, hcs] using hs) h)
theorem Ox.tW {x : Operand} {t : TypeId} {v : Value} (hop : o.op = .box t x) (hx : bh st x = some v) (hv : v.cells = #[v]) (hd : cg o.dst c.n)
  (h : ∀ b, R b = none → (∀ x, (b, x) ∉ H) → ∃ st', aF (bS o.dst (.pointer (some ⟨b, 0, none⟩)) st) st' ∧ C R ((b, .cells #[v] t) :: H) st') : aP P B c o R H st C :=
 Ox.mem (s := λ ρ => Instr.box t (ρ x)) (by rw [hop]; rfl) hd (λ ρ => by simp only [execOp, hop]) (λ ρ hρ => by
  rw [hρ x _ hx]
  simp only [Instr.box, newVar, newRow, hv]
  exact aC.bind (aC.bind (aC.new λ b h1 h2 => aC.pure (aC.pure (h b h1 h2)))))
theorem Ox.WH {x : Operand} {t : TypeId} {vs : Array Value} (hop : o.op = .box t x) (hx : bh st x = some (.agg vs)) (hd : cg o.dst c.n)
  (h : ∀ b, R b = none → (∀ x, (b, x) ∉ H) → ∃ st', aF (bS o.dst (.pointer (some ⟨b, 0, none⟩)) st) st' ∧ C R ((b, .cells vs t) :: H) st') : aP P B c o R H st C :=
 Ox.mem (s := λ ρ => Instr.box t (ρ x)) (by rw [hop]; rfl) hd (λ ρ => by simp only [execOp, hop]) (λ ρ hρ => by
  rw [hρ x _ hx]
  simp only [Instr.box, newVar, newRow, Value.cells]
  exact aC.bind (aC.bind (aC.new λ b h1 h2 => aC.pure (aC.pure (h b h1 h2)))))
theorem Ox.alloc {t : TypeId} {cs : Array Value} (hop : o.op = .alloc t) (ht : gv P t cs) (hd : cg o.dst c.n)
  (h : ∀ b, R b = none → (∀ x, (b, x) ∉ H) → ∃ st', aF (bS o.dst (.pointer (some ⟨b, 0, none⟩)) st) st' ∧ C R ((b, .cells cs t) :: H) st') : aP P B c o R H st C :=
 Ox.mem (s := λ _ => Instr.alloc t true (.tuple #[])) (by rw [hop]; rfl) hd (λ ρ => by simp only [execOp, hop]) (λ ρ hρ => by
  obtain ⟨z, hz, rfl⟩ := ht
  simp only [Instr.alloc, newVar, newRow]
  exact an.cz hz (aC.bind (aC.bind (aC.new λ b h1 h2 => aC.pure (aC.pure (h b h1 h2))))))
def Db (st : St) : List (Nat × Operand) → Option (List (Nat × Value))
 | [] => some []
 | (j, x) :: r => match bh st x, Db st r with
  | some v, some vs => some ((j, v) :: vs)
  | _, _ => none
theorem TT {ρ : Operand → Value} (hρ : Knows st ρ) : ∀ (l : List (Nat × Operand)) (r : List (Nat × Value)), Db st l = some r → l.map (λ (j, x) => (j, ρ x)) = r
 | [], r, h => by cases h; rfl
 | (j, x) :: l, r, h => by
  simp only [Db] at h
  cases hx : bh st x with
  | none => simp [hx] at h
  | some v =>
   cases hl : Db st l with
   | none => simp [hx, hl] at h
   | some vs =>
    simp [hx, hl] at h
    subst h
    simp [hρ x v hx, TT hρ l vs hl]
def oX (P : Program) (t : TypeId) (places : List (Nat × Nat)) (z : Array Value) : Prop :=
 gv P t z ∧ ∃ fs : Array Field, P.underlying t = some (.struct fs) ∧ an P (fs.mapM λ f => do pure (f.offset, ← sizeOf f.type)) places.toArray
theorem Ox.build {t : TypeId} {parts : Array (Nat × Operand)} {ps : List (Nat × Value)} {places : List (Nat × Nat)} {z cells : Array Value} (hop : o.op = .build t parts) (ht : oX P t places z) (hp : Db st parts.toList = some ps) (hf : Instr.fill (places.toArray[·]?) z ps = some cells)
  (hd : cg o.dst c.n) (hs : aF (bS o.dst (.agg cells) st) st') (h : C R H st') : aP P B c o R H st C :=
 Ox.val' (s := λ ρ => Instr.build t (parts.map λ (j, x) => (j, ρ x))) (by rw [hop]; rfl) hd (λ ρ => by simp only [execOp, hop]) (λ ρ hρ => by
  obtain ⟨⟨z0, hz, rfl⟩, fs, h1, h2⟩ := ht
  have e : (parts.map λ (j, x) => (j, ρ x)) = ps.toArray := by apply Array.ext'; simpa using TT hρ _ _ hp
  rw [e]
  unfold Instr.build
  refine an.bind hz (an.bind (an.underlying h1) (an.bind h2 ?_))
  simp only [hf]
  exact an.pure _) hs h
def By (P : Program) (t e n : Nat) (z : Array Value) : Prop := P.underlying t = some (.slice e) ∧ an P (sizeOf e) n ∧ gv P e z ∧ z.size = n ∧ 0 < n
theorem Ox.buildSlice {t e n len : Nat} {parts : Array (Nat × Operand)} {ps : List (Nat × Value)} {z base cells : Array Value} (hop : o.op = .buildSlice t len parts) (ht : By P t e n z) (hp : Db st parts.toList = some ps) (hlen : len * n ≤ 16777216)
  (hb : (Array.range (len * n)).map (z[· % z.size]!) = base) (hf : Instr.fill (λ j => some (j * n, n)) base ps = some cells) (hd : cg o.dst c.n)
  (h : ∀ b, R b = none → (∀ x, (b, x) ∉ H) → ∃ st', aF (bS o.dst (.slice (some ⟨b, 0, none⟩) len len) st) st' ∧ C R ((b, .cells cells e) :: H) st') : aP P B c o R H st C :=
 Ox.mem (s := λ ρ => Instr.buildSlice t len (parts.map λ (j, x) => (j, ρ x))) (by rw [hop]; rfl) hd (λ ρ => by simp only [execOp, hop]) (λ ρ hρ => by
  subst hb
  obtain ⟨h1, h2, ⟨z0, hz, rfl⟩, h3, h4⟩ := ht
  have ep : (parts.map λ (j, x) => (j, ρ x)) = ps.toArray := by apply Array.ext'; simpa using TT hρ _ _ hp
  rw [ep]
  unfold Instr.buildSlice
  refine an.cz (an.underlying h1) (an.cz h2 ?_)
  have hl : ¬ (len * n > 2 ^ 24) := by omega
  simp only [hl, if_false]
  have last : aC P B R H (do let a ← newRow e cells; pure (.slice (some a) len len)) λ v R' H' => ∃ st', aF (bS o.dst v st) st' ∧ C R' H' st' := by
   simp only [newRow]
   exact aC.bind (aC.bind (aC.new λ b h1 h2 => aC.pure (aC.pure (h b h1 h2))))
  by_cases h0 : len * n = 0
  ·simp only [h0, if_true]
   refine an.cz (an.pure _) ?_
   have hr : ∀ f : Nat → Value, (Array.range 0).map f = #[] := λ f => by simp [Array.range]
   simp only [h0, hr] at hf ⊢
   simp only [hf]
   exact last
  ·simp only [h0, if_false]
   refine an.cz hz (an.cz (an.pure _) ?_)
   simp only [hf]
   exact last)
end
end Go.Lg
namespace Go.Lg
open Go.Conc
def aO (R R' : aA) : Prop := ∀ b o, R b = some o → R' b = some o
theorem aO.refl (R : aA) : aO R R := λ _ _ h => h
theorem aO.trans {R R' bX : aA} (h : aO R R') (k : aO R' bX) : aO R bX := λ b o x => k b o (h b o x)
section
variable {P : Program} {B : Base} {main : Bool} (ah : Jd P B main)
def yE (c : Ctx) (S : ak) (ops : Array Oper) (i : Nat) (tmps : Array Value) (R : aA) (H : ak) (K : Array Value → aA → ak → Prop) : Prop :=
 ∃ o, ops[i]? = some o ∧ lI o.op = false ∧
  ((Region.wanted o (yielded ops tmps) = false ∧ K (ez o.dst undef tmps) R H) ∨
   (Region.wanted o (yielded ops tmps) = true ∧
   ((aC P B R H (execOp (bl c tmps []).eval o) λ nx R' H' => ∃ v, (nx = .value v ∨ (nx = .skip ∧ v = undef)) ∧ aO R R' ∧ (∀ p ∈ S, p ∈ H → p ∈ H') ∧ K (ez o.dst v tmps) R' H') ∨
    (∃ f args, an P (execOp (bl c tmps []).eval o) (.enter f args) ∧ aB ah f args R H λ v R' H' => aO R R' ∧ (∀ p ∈ S, p ∈ H → p ∈ H') ∧ K (ez o.dst v tmps) R' H'))))
theorem J.given {R : aA} {H : ak} {g : Goroutine} (hs : g.status = .running) (h : (∃ w, Fits B R H w) → ah.J R H g) : ah.J R H g := by
 by_cases hw : ∃ w, Fits B R H w
 ·exact h hw
 ·exact ah.step hs λ w hf => absurd ⟨w, hf⟩ hw
def kU (ops : Array Oper) (rem : List Nat) (i : Nat) : Bool := match ops[i]? with
 | some o => o.after.all λ e => !Region.binds .any e || !rem.contains e.on
 | none => false
def vQ (c : Ctx) (S : Nat → ak) (ops : Array Oper) (Q : Array Value → aA → ak → Prop) : Nat → List Nat → Array Value → aA → ak → Prop
 | 0, rem, t, R, H => rem = [] ∧ Q t R H
 | n + 1, rem, t, R, H => (rem = [] ∧ Q t R H) ∨ (rem ≠ [] ∧ ((∃ w, Fits B R H w) → ∀ i ∈ rem, kU ops rem i = true → yE ah c (S i) ops i t R H λ t' R' H' => vQ c S ops Q n (rem.erase i) t' R' H'))
variable {ah}
def backward (ops : Array Oper) : Bool := (List.range ops.size).all λ i => match ops[i]? with
 | some o => o.after.all λ e => !Region.binds .any e || decide (e.on < i)
 | none => true
theorem XP (c : Ctx) (tmps : Array Value) (todo : List Item) : (bl c tmps todo).eval = (bl c tmps []).eval := by
 funext x; cases x <;> rfl
theorem aet {c : Ctx} {S : ak} {ops : Array Oper} {i : Nat} {rest : List Nat} {k : List Item} {tmps : Array Value} {R : aA} {H : ak} {K : Array Value → aA → ak → Prop} (hk : (c.kind == CallKind.early) = false) (h : yE ah c S ops i tmps R H K)
  (hK : ∀ t R' H', K t R' H' → ah.J R' H' (bt (bl c t (.inRegion ops rest :: k)) c.cs)) : ah.J R H (bt (bl c tmps (.inRegion ops (i :: rest) :: k)) c.cs) := by
 obtain ⟨o, ho, hd, h⟩ := h
 have Fa : (bl c tmps (.inRegion ops (i :: rest) :: k)).kind ≠ .early := by show c.kind ≠ _; simpa using hk
 rcases h with ⟨h1, h2⟩ | ⟨h1, h2 | ⟨f, args, h2, h3⟩⟩
 ·exact Jd.ctl rfl (λ w => ab4 ho h1) (hK _ _ _ h2)
 ·refine ah.step rfl λ w hwf => ?_
  obtain ⟨nx, w', R', H', e1, e2, e3, v, hv, _, _, hKK⟩ := h2 w hwf
  refine ⟨bt (bl c (ez o.dst v tmps) (.inRegion ops rest :: k)) c.cs, w', seen P c.fn ((execOp (bl c tmps []).eval o).events P w #[]), R', H', ?_, λ e he => e2 e (mem_seen he), e3, hK _ _ _ hKK⟩
  rw [u9 ho h1 hd, ← rT (rest := rest) (k := k) (c := c) (tmps := tmps) (v := v) ho, XP]
  rcases hv with rfl | ⟨rfl, rfl⟩
  ·exact M4 Fa e1
  ·exact M3 Fa e1
 ·refine ah.step rfl λ w hwf => ?_
  have hv := h2 w
  refine ⟨bt (Frame.enter P f args .normal) (bl c tmps (.inRegion ops (i :: rest) :: k) :: c.cs), w, seen P c.fn ((execOp (bl c tmps []).eval o).events P w #[]), R, H, ?_, ?_, di.refl hwf, h3 _ _ λ v R' H' hp => ?_⟩
  ·rw [u9 ho h1 hd, XP]
   exact WA rfl Fa hv.1
  ·intro e hee
   have := mem_seen hee
   rw [hv.2] at this
   simp at this
  ·rw [rT ho]
   exact hK _ _ _ hp.2.2
def DZ (ops : Array Oper) (listed : Array Bool) (rem : List Nat) : Prop := listed.size = ops.size ∧ rem.Nodup ∧ (∀ i, i ∈ rem ↔ (i < ops.size ∧ listed.getD i true = false))
theorem aiF {listed : Array Bool} {i j : Nat} {d : Bool} (hi : i < listed.size) : (listed.setIfInBounds i true).getD j d = if i = j then true else listed.getD j d := by
 simp only [Array.getD_eq_getD_getElem?]
 by_cases h : i = j
 ·subst h; simp [hi]
 ·rw [if_neg h, Array.getElem?_setIfInBounds_ne h]
theorem DZ.erase {ops : Array Oper} {listed : Array Bool} {rem : List Nat} (h : DZ ops listed rem) {i : Nat} (hi : i ∈ rem) : DZ ops (listed.setIfInBounds i true) (rem.erase i) := by
 obtain ⟨h1, h2, h3⟩ := h
 have hlt : i < listed.size := by rw [h1]; exact ((h3 i).1 hi).1
 refine ⟨by simp [h1], h2.erase _, λ j => ?_⟩
 rw [h2.mem_erase_iff, h3 j, aiF hlt]
 by_cases e : i = j
 ·subst e; simp
 ·simp [e, Ne.symm e]
theorem aaz : ∀ (l : List Nat), l ≠ [] → ∃ m ∈ l, ∀ x ∈ l, m ≤ x
 | [], h => absurd rfl h
 | [a], _ => ⟨a, by simp, by simp⟩
 | a :: b :: r, _ => by
  obtain ⟨m, hm, hl⟩ := aaz (b :: r) (by simp)
  by_cases h : a ≤ m
  ·exact ⟨a, by simp, λ x hx => by
    rcases List.mem_cons.1 hx with rfl | hx
    ·exact Nat.le_refl _
    ·exact Nat.le_trans h (hl x hx)⟩
  ·exact ⟨m, List.mem_cons_of_mem _ hm, λ x hx => by
    rcases List.mem_cons.1 hx with rfl | hx
    ·omega
    ·exact hl x hx⟩
theorem VR {c : Ctx} {S : Nat → ak} {ops : Array Oper} {k : List Item} {Q : Array Value → aA → ak → Prop} (hk : (c.kind == CallKind.early) = false) (hb : backward ops = true)
  (hQ : ∀ t R H, Q t R H → ah.J R H (bt (bl c t k) c.cs)) : ∀ (fuel t : Nat) (listed : Array Bool) (acc : List Nat) (rem : List Nat) (tmps : Array Value) (R : aA) (H : ak), DZ ops listed rem → rem.length ≤ fuel →
   vQ ah c S ops Q fuel rem tmps R H → ∃ is, Region.linearise.go .any ops fuel t listed acc = acc.reverse ++ is ∧ ah.J R H (bt (bl c tmps (.inRegion ops is :: k)) c.cs)
 | 0, t, listed, acc, rem, tmps, R, H, _, _, h => ⟨[], by simp [Region.linearise.go], Jd.ctl rfl (λ w => by simp [stepG, stepG.exec, bt, bl]) (hQ _ _ _ h.2)⟩
 | fuel + 1, t, listed, acc, rem, tmps, R, H, hA, hl, h => by
  generalize hrs : ((List.range ops.size).filter λ i => !listed.getD i true && ((ops[i]?).map (·.after.all λ e => !Region.binds .any e || listed.getD e.on false)).getD false) = rs
  have hmem : ∀ i, i ∈ rs → i ∈ rem ∧ kU ops rem i = true := by
   intro i hi
   rw [← hrs] at hi
   simp only [List.mem_filter, List.mem_range, Bool.and_eq_true, Bool.not_eq_true'] at hi
   obtain ⟨h1, h2, h3⟩ := hi
   refine ⟨(hA.2.2 i).2 ⟨h1, h2⟩, ?_⟩
   unfold kU
   cases ho : ops[i]? with
   | none => simp [ho] at h3
   | some o =>
    simp only [ho, Option.map_some, Option.getD_some, Array.all_eq_true_iff_forall_mem] at h3 ⊢
    intro e he
    have := h3 e he
    rcases Bool.or_eq_true_iff.1 this with x | x
    ·simp [x]
    ·have hn : e.on ∉ rem := λ hm => by
      have := ((hA.2.2 e.on).1 hm).2
      have hlt : e.on < listed.size := by rw [hA.1]; exact ((hA.2.2 e.on).1 hm).1
      simp only [Array.getD_eq_getD_getElem?, Array.getElem?_eq_getElem hlt, Option.getD_some] at this x
      rw [x] at this; cases this
     simp [hn]
  rcases h with ⟨rfl, hq⟩ | ⟨hne, hall⟩
  ·have aoW : rs = [] := by
    cases rs with
    | nil => rfl
    | cons a r => exact absurd (hmem a (by simp)).1 (by simp)
   refine ⟨[], ?_, Jd.ctl rfl (λ w => by simp [stepG, stepG.exec, bt, bl]) (hQ _ _ _ hq)⟩
   unfold Region.linearise.go
   simp only [hrs, aoW]
   simp
  ·
   have aoX : rs ≠ [] := by
    obtain ⟨m, hm, anF⟩ := aaz rem hne
    have PS := ((hA.2.2 m).1 hm).1
    have : m ∈ rs := by
     rw [← hrs]
     simp only [List.mem_filter, List.mem_range, Bool.and_eq_true, Bool.not_eq_true']
     refine ⟨PS, ((hA.2.2 m).1 hm).2, ?_⟩
     have ho : ops[m]? = some ops[m] := Array.getElem?_eq_getElem PS
     simp only [ho, Option.map_some, Option.getD_some, Array.all_eq_true_iff_forall_mem]
     intro e he
     unfold backward at hb
     rw [List.all_eq_true] at hb
     have hb' := hb m (List.mem_range.2 PS)
     simp only [ho, Array.all_eq_true_iff_forall_mem] at hb'
     rcases Bool.or_eq_true_iff.1 (hb' e he) with x | x
     ·simp [x]
     ·have hlt : e.on < m := by simpa using x
      have hn : e.on ∉ rem := λ hm' => by have := anF _ hm'; omega
      have hl' : e.on < listed.size := by rw [hA.1]; omega
      have h1 : listed.getD e.on true = true := by
       cases hh : listed.getD e.on true with
       | true => rfl
       | false => exact absurd ((hA.2.2 e.on).2 ⟨by omega, hh⟩) hn
      simp only [Array.getD_eq_getD_getElem?, Array.getElem?_eq_getElem hl', Option.getD_some] at h1 ⊢
      simp [h1]
    intro e; rw [e] at this; cases this
   have hlen : t % rs.length < rs.length := Nat.mod_lt _ (by
    cases rs with
    | nil => exact absurd rfl aoX
    | cons _ _ => simp)
   have hi : rs[t % rs.length]? = some rs[t % rs.length] := List.getElem?_eq_getElem hlen
   generalize rs[t % rs.length] = i at hi
   obtain ⟨hir, hrd⟩ := hmem i (List.mem_of_getElem? hi)
   have hstep := λ hw => hall hw i hir hrd
   have hlt : (rem.erase i).length ≤ fuel := by rw [List.length_erase_of_mem hir]; omega
   have hgo : ∀ acc', ∃ is, Region.linearise.go .any ops fuel (t / rs.length) (listed.setIfInBounds i true) acc' = acc'.reverse ++ is := λ acc' => ⟨_, linearise_go_acc .any ops fuel (t / rs.length) (listed.setIfInBounds i true) acc'⟩
   obtain ⟨is, lH⟩ := hgo (i :: acc)
   refine ⟨i :: is, ?_, ?_⟩
   ·rw [Region.linearise.go]
    simp only [hrs, hi]
    rw [lH]; simp
   ·refine J.given ah rfl λ hw => ?_
    refine aet hk (hstep hw) λ t' R' H' hK => ?_
    obtain ⟨zX, h1, h2⟩ := VR hk hb hQ fuel (t / rs.length) (listed.setIfInBounds i true) (i :: acc) (rem.erase i) t' R' H' (hA.erase hir) hlt hK
    rw [lH] at h1
    have : is = zX := by simpa using h1
    rw [this]; exact h2
end
section
variable {P : Program} {B : Base} {main : Bool} {ah : Jd P B main}
def noSelect (o : Oper) : Bool := match o.op with | .select _ _ => false | _ => true
def looks (ops : Array Oper) (o : Oper) : List Nat :=
 (o.op.operands.toList.filterMap λ | .tmp t => some t | _ => none) ++ (match o.guard with | some (j, _) => ((ops[j]?).bind (·.dst)).toList | none => [])
def Eo (ops : Array Oper) (a b : Oper) : Bool :=
 (match a.dst with | some d => !(looks ops b).contains d && b.dst != some d | none => true) && (match b.dst with | some d => !(looks ops a).contains d | none => true)
theorem aAq {a b : Option Tmp} {v u : Value} {t : Array Value} (h : ∀ d, a = some d → b ≠ some d) : ez a v (ez b u t) = ez b u (ez a v t) := by
 cases a with
 | none => rfl
 | some x => cases b with
  | none => rfl
  | some y =>
   have hne : x ≠ y := λ e => h x rfl (by rw [e])
   simp only [ez]
   exact Array.setIfInBounds_comm u v (Ne.symm hne)
theorem ahH {c : Ctx} {t : Array Value} {dst : Option Tmp} {v : Value} {x : Operand} (h : ∀ d, dst = some d → x ≠ .tmp d) : (bl c (ez dst v t) []).eval x = (bl c t []).eval x := by
 cases dst with
 | none => rfl
 | some d => cases x with
  | tmp y =>
   have hne : d ≠ y := λ e => h d rfl (by rw [e])
   simp only [bl, Frame.eval, ez, Array.getD_eq_getD_getElem?]
   rw [Array.getElem?_setIfInBounds_ne hne]
  | _ => rfl
theorem Yf {c : Ctx} {ops : Array Oper} {t : Array Value} {dst : Option Tmp} {v : Value} {o : Oper} (hs : noSelect o = true) (h : ∀ d, dst = some d → d ∉ looks ops o) : execOp (bl c (ez dst v t) []).eval o = execOp (bl c t []).eval o := by
 refine execOp_congr o (λ cs b e => by rw [noSelect, e] at hs; cases hs) λ x hx => ahH λ d hd e => h d hd ?_
 subst e
 unfold looks
 exact List.mem_append_left _ (List.mem_filterMap.2 ⟨_, Array.mem_toList_iff.2 hx, rfl⟩)
theorem acM {ops : Array Oper} {t : Array Value} {dst : Option Tmp} {v : Value} {o : Oper} (h : ∀ d, dst = some d → d ∉ looks ops o) : Region.wanted o (yielded ops (ez dst v t)) = Region.wanted o (yielded ops t) := by
 unfold Region.wanted
 cases hg : o.guard with
 | none => rfl
 | some g =>
  obtain ⟨j, want⟩ := g
  simp only [yielded]
  cases hd : (ops[j]?).bind (·.dst) with
  | none => rfl
  | some d =>
   simp only [Option.bind_some]
   cases dst with
   | none => rfl
   | some d' =>
    have hne : d' ≠ d := λ e => h d' rfl (by
     subst e
     unfold looks
     rw [hg]
     exact List.mem_append_right _ (by simp [hd]))
    simp only [ez]
    rw [Array.getElem?_setIfInBounds_ne hne]
theorem Wx {ops : Array Oper} {a b : Oper} (h : Eo ops a b = true) : (∀ d, a.dst = some d → d ∉ looks ops b ∧ b.dst ≠ some d) ∧ (∀ d, b.dst = some d → d ∉ looks ops a) := by
 unfold Eo at h
 rw [Bool.and_eq_true] at h
 refine ⟨λ d hd => ?_, λ d hd => ?_⟩
 ·rw [hd] at h; simpa using h.1
 ·rw [hd] at h; simpa using h.2
theorem yE.ez {c : Ctx} {S : ak} {ops : Array Oper} {j : Nat} {oi oj : Oper} {t : Array Value} {v : Value} {R : aA} {H : ak} {K1 K : Array Value → aA → ak → Prop} (hj : ops[j]? = some oj) (hs : noSelect oj = true) (hap : Eo ops oi oj = true) {F : ak} (hS : ∀ p ∈ F, p ∈ H) (YB : ∀ p ∈ F, p ∈ S)
  (h : yE ah c S ops j (ez oi.dst v t) R H K1) (hK : ∀ u R' H', aO R R' → (∀ p ∈ F, p ∈ H') → K1 (Go.Lg.ez oj.dst u (Go.Lg.ez oi.dst v t)) R' H' → K (Go.Lg.ez oj.dst u t) R' H') : yE ah c S ops j t R H K := by
 obtain ⟨h1, h2⟩ := Wx hap
 obtain ⟨o, ho, hd, h⟩ := h
 obtain rfl : o = oj := Option.some.inj (ho.symm.trans hj)
 rw [acM (λ d hd => (h1 d hd).1), Yf hs (λ d hd => (h1 d hd).1)] at h
 refine ⟨o, ho, hd, ?_⟩
 rcases h with ⟨a, b⟩ | ⟨a, b | ⟨f, args, b, b'⟩⟩
 ·exact .inl ⟨a, hK _ _ _ (aO.refl _) hS b⟩
 ·exact .inr ⟨a, .inl (b.mono λ nx R' H' ⟨u, x, y, z, hk⟩ => ⟨u, x, y, z, hK _ _ _ y (λ p hp => z p (YB p hp) (hS p hp)) hk⟩)⟩
 ·exact .inr ⟨a, .inr ⟨f, args, b, b'.mono λ u R' H' ⟨y, z, hk⟩ => ⟨y, z, hK _ _ _ y (λ p hp => z p (YB p hp) (hS p hp)) hk⟩⟩⟩
def VC (P : Program) (B : Base) (S : ak) (R : aA) (ρ : Operand → Value) (o : Oper) (v : Value) : Prop :=
 ∀ R' H', aO R R' → (∀ p ∈ S, p ∈ H') → aC P B R' H' (execOp ρ o) λ nx bX cx => (nx = .value v ∨ (nx = .skip ∧ v = undef)) ∧ bX = R' ∧ cx = H'
def nQ (ops : Array Oper) (rem : List Nat) (i : Nat) (D : List Nat) : Bool :=
 rem.contains i && kU ops rem i && !D.contains i && D.all (λ j => rem.contains j && match ops[j]? with | some o => o.after.any λ e => Region.binds .any e && (e.on == i || D.contains e.on) | none => false) &&
 (match ops[i]? with | some oi => noSelect oi && rem.all (λ j => j == i || D.contains j || match ops[j]? with | some oj => noSelect oj && Eo ops oi oj | none => false) | none => false)
theorem aBH {ops : Array Oper} {rem : List Nat} {i j : Nat} {D : List Nat} (h : nQ ops rem i D = true) (hji : j ≠ i) (oh : j ∉ D) : nQ ops (rem.erase j) i D = true := by
 unfold nQ at h ⊢
 simp only [Bool.and_eq_true, Bool.not_eq_true', List.all_eq_true, List.contains_iff_mem] at h ⊢
 obtain ⟨⟨⟨⟨h1, h2⟩, h3⟩, h4⟩, h5⟩ := h
 refine ⟨⟨⟨⟨(List.mem_erase_of_ne (Ne.symm hji)).2 h1, ?_⟩, h3⟩, λ x hx => ⟨(List.mem_erase_of_ne (λ e => oh (by rw [← e]; exact hx))).2 (h4 x hx).1, (h4 x hx).2⟩⟩, ?_⟩
 ·unfold kU at h2 ⊢
  cases ho : ops[i]? with
  | none => simp [ho] at h2
  | some o =>
   simp only [ho, Array.all_eq_true_iff_forall_mem] at h2 ⊢
   intro e he
   have := h2 e he
   rcases Bool.or_eq_true_iff.1 this with x | x
   ·simp [x]
   ·have hn : e.on ∉ rem := by simpa using x
    have : e.on ∉ rem.erase j := λ hm => hn (List.mem_of_mem_erase hm)
    simp [this]
 ·cases ho : ops[i]? with
  | none => simp [ho] at h5
  | some oi =>
   simp only [ho, Bool.and_eq_true, List.all_eq_true] at h5 ⊢
   exact ⟨h5.1, λ x hx => h5.2 x (List.mem_of_mem_erase hx)⟩
theorem Wv {c : Ctx} {S : Nat → ak} {ops : Array Oper} {Q : Array Value → aA → ak → Prop} {i : Nat} {oi : Oper} {D : List Nat} {N : ak} {v : Value} (hi : ops[i]? = some oi) (hd : lI oi.op = false) : ∀ (n : Nat) (rem : List Nat) (t : Array Value) (R : aA) (H : ak),
  nQ ops rem i D = true → rem.Nodup → (∀ p ∈ N, p ∈ H) → (∀ j ∈ rem, j ≠ i → j ∉ D → ∀ p ∈ N, p ∈ S j) → ((Region.wanted oi (yielded ops t) = true ∧ VC P B N R (bl c t []).eval oi v) ∨ (Region.wanted oi (yielded ops t) = false ∧ v = undef)) → vQ ah c S ops Q n (rem.erase i) (ez oi.dst v t) R H → vQ ah c S ops Q (n + 1) rem t R H := by
 intro n
 induction n with
 | zero =>
  intro rem t R H gA cE hS uq hwf h
  unfold nQ at gA
  simp only [Bool.and_eq_true, List.contains_iff_mem] at gA
  have hmem : i ∈ rem := gA.1.1.1.1
  refine .inr ⟨(λ e => by rw [e] at hmem; cases hmem), λ _ j hj _ => ?_⟩
  have hji : j = i := by
   by_cases e : j = i
   ·exact e
   ·exact absurd ((List.mem_erase_of_ne e).2 hj) (by rw [h.1]; simp)
  subst hji
  rcases hwf with ⟨hw, hf⟩ | ⟨hw, rfl⟩
  ·exact ⟨oi, hi, hd, .inr ⟨hw, .inl ((hf R H (aO.refl _) hS).mono λ nx R' H' ⟨e1, e2, e3⟩ => by subst e2 e3; exact ⟨v, e1, aO.refl _, (λ _ _ h => h), h⟩)⟩⟩
  ·exact ⟨oi, hi, hd, .inl ⟨hw, h⟩⟩
 | succ n ih =>
  intro rem t R H gA cE hS uq hwf h
  have asf := gA
  unfold nQ at gA
  simp only [Bool.and_eq_true, List.contains_iff_mem, Bool.not_eq_true', List.all_eq_true] at gA
  obtain ⟨⟨⟨⟨hmem, aMk⟩, hiD⟩, hD⟩, hall⟩ := gA
  rw [hi] at hall
  simp only [Bool.and_eq_true, List.all_eq_true] at hall
  obtain ⟨anL, hall⟩ := hall
  refine .inr ⟨(λ e => by rw [e] at hmem; cases hmem), λ hww j hj wB => ?_⟩
  by_cases hji : j = i
  ·subst hji
   rcases hwf with ⟨hw, hf⟩ | ⟨hw, rfl⟩
   ·exact ⟨oi, hi, hd, .inr ⟨hw, .inl ((hf R H (aO.refl _) hS).mono λ nx R' H' ⟨e1, e2, e3⟩ => by subst e2 e3; exact ⟨v, e1, aO.refl _, (λ _ _ h => h), h⟩)⟩⟩
   ·exact ⟨oi, hi, hd, .inl ⟨hw, h⟩⟩
  ·
   have oh : j ∉ D := λ oh => by
    obtain ⟨_, hx⟩ := hD j oh
    unfold kU at wB
    cases ho : ops[j]? with
    | none => simp [ho] at hx
    | some o =>
     simp only [ho, Array.all_eq_true_iff_forall_mem] at wB hx
     rw [Array.any_eq_true'] at hx
     obtain ⟨e, he, hx⟩ := hx
     have hr := wB e he
     rw [Bool.and_eq_true] at hx
     have hin : e.on ∈ rem := by
      rcases Bool.or_eq_true_iff.1 hx.2 with x | x
      ·have : e.on = i := by simpa using x
       rw [this]; exact hmem
      ·have hxD : e.on ∈ D := by simpa using x
       exact (hD _ hxD).1
     simp [hx.1, hin] at hr
   have hj' := hall j hj
   have PJ : ∃ oj, ops[j]? = some oj ∧ noSelect oj = true ∧ Eo ops oi oj = true := by
    cases ho : ops[j]? with
    | none => simp [hji, oh, ho] at hj'
    | some oj => simp [hji, oh, ho] at hj'; exact ⟨oj, rfl, hj'.1, hj'.2⟩
   obtain ⟨oj, Zo, hsel, hap⟩ := PJ
   rcases h with ⟨he, _⟩ | ⟨_, aqS⟩
   ·exact absurd ((List.mem_erase_of_ne hji).2 hj) (by rw [he]; simp)
   have ant : kU ops (rem.erase i) j = true := by
    unfold kU at wB ⊢
    simp only [Zo, Array.all_eq_true_iff_forall_mem] at wB ⊢
    intro e he
    have := wB e he
    rcases Bool.or_eq_true_iff.1 this with x | x
    ·simp [x]
    ·have hn : e.on ∉ rem := by simpa using x
     have : e.on ∉ rem.erase i := λ hm => hn (List.mem_of_mem_erase hm)
     simp [this]
   have hstep := aqS hww j ((List.mem_erase_of_ne hji).2 hj) ant
   obtain ⟨ha1, YX⟩ := Wx hap
   refine yE.ez (oi := oi) (v := v) Zo hsel hap hS (uq j hj hji oh) hstep λ u R' H' hR OS hA => ?_
   refine ih (rem.erase j) (ez oj.dst u t) R' H' (aBH asf hji oh) (cE.erase _) OS (λ x hx => uq x (List.mem_of_mem_erase hx)) ?_ ?_
   ·rw [acM (λ d hd => YX d hd)]
    refine hwf.imp (λ ⟨hw, hf⟩ => ⟨hw, λ bX cx yW ajf => ?_⟩) id
    rw [Yf (ops := ops) anL (λ d hd => YX d hd)]
    exact hf bX cx (hR.trans yW) ajf
   ·rw [List.erase_comm, aAq (a := oi.dst) (b := oj.dst) (λ d hd => (ha1 d hd).2)]
    exact hA
variable {c : Ctx} {S : Nat → ak} {ops : Array Oper} {k : List Item} {R : aA} {H : ak} {st st' : St} {rem : List Nat} {n : Nat}
def Any (ah : Jd P B main) (c : Ctx) (S : Nat → ak) (ops : Array Oper) (k : List Item) (n : Nat) (rem : List Nat) (R : aA) (H : ak) (st : St) : Prop :=
 rem.Nodup ∧ ∀ tmps, e6 c.n st tmps → vQ ah c S ops (λ t R H => ah.J R H (bt (bl c t k) c.cs)) n rem tmps R H
theorem At.draw {id : Nat} {is : List Nat} {n : Nat} (S : Nat → ak) (hm : P.follows .mixedOrders = true) (hk : (c.kind == CallKind.early) = false) (hb : backward ops = true) (hn : ops.size = n) (lH : List.range n = is) (h : Any ah c S ops k n is R H st) : At ah c R H st (.code (.region id ops true) :: k) := by
 intro tmps ht
 subst hn; subst lH
 refine ah.step rfl λ w hw => ?_
 have hA : DZ ops (Array.replicate ops.size false) (List.range ops.size) := ⟨by simp, List.nodup_range, λ i => by
  simp only [List.mem_range, Array.getD_eq_getD_getElem?]
  constructor
  ·intro hi; exact ⟨hi, by simp [hi]⟩
  ·exact λ x => x.1⟩
 have key := λ t => VR (ah := ah) (k := k) hk hb (λ _ _ _ hq => hq) ops.size t _ [] _ tmps R H hA (by simp) (h.2 tmps ht)
 obtain ⟨is, h1, h2⟩ := key (if (Question.order c.fn id).forced then 0 else (Question.order c.fn id).cut (w.tape w.drawn (.order c.fn id)))
 refine ⟨bt (bl c tmps (.inRegion ops is :: k)) c.cs, { w with drawn := w.drawn + 1 }, #[], R, H, ?_, by simp, ⟨⟨hw.r, hw.h, hw.nd, hw.dj, hw.os, hw.tape, hw.out⟩, λ _ _ x => x, Nat.le_refl _, λ _ _ _ => rfl, λ _ _ x => .inl x, λ _ o x => .inl ⟨o, x⟩⟩, h2⟩
 simp only [Question.forced, Bool.false_eq_true, if_false, List.reverse_nil, List.nil_append] at h1
 simp [stepG, stepG.exec, bt, bl, choose, Sem.run, Question.forced, Region.schedule, hm, Region.linearise, h1]
theorem At.agr {id : Nat} {is : List Nat} {n : Nat} (hm : P.follows .mixedOrders = true) (hk : (c.kind == CallKind.early) = false) (hb : backward ops = true) (hn : ops.size = n) (lH : List.range n = is) (h : Any ah c (λ _ => H) ops k n is R H st) : At ah c R H st (.code (.region id ops true) :: k) := At.draw (λ _ => H) hm hk hb hn lH h
theorem l7.CW {o : Oper} {i : Nat} {tmps : Array Value} (h : l7 ah c o R H st λ R' H' st' => aO R R' ∧ (∀ p ∈ S i, p ∈ H → p ∈ H') ∧ Any ah c S ops k n rem R' H' st') (ho : ops[i]? = some o) (hw : Region.wanted o (yielded ops tmps) = true) (ht : e6 c.n st tmps) :
  yE ah c (S i) ops i tmps R H λ t' R' H' => vQ ah c S ops (λ t R H => ah.J R H (bt (bl c t k) c.cs)) n rem t' R' H' := by
 obtain ⟨hd, kN, h | ⟨f, args, h1, h2⟩⟩ := h
 ·exact ⟨o, ho, hd, .inr ⟨hw, .inl ((h _ (ht.knows c [])).mono λ nx R' H' ⟨v, hv, st', hs, hR, hS, hA⟩ => ⟨v, hv, hR, hS, hA.2 _ ((ht.put v kN).sub hs)⟩)⟩⟩
 ·exact ⟨o, ho, hd, .inr ⟨hw, .inr ⟨f, args, h1 _ (ht.knows c []), h2.mono λ v R' H' ⟨st', hs, hR, hS, hA⟩ => ⟨hR, hS, hA.2 _ ((ht.put v kN).sub hs)⟩⟩⟩⟩
theorem Any.done (h : At ah c R H st k) : Any ah c S ops k n [] R H st := ⟨List.nodup_nil, λ tmps ht => by
 cases n with
 | zero => exact ⟨rfl, h tmps ht⟩
 | succ n => exact .inl ⟨rfl, h tmps ht⟩⟩
theorem Any.take {i : Nat} {o : Oper} {v : Value} {N : ak} (D : List Nat) (ho : ops[i]? = some o) (gA : nQ ops rem i D = true) (hd : lI o.op = false) (kN : cg o.dst c.n) (hw : dG ops st o = some true) (uq : ∀ j ∈ rem, j ≠ i → j ∉ D → ∀ p ∈ N, p ∈ S j) (hS : ∀ p ∈ N, p ∈ H) (hf : ∀ ρ, Knows st ρ → VC P B N R ρ o v) (hs : aF (bS o.dst v st) st') (cE : rem.Nodup)
  {mR : List Nat} (hr : rem.erase i = mR) (h : Any ah c S ops k n mR R H st') : Any ah c S ops k (n + 1) rem R H st := by
 subst hr
 exact ⟨cE, λ tmps ht => Wv ho hd n rem tmps R H gA cE hS uq (.inl ⟨lU ht hw, hf _ (ht.knows c [])⟩) (h.2 _ ((ht.put v kN).sub hs))⟩
theorem Any.Ui {i d : Nat} {o : Oper} {v : Value} {N : ak} (D : List Nat) (ho : ops[i]? = some o) (nC : o.dst = some d) (hw : dG ops st o = some true) (gA : nQ ops rem i D = true) (uq : ∀ j ∈ rem, j ≠ i → j ∉ D → ∀ p ∈ N, p ∈ S j) (hS : ∀ p ∈ N, p ∈ H)
  (hf : ∀ R' H', aO R R' → (∀ p ∈ N, p ∈ H') → aP P B c o R' H' st λ R1 H1 xX => R1 = R' ∧ H1 = H' ∧ xX = [(d, v)]) (hs : aF ((d, v) :: st) st') (cE : rem.Nodup)
  {mR : List Nat} (hr : rem.erase i = mR) (h : Any ah c S ops k n mR R H st') : Any ah c S ops k (n + 1) rem R H st := by
 have h0 := hf R H (aO.refl _) hS
 refine Any.take (v := v) D ho gA h0.1 h0.2.1 hw uq hS (λ ρ hρ R' H' hR OS => ?_) (by rw [nC]; exact hs) cE hr h
 refine ((hf R' H' hR OS).2.2 ρ hρ).mono λ nx bX cx ⟨u, hu, xX, r8, e1, e2, e3⟩ => ?_
 subst e3
 rw [nC] at r8
 have huv : u = v := by
  have := r8 d v (by simp)
  simp only [bS, List.lookup_cons, beq_self_eq_true] at this
  exact Option.some.inj this
 subst huv
 exact ⟨hu, e1, e2⟩
theorem Any.aBG {i : Nat} {o : Oper} (D : List Nat) (ho : ops[i]? = some o) (gA : nQ ops rem i D = true) (hd : lI o.op = false) (kN : cg o.dst c.n) (hw : dG ops st o = some false) (hs : aF (bS o.dst undef st) st') (cE : rem.Nodup)
  {mR : List Nat} (hr : rem.erase i = mR) (h : Any ah c S ops k n mR R H st') : Any ah c S ops k (n + 1) rem R H st := by
 subst hr
 exact ⟨cE, λ tmps ht => Wv (v := undef) (N := []) ho hd n rem tmps R H gA cE (by simp) (by simp) (.inr ⟨lU ht hw, rfl⟩) (h.2 _ ((ht.put undef kN).sub hs))⟩
theorem Any.one {i : Nat} {o : Oper} (ho : ops[i]? = some o) (hrd : rem.filter (kU ops rem) = [i]) (hw : dG ops st o = some true) (cE : rem.Nodup) {mR : List Nat} (hr : rem.erase i = mR)
  (h : l7 ah c o R H st λ R' H' st' => aO R R' ∧ (∀ p ∈ S i, p ∈ H → p ∈ H') ∧ Any ah c S ops k n mR R' H' st') : Any ah c S ops k (n + 1) rem R H st := by
 subst hr
 refine ⟨cE, λ tmps ht => .inr ⟨(λ e => by rw [e] at hrd; cases hrd), λ _ j hj wB => ?_⟩⟩
 have : j ∈ rem.filter (kU ops rem) := List.mem_filter.2 ⟨hj, wB⟩
 rw [hrd] at this
 obtain rfl : j = i := by simpa using this
 exact h.CW ho (lU ht hw) ht
theorem aMW {H H' : ak} (h : ∀ p ∈ H, p ∈ H') {X : ak} : ∀ p ∈ H, p ∈ X → p ∈ H' := λ p hp _ => h p hp
end
end Go.Lg
namespace Go.Lg
open Go.Conc
section
variable {P : Program} {B : Base} {main : Bool} {ah : Jd P B main} {c : Ctx} {R : aA} {H H' : ak} {st st' : St} {k : List Item}
theorem Li {w : World} (hs : List.Sublist H' H) (hw : Fits B R H w) : di B R H w R H' w :=
 ⟨⟨hw.r, λ b o h => hw.h b o (hs.subset h), (hs.map _).nodup hw.nd, λ b o h => hw.dj b o (hs.subset h), hw.os, hw.tape, hw.out⟩, λ _ _ x => x, Nat.le_refl _, λ _ _ _ => rfl, λ _ _ x => .inl x, λ _ o x => .inl ⟨o, hs.subset x⟩⟩
theorem At.drop {todo : List Item} (hs : List.Sublist H' H) (h : At ah c R H' st todo) : At ah c R H st todo := At.ghost (λ _ hw => Li hs hw) h
theorem J.drop {g : Goroutine} (hs : List.Sublist H' H) (h : ah.J R H' g) : ah.J R H g := ah.ghost (λ _ hw => Li hs hw) h
theorem Hj {w : World} (hs : List.Perm H' H) (hw : Fits B R H w) : di B R H w R H' w :=
 ⟨⟨hw.r, λ b o h => hw.h b o (hs.subset h), (hs.map _).nodup_iff.2 hw.nd, λ b o h => hw.dj b o (hs.subset h), hw.os, hw.tape, hw.out⟩, λ _ _ x => x, Nat.le_refl _, λ _ _ _ => rfl, λ _ _ x => .inl x, λ _ o x => .inl ⟨o, hs.subset x⟩⟩
theorem At.perm {todo : List Item} (hs : List.Perm H' H) (h : At ah c R H' st todo) : At ah c R H st todo := At.ghost (λ _ hw => Hj hs hw) h
theorem J.perm {g : Goroutine} (hs : List.Perm H' H) (h : ah.J R H' g) : ah.J R H g := ah.ghost (λ _ hw => Hj hs hw) h
def aA.ins (R : aA) (b : Nat) (o : Obj) : aA := λ x => if x = b then some o else R x
theorem aA.aap (R : aA) (b : Nat) (o : Obj) : R.ins b o b = some o := by simp [aA.ins]
theorem aA.Kq {R : aA} {b : Nat} {o : Obj} (h : R b = none) : aO R (R.ins b o) := λ x u hx => by
 unfold aA.ins
 split
 ·subst_vars; rw [h] at hx; cases hx
 ·exact hx
theorem acf {w : World} {b : Nat} {o : Obj} (hw : Fits B R ((b, o) :: H) w) : di B R ((b, o) :: H) w (R.ins b o) H w := by
 have hb : R b = none := hw.dj b o (by simp)
 have cE := hw.nd
 rw [List.map_cons, List.nodup_cons] at cE
 refine ⟨⟨λ x u hx => ?_, λ x u hx => hw.h x u (by simp [hx]), cE.2, λ x u hx => ?_, hw.os, hw.tape, hw.out⟩, aA.Kq hb, Nat.le_refl _, λ _ _ _ => rfl, λ x u hx => ?_, λ x u hx => .inl ⟨u, by simp [hx]⟩⟩
 ·unfold aA.ins at hx
  split at hx
  ·subst_vars; cases hx; exact hw.h _ _ (by simp)
  ·exact hw.r x u hx
 ·have hne : x ≠ b := λ e => cE.1 (List.mem_map.2 ⟨(x, u), hx, e⟩)
  unfold aA.ins
  rw [if_neg hne]
  exact hw.dj x u (by simp [hx])
 ·unfold aA.ins at hx
  split at hx
  ·subst_vars; exact .inr (.inl ⟨o, by simp⟩)
  ·exact .inl hx
theorem J.freeze {g : Goroutine} {b : Nat} {o : Obj} (h : ∀ R', aO R R' → R' b = some o → ah.J R' H g) (hb : R b = none) : ah.J R ((b, o) :: H) g :=
 ah.ghost (λ _ hw => acf hw) (h _ (aA.Kq hb) (aA.aap R b o))
theorem J.aiC {fr : Frame} {cs : List Frame} {b : Nat} {o : Obj} (h : ∀ R', aO R R' → R' b = some o → ah.J R' H (bt fr cs)) : ah.J R ((b, o) :: H) (bt fr cs) := by
 cases hb : R b with
 | none => exact J.freeze h hb
 | some x =>
  refine ah.step rfl λ w hw => ?_
  have := hw.dj b o (by simp)
  rw [hb] at this
  cases this
theorem At.freeze {todo : List Item} {b : Nat} {o : Obj} (h : ∀ R', aO R R' → R' b = some o → At ah c R' H st todo) : At ah c R ((b, o) :: H) st todo :=
 λ tmps ht => J.aiC λ R' h1 h2 => h R' h1 h2 tmps ht
theorem e6.abS {n t : Nat} {x : Value} {tmps : Array Value} (hx : st.lookup t = some x) (h : e6 n st tmps) : e6 n ((t, x) :: st) tmps := by
 refine ⟨h.1, λ u v hu => ?_⟩
 rw [List.lookup_cons] at hu
 split at hu
 ·rename_i heq
  have : u = t := by simpa using heq
  subst this
  cases hu
  exact h.2 _ _ hx
 ·exact h.2 u v hu
end
theorem Cell.mono {R R' : aA} {H : ak} {a : Addr} {v : Value} (h : Cell R [] a v) (hR : aO R R') : Cell R' H a v := by
 obtain ⟨h1, cs, e, fz, h2, h3⟩ := h
 exact ⟨h1, cs, e, fz, .inl (h2.elim (hR _ _) (λ x => by cases x)), h3⟩
theorem aS.up {R R' : aA} {H : ak} {b o : Nat} {vs : List Value} (h : aS R [] b o vs) (hR : aO R R') : aS R' H b o vs := λ j v hj => (h j v hj).mono hR
theorem aS.any {R : aA} {H : ak} {b o : Nat} {vs : List Value} (h : aS R [] b o vs) : aS R H b o vs := h.up (aO.refl R)
theorem aS.one {R : aA} {H : ak} {b o j : Nat} {v : Value} {vs : List Value} (h : aS R H b o vs) (hj : vs[j]? = some v) : Cell R H ⟨b, o + j, none⟩ v := h j v hj
end Go.Lg
