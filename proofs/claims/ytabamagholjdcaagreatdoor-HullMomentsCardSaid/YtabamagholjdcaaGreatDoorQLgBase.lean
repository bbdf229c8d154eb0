/- The base of a logic of my own: a goroutine's steps in whatever company. What is known for good of memory ('R': blocks that nobody writes any more), what the goroutine owns ('H'), and nothing else of the world: a step is shown for EVERY world that fits. Conditions: none; these are definitions and small laws over any program. -/
import Derived.Conc.Beside
import Derived.Conc.Events
import Derived.Conc.Listed
namespace Go.Lg
open Go.Conc
abbrev RMap := Nat → Option Obj
abbrev HList := List (Nat × Obj)
structure Base where
 os : Os
 tape : Nat → Question → Nat
 out : Array (Nat × ByteArray)
structure Fits (B : Base) (R : RMap) (H : HList) (w : World) : Prop where
 r : ∀ b o, R b = some o → w.heap[b]? = some o
 h : ∀ b o, (b, o) ∈ H → w.heap[b]? = some o
 nd : (H.map (·.1)).Nodup
 dj : ∀ b o, (b, o) ∈ H → R b = none
 os : w.os = B.os
 tape : w.tape = B.tape
 out : w.output = B.out
theorem lt_of_heap {w : World} {b : Nat} {o : Obj} (h : w.heap[b]? = some o) : b < w.heap.size := (Array.getElem?_eq_some_iff.1 h).1
structure Upd (B : Base) (R : RMap) (H : HList) (w : World) (R' : RMap) (H' : HList) (w' : World) : Prop where
 fits : Fits B R' H' w'
 rle : ∀ b o, R b = some o → R' b = some o
 size : w.heap.size ≤ w'.heap.size
 same : ∀ b, b < w.heap.size → (∀ o, (b, o) ∉ H) → w'.heap[b]? = w.heap[b]?
 newR : ∀ b o, R' b = some o → R b = some o ∨ (∃ o', (b, o') ∈ H) ∨ w.heap.size ≤ b
 newH : ∀ b o, (b, o) ∈ H' → (∃ o', (b, o') ∈ H) ∨ w.heap.size ≤ b
theorem Upd.refl {B : Base} {R : RMap} {H : HList} {w : World} (h : Fits B R H w) : Upd B R H w R H w :=
 ⟨h, fun _ _ x => x, Nat.le_refl _, fun _ _ _ => rfl, fun _ _ x => .inl x, fun _ o x => .inl ⟨o, x⟩⟩
theorem Upd.trans {B : Base} {R R' R'' : RMap} {H H' H'' : HList} {w w' w'' : World} (h : Upd B R H w R' H' w') (k : Upd B R' H' w' R'' H'' w'') : Upd B R H w R'' H'' w'' := by
 refine ⟨k.fits, fun b o x => k.rle b o (h.rle b o x), Nat.le_trans h.size k.size, fun b hb hn => ?_, fun b o x => ?_, fun b o x => ?_⟩
 ·rw [k.same b (Nat.lt_of_lt_of_le hb h.size) (fun o ho => ?_), h.same b hb hn]
  rcases h.newH b o ho with ⟨o', ho'⟩ | hge
  ·exact hn o' ho'
  ·omega
 ·rcases k.newR b o x with x | ⟨o', x⟩ | x
  ·exact h.newR b o x
  ·exact .inr (h.newH b o' x)
  ·exact .inr (.inr (Nat.le_trans h.size x))
 ·rcases k.newH b o x with ⟨o', x⟩ | x
  ·exact h.newH b o' x
  ·exact .inr (Nat.le_trans h.size x)
def Touchable (R : RMap) (H : HList) (n : Nat) (write : Bool) (b : Nat) : Prop := (write = false ∧ (R b).isSome = true) ∨ (∃ o, (b, o) ∈ H) ∨ n ≤ b
def EvOk (R : RMap) (H : HList) (n m : Nat) (e : Event) : Prop :=
 match e.loc with
 | .cell a => e.sync = false ∧ a.block < m ∧ Touchable R H n e.write a.block
 | .obj b => e.sync = false ∧ b < m ∧ Touchable R H n e.write b
 | .mark .noRoom => True
 | _ => False
theorem Touchable.up {B : Base} {R R' : RMap} {H H' : HList} {w w' : World} (h : Upd B R H w R' H' w') {wr : Bool} {b : Nat} (k : Touchable R' H' w'.heap.size wr b) : Touchable R H w.heap.size wr b := by
 rcases k with ⟨k1, k2⟩ | ⟨o, k⟩ | k
 ·obtain ⟨o, ho⟩ := Option.isSome_iff_exists.1 k2
  rcases h.newR b o ho with x | x | x
  ·exact .inl ⟨k1, by simp [x]⟩
  ·exact .inr (.inl x)
  ·exact .inr (.inr x)
 ·exact .inr (h.newH b o k)
 ·exact .inr (.inr (Nat.le_trans h.size k))
theorem EvOk.up {B : Base} {R R' : RMap} {H H' : HList} {w w' : World} (h : Upd B R H w R' H' w') {m : Nat} {e : Event} (k : EvOk R' H' w'.heap.size m e) : EvOk R H w.heap.size m e := by
 unfold EvOk at k ⊢
 split at k
 ·exact ⟨k.1, k.2.1, k.2.2.up h⟩
 ·exact ⟨k.1, k.2.1, k.2.2.up h⟩
 ·trivial
 ·exact k.elim
theorem EvOk.more {R : RMap} {H : HList} {n m m' : Nat} {e : Event} (hm : m ≤ m') (k : EvOk R H n m e) : EvOk R H n m' e := by
 unfold EvOk at k ⊢
 split at k
 ·exact ⟨k.1, by omega, k.2.2⟩
 ·exact ⟨k.1, by omega, k.2.2⟩
 ·trivial
 ·exact k.elim
def SemOk {α : Type} (P : Program) (B : Base) (R : RMap) (H : HList) (s : Sem α) (K : α → RMap → HList → Prop) : Prop :=
 ∀ w, Fits B R H w → ∃ a w' R' H', s.run P w = .ok a w' ∧ (∀ e ∈ s.events P w #[], EvOk R H w.heap.size w'.heap.size e) ∧ Upd B R H w R' H' w' ∧ K a R' H'
section
variable {P : Program} {B : Base} {R : RMap} {H : HList}
theorem SemOk.mono {α : Type} {s : Sem α} {K K' : α → RMap → HList → Prop} (h : SemOk P B R H s K) (hk : ∀ a R' H', K a R' H' → K' a R' H') : SemOk P B R H s K' := by
 intro w hw
 obtain ⟨a, w', R', H', h1, h2, h3, h4⟩ := h w hw
 exact ⟨a, w', R', H', h1, h2, h3, hk _ _ _ h4⟩
theorem SemOk.pure {α : Type} {a : α} {K : α → RMap → HList → Prop} (h : K a R H) : SemOk P B R H (Pure.pure a : Sem α) K :=
 fun w hw => ⟨a, w, R, H, rfl, by simp, Upd.refl hw, h⟩
theorem SemOk.bind {α β : Type} {s : Sem α} {f : α → Sem β} {K : β → RMap → HList → Prop} (h : SemOk P B R H s fun a R' H' => SemOk P B R' H' (f a) K) : SemOk P B R H (s >>= f) K := by
 intro w hw
 obtain ⟨a, w', R', H', h1, h2, h3, h4⟩ := h w hw
 obtain ⟨b, w'', R'', H'', k1, k2, k3, k4⟩ := h4 w' h3.fits
 refine ⟨b, w'', R'', H'', by simp [h1, k1], fun e he => ?_, h3.trans k3, k4⟩
 rw [Sem.events_bind, h1, Result.evThen_ok, Sem.events_acc] at he
 rcases Array.mem_append.1 he with he | he
 ·exact (h2 e he).more k3.size
 ·exact (k2 e he).up h3
theorem SemOk.map {α β : Type} {s : Sem α} {f : α → β} {K : β → RMap → HList → Prop} (h : SemOk P B R H s fun a R' H' => K (f a) R' H') : SemOk P B R H (f <$> s) K := by
 intro w hw
 obtain ⟨a, w', R', H', h1, h2, h3, h4⟩ := h w hw
 exact ⟨f a, w', R', H', by simp [h1], by simpa using h2, h3, h4⟩
def Val {α : Type} (P : Program) (s : Sem α) (a : α) : Prop := ∀ w, s.run P w = .ok a w ∧ s.events P w #[] = #[]
theorem Val.ok {α : Type} {s : Sem α} {a : α} {K : α → RMap → HList → Prop} (h : Val P s a) (hk : K a R H) : SemOk P B R H s K :=
 fun w hw => ⟨a, w, R, H, (h w).1, by rw [(h w).2]; simp, Upd.refl hw, hk⟩
theorem Val.pure {α : Type} (a : α) : Val P (Pure.pure a : Sem α) a := fun _ => ⟨rfl, rfl⟩
theorem Val.bind {α β : Type} {s : Sem α} {f : α → Sem β} {a : α} {b : β} (h : Val P s a) (k : Val P (f a) b) : Val P (s >>= f) b :=
 fun w => ⟨by simp [(h w).1, (k w).1], by rw [Sem.events_bind, (h w).1, (h w).2]; exact (k w).2⟩
theorem Val.map {α β : Type} {s : Sem α} {f : α → β} {a : α} (h : Val P s a) : Val P (f <$> s) (f a) :=
 fun w => ⟨by simp [(h w).1], by simpa using (h w).2⟩
theorem Val.program : Val P program P := fun _ => ⟨rfl, rfl⟩
theorem Val.underlying {t : TypeId} {d : TypeDesc} (h : P.underlying t = some d) : Val P (underlying t) d := fun w => ⟨by simp [Go.underlying, h], by simp⟩
theorem Val.typeInfo {t : TypeId} {i : TypeInfo} (h : P.info? t = some i) : Val P (typeInfo t) i := fun w => ⟨by simp [Go.typeInfo, h], by simp⟩
theorem Val.bindOk {α β : Type} {s : Sem α} {f : α → Sem β} {a : α} {K : β → RMap → HList → Prop} (h : Val P s a) (hk : SemOk P B R H (f a) K) : SemOk P B R H (s >>= f) K :=
 SemOk.bind (h.ok hk)
def Cell (R : RMap) (H : HList) (a : Addr) (v : Value) : Prop :=
 a.spot = none ∧ ∃ cs e fz, (R a.block = some (.cells cs e fz) ∨ (a.block, Obj.cells cs e fz) ∈ H) ∧ cs[a.off]? = some v
theorem Cell.at_ {w : World} {a : Addr} {v : Value} (h : Cell R H a v) (hw : Fits B R H w) : w.cell? a = some v := by
 obtain ⟨hs, cs, e, fz, h1, h2⟩ := h
 have hh : w.heap[a.block]? = some (.cells cs e fz) := h1.elim (hw.r _ _) (hw.h _ _)
 simp [World.cell?, hh, hs, h2]
theorem Cell.touch {a : Addr} {v : Value} (h : Cell R H a v) (n : Nat) : Touchable R H n false a.block := by
 obtain ⟨_, cs, e, fz, h1, _⟩ := h
 rcases h1 with h1 | h1
 ·exact .inl ⟨rfl, by simp [h1]⟩
 ·exact .inr (.inl ⟨_, h1⟩)
theorem lt_of_cell {w : World} {a : Addr} {v : Value} (h : w.cell? a = some v) : a.block < w.heap.size := by
 unfold World.cell? at h
 split at h
 ·exact lt_of_heap ‹_›
 ·cases h
theorem SemOk.load {a : Addr} {v : Value} {K : Value → RMap → HList → Prop} (h : Cell R H a v) (hk : K v R H) : SemOk P B R H (load a) K := by
 intro w hw
 have hc := h.at_ hw
 refine ⟨v, w, R, H, by simp [hc], ?_, Upd.refl hw, hk⟩
 intro e he
 simp only [events_load, hc] at he
 simp at he
 subst he
 exact ⟨rfl, lt_of_cell hc, h.touch _⟩
theorem SemOk.new {o : Obj} {K : Nat → RMap → HList → Prop} (hk : ∀ r, R r = none → (∀ x, (r, x) ∉ H) → K r R ((r, o) :: H)) : SemOk P B R H (newObj o) K := by
 intro w hw
 have hR : R w.heap.size = none := by
  cases h : R w.heap.size with
  | none => rfl
  | some x => exact absurd (lt_of_heap (hw.r _ _ h)) (Nat.lt_irrefl _)
 have hH : ∀ x, (w.heap.size, x) ∉ H := fun x hx => absurd (lt_of_heap (hw.h _ _ hx)) (Nat.lt_irrefl _)
 have hget : ∀ b (x : Obj), w.heap[b]? = some x → (w.heap.push o)[b]? = some x := fun b x hx => by
  have := lt_of_heap hx
  rw [Array.getElem?_push]
  rw [if_neg (by omega)]; exact hx
 refine ⟨w.heap.size, { w with heap := w.heap.push o }, R, (w.heap.size, o) :: H, by simp, by simp, ⟨⟨?_, ?_, ?_, ?_, hw.os, hw.tape, hw.out⟩, fun _ _ x => x, by simp, ?_, fun _ _ x => .inl x, ?_⟩, hk _ hR hH⟩
 ·exact fun b x hx => hget b x (hw.r b x hx)
 ·intro b x hx
  rcases List.mem_cons.1 hx with hx | hx
  ·cases hx; simp
  ·exact hget b x (hw.h b x hx)
 ·rw [List.map_cons, List.nodup_cons]
  refine ⟨fun hm => ?_, hw.nd⟩
  obtain ⟨p, hp, he⟩ := List.mem_map.1 hm
  have he' : p.1 = w.heap.size := he
  exact hH p.2 (by rw [← he']; exact hp)
 ·intro b x hx
  rcases List.mem_cons.1 hx with hx | hx
  ·cases hx; exact hR
  ·exact hw.dj b x hx
 ·intro b hb _
  show (w.heap.push o)[b]? = _
  rw [Array.getElem?_push, if_neg (by omega)]
 ·intro b x hx
  rcases List.mem_cons.1 hx with hx | hx
  ·cases hx; exact .inr (Nat.le_refl _)
  ·exact .inl ⟨x, hx⟩
inductive HSet : HList → Nat → Obj → Obj → HList → Prop
 | here {b : Nat} {o o' : Obj} {H : HList} : HSet ((b, o) :: H) b o o' ((b, o') :: H)
 | there {b : Nat} {o o' : Obj} {p : Nat × Obj} {H H' : HList} : HSet H b o o' H' → HSet (p :: H) b o o' (p :: H')
theorem HSet.keys {H H' : HList} {b : Nat} {o o' : Obj} (h : HSet H b o o' H') : H'.map (·.1) = H.map (·.1) := by
 induction h with
 | here => rfl
 | there _ ih => simp [ih]
theorem HSet.mem {H H' : HList} {b : Nat} {o o' : Obj} (h : HSet H b o o' H') : (b, o) ∈ H := by
 induction h with
 | here => simp
 | there _ ih => exact List.mem_cons_of_mem _ ih
theorem HSet.old {H H' : HList} {b : Nat} {o o' : Obj} (h : HSet H b o o' H') (hn : (H.map (·.1)).Nodup) : ∀ c x, (c, x) ∈ H' → (c = b ∧ x = o') ∨ (c ≠ b ∧ (c, x) ∈ H) := by
 induction h with
 | @here b o o' H =>
  intro c x hx
  rw [List.map_cons, List.nodup_cons] at hn
  rcases List.mem_cons.1 hx with hx1 | hx1
  ·cases hx1; exact .inl ⟨rfl, rfl⟩
  ·refine .inr ⟨fun e => hn.1 ?_, List.mem_cons_of_mem _ hx1⟩
   rw [← e]
   exact List.mem_map.2 ⟨(c, x), hx1, rfl⟩
 | @there b o o' p H H' hs ih =>
  intro c x hx
  rw [List.map_cons, List.nodup_cons] at hn
  rcases List.mem_cons.1 hx with hx | hx
  ·subst hx
   refine .inr ⟨fun e => hn.1 ?_, by simp⟩
   simp only at e ⊢
   subst e
   exact List.mem_map.2 ⟨_, hs.mem, rfl⟩
  ·exact (ih hn.2 c x hx).imp id fun y => ⟨y.1, List.mem_cons_of_mem _ y.2⟩
theorem Fits.hset {H' : HList} {b : Nat} {o o' : Obj} {w : World} (hw : Fits B R H w) (h : HSet H b o o' H') :
  Upd B R H w R H' { w with heap := w.heap.setIfInBounds b o' } := by
 have hb : w.heap[b]? = some o := hw.h _ _ h.mem
 have hlt := lt_of_heap hb
 have hne : ∀ c, c ≠ b → (w.heap.setIfInBounds b o')[c]? = w.heap[c]? := fun c hc => Array.getElem?_setIfInBounds_ne (by omega)
 refine ⟨⟨?_, ?_, by rw [h.keys]; exact hw.nd, ?_, hw.os, hw.tape, hw.out⟩, fun _ _ x => x, by simp, ?_, fun _ _ x => .inl x, ?_⟩
 ·intro c x hx
  show (w.heap.setIfInBounds b o')[c]? = _
  rw [hne c (fun e => by subst e; have := hw.dj _ _ h.mem; rw [hx] at this; cases this)]
  exact hw.r c x hx
 ·intro c x hx
  show (w.heap.setIfInBounds b o')[c]? = _
  rcases h.old hw.nd c x hx with ⟨rfl, rfl⟩ | ⟨hc, hx⟩
  ·rw [Array.getElem?_setIfInBounds_self_of_lt hlt]
  ·rw [hne c hc]; exact hw.h c x hx
 ·intro c x hx
  rcases h.old hw.nd c x hx with ⟨rfl, _⟩ | ⟨_, hx⟩
  ·exact hw.dj _ _ h.mem
  ·exact hw.dj c x hx
 ·intro c _ hn
  exact hne c (fun e => by subst e; exact hn _ h.mem)
 ·intro c x hx
  rcases h.old hw.nd c x hx with ⟨rfl, _⟩ | ⟨_, hx⟩
  ·exact .inl ⟨_, h.mem⟩
  ·exact .inl ⟨_, hx⟩
theorem SemOk.store {a : Addr} {v : Value} {cs : Array Value} {e : TypeId} {H' : HList} {K : Unit → RMap → HList → Prop} (h1 : v.oneCell' = true) (ha : a.spot = none) (hlt : a.off < cs.size)
  (hs : HSet H a.block (.cells cs e (0, 0)) (.cells (cs.setIfInBounds a.off v) e (0, 0)) H') (hk : K () R H') : SemOk P B R H (store a v) K := by
 intro w hw
 have hb : w.heap[a.block]? = some (.cells cs e (0, 0)) := hw.h _ _ hs.mem
 have hc : w.cell? a = some cs[a.off] := by simp [World.cell?, hb, ha, hlt]
 have hf : w.frozen? a = false := by simp [World.frozen?, hb]
 have hset : w.setCell a v = { w with heap := w.heap.setIfInBounds a.block (.cells (cs.setIfInBounds a.off v) e (0, 0)) } := by
  simp only [World.setCell]
  congr 1
  apply Array.ext_getElem?
  intro i
  rw [Array.getElem?_modify]
  by_cases hi : a.block = i
  ·subst hi
   rw [Array.getElem?_setIfInBounds_self_of_lt (lt_of_heap hb), hb]
   simp [ha]
  ·simp [hi, Array.getElem?_setIfInBounds_ne hi]
 refine ⟨(), w.setCell a v, R, H', by rw [run_store P w a v _ h1]; simp [hc, hf], ?_, ?_, hk⟩
 ·intro e he
  rw [events_store P w #[] a v _ h1] at he
  simp [hc, hf] at he
  subst he
  refine ⟨rfl, ?_, .inr (.inl ⟨_, hs.mem⟩)⟩
  simpa [World.setCell] using lt_of_heap hb
 ·rw [hset]; exact hw.hset hs
def Obj.plain : Obj → Bool
 | .cells .. => false
 | .chan .. => false
 | _ => true
theorem SemOk.getObj {r : Nat} {o : Obj} {K : Obj → RMap → HList → Prop} (ho : Obj.plain o = true) (h : R r = some o ∨ (r, o) ∈ H) (hk : K o R H) : SemOk P B R H (getObj r) K := by
 intro w hw
 have hh : w.heap[r]? = some o := h.elim (hw.r _ _) (hw.h _ _)
 have hrun : (Go.getObj r).run P w = .ok o w := by
  cases o <;> simp_all [Obj.plain, Go.getObj, Sem.run]
 have hev : (Go.getObj r).events P w #[] = #[⟨.obj r, false, false⟩] := by
  cases o <;> simp_all [Obj.plain, Go.getObj, Sem.events, Sem.runT, Obj.isChan, -Sem.runT_eq]
 refine ⟨o, w, R, H, hrun, ?_, Upd.refl hw, hk⟩
 intro e he
 rw [hev] at he
 simp at he
 subst he
 exact ⟨rfl, lt_of_heap hh, h.elim (fun x => .inl ⟨rfl, by simp [x]⟩) (fun x => .inr (.inl ⟨_, x⟩))⟩
theorem SemOk.setObj {r : Nat} {o o' : Obj} {H' : HList} {K : Unit → RMap → HList → Prop} (ho : Obj.plain o = true) (ho' : Obj.plain o' = true) (hs : HSet H r o o' H') (hk : K () R H') : SemOk P B R H (setObj r o') K := by
 intro w hw
 have hh : w.heap[r]? = some o := hw.h _ _ hs.mem
 have hrun : (Go.setObj r o').run P w = .ok () { w with heap := w.heap.setIfInBounds r o' } := by
  cases o <;> simp_all [Obj.plain, Go.setObj, Sem.run]
 have hev : (Go.setObj r o').events P w #[] = #[⟨.obj r, true, false⟩] := by
  cases o <;> simp_all [Obj.plain, Go.setObj, Sem.events, Sem.runT, -Sem.runT_eq] <;> (cases o' <;> simp_all [Obj.isChan])
 refine ⟨(), _, R, H', hrun, ?_, hw.hset hs, hk⟩
 intro e he
 rw [hev] at he
 simp at he
 subst he
 exact ⟨rfl, by simpa using lt_of_heap hh, .inr (.inl ⟨_, hs.mem⟩)⟩
theorem SemOk.choose {q : Question} {K : Nat → RMap → HList → Prop} (hk : ∀ t, K (if q.forced then 0 else q.cut t) R H) : SemOk P B R H (choose q) K := by
 intro w hw
 cases hf : q.forced with
 | true =>
  have := hk 0
  rw [hf] at this
  exact ⟨0, w, R, H, by simp [Go.choose, Sem.run, hf], by simp, Upd.refl hw, by simpa using this⟩
 | false =>
  have := hk (w.tape w.drawn q)
  rw [hf] at this
  exact ⟨q.cut (w.tape w.drawn q), { w with drawn := w.drawn + 1 }, R, H, by simp [Go.choose, Sem.run, hf], by simp, ⟨⟨hw.r, hw.h, hw.nd, hw.dj, hw.os, hw.tape, hw.out⟩, fun _ _ x => x, Nat.le_refl _, fun _ _ _ => rfl, fun _ _ x => .inl x, fun _ o x => .inl ⟨o, x⟩⟩, by simpa using this⟩
theorem SemOk.markRoom {K : Unit → RMap → HList → Prop} (hk : K () R H) : SemOk P B R H (mark .noRoom) K :=
 fun w hw => ⟨(), w, R, H, rfl, by simp [EvOk], Upd.refl hw, hk⟩
theorem SemOk.shape {r : Nat} {K : Option (TypeId × Nat) → RMap → HList → Prop} (hk : ∀ x, K x R H) : SemOk P B R H (shape r) K :=
 fun w hw => ⟨_, w, R, H, rfl, by simp, Upd.refl hw, hk _⟩
end
end Go.Lg
