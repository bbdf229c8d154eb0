/- The base of a logic of goroutines in company. Conditions: none. -/
import Derived.Conc.Beside
import Derived.Conc.Events
import Derived.Conc.Listed
import Derived.Orders
namespace Go.Lg
open Go.Conc
abbrev RMap := Nat → Option Obj
abbrev HList := List (Nat × Obj)
structure Base where
 os : Os
 tape : Nat → Question → Nat
 out : Array (Nat × ByteArray)
structure Fits (B : Base) (R : RMap) (H : HList) (w : World) : Prop where
 r : ∀ b o, R b = some o → w.heap[b]? = some o
 h : ∀ b o, (b, o) ∈ H → w.heap[b]? = some o
 nd : (H.map (·.1)).Nodup
 dj : ∀ b o, (b, o) ∈ H → R b = none
 os : w.os = B.os
 tape : w.tape = B.tape
 out : w.output = B.out
theorem lt_of_heap {w : World} {b : Nat} {o : Obj} (h : w.heap[b]? = some o) : b < w.heap.size := (Array.getElem?_eq_some_iff.1 h).1
structure Upd (B : Base) (R : RMap) (H : HList) (w : World) (R' : RMap) (H' : HList) (w' : World) : Prop where
 fits : Fits B R' H' w'
 rle : ∀ b o, R b = some o → R' b = some o
 size : w.heap.size ≤ w'.heap.size
 same : ∀ b, b < w.heap.size → (∀ o, (b, o) ∉ H) → w'.heap[b]? = w.heap[b]?
 newR : ∀ b o, R' b = some o → R b = some o ∨ (∃ o', (b, o') ∈ H) ∨ w.heap.size ≤ b
 newH : ∀ b o, (b, o) ∈ H' → (∃ o', (b, o') ∈ H) ∨ w.heap.size ≤ b
theorem Upd.refl {B : Base} {R : RMap} {H : HList} {w : World} (h : Fits B R H w) : Upd B R H w R H w :=
 ⟨h, fun _ _ x => x, Nat.le_refl _, fun _ _ _ => rfl, fun _ _ x => .inl x, fun _ o x => .inl ⟨o, x⟩⟩
theorem Upd.trans {B : Base} {R R' R'' : RMap} {H H' H'' : HList} {w w' w'' : World} (h : Upd B R H w R' H' w') (k : Upd B R' H' w' R'' H'' w'') : Upd B R H w R'' H'' w'' := by
 refine ⟨k.fits, fun b o x => k.rle b o (h.rle b o x), Nat.le_trans h.size k.size, fun b hb hn => ?_, fun b o x => ?_, fun b o x => ?_⟩
 ·rw [k.same b (Nat.lt_of_lt_of_le hb h.size) (fun o ho => ?_), h.same b hb hn]
  rcases h.newH b o ho with ⟨o', ho'⟩ | hge
  ·exact hn o' ho'
  ·omega
 ·rcases k.newR b o x with x | ⟨o', x⟩ | x
  ·exact h.newR b o x
  ·exact .inr (h.newH b o' x)
  ·exact .inr (.inr (Nat.le_trans h.size x))
 ·rcases k.newH b o x with ⟨o', x⟩ | x
  ·exact h.newH b o' x
  ·exact .inr (Nat.le_trans h.size x)
def Touchable (R : RMap) (H : HList) (n : Nat) (write : Bool) (b : Nat) : Prop := (write = false ∧ (R b).isSome = true) ∨ (∃ o, (b, o) ∈ H) ∨ n ≤ b
def EvOk (R : RMap) (H : HList) (n m : Nat) (e : Event) : Prop :=
 match e.loc with
 | .cell a => e.sync = false ∧ a.block < m ∧ Touchable R H n e.write a.block
 | .obj b => e.sync = false ∧ b < m ∧ Touchable R H n e.write b
 | .mark .noRoom => True
 | _ => False
theorem Touchable.up {B : Base} {R R' : RMap} {H H' : HList} {w w' : World} (h : Upd B R H w R' H' w') {wr : Bool} {b : Nat} (k : Touchable R' H' w'.heap.size wr b) : Touchable R H w.heap.size wr b := by
 rcases k with ⟨k1, k2⟩ | ⟨o, k⟩ | k
 ·obtain ⟨o, ho⟩ := Option.isSome_iff_exists.1 k2
  rcases h.newR b o ho with x | x | x
  ·exact .inl ⟨k1, by simp [x]⟩
  ·exact .inr (.inl x)
  ·exact .inr (.inr x)
 ·exact .inr (h.newH b o k)
 ·exact .inr (.inr (Nat.le_trans h.size k))
theorem EvOk.up {B : Base} {R R' : RMap} {H H' : HList} {w w' : World} (h : Upd B R H w R' H' w') {m : Nat} {e : Event} (k : EvOk R' H' w'.heap.size m e) : EvOk R H w.heap.size m e := by
 unfold EvOk at k ⊢
 split at k
 ·exact ⟨k.1, k.2.1, k.2.2.up h⟩
 ·exact ⟨k.1, k.2.1, k.2.2.up h⟩
 ·trivial
 ·exact k.elim
theorem EvOk.more {R : RMap} {H : HList} {n m m' : Nat} {e : Event} (hm : m ≤ m') (k : EvOk R H n m e) : EvOk R H n m' e := by
 unfold EvOk at k ⊢
 split at k
 ·exact ⟨k.1, by omega, k.2.2⟩
 ·exact ⟨k.1, by omega, k.2.2⟩
 ·trivial
 ·exact k.elim
def SemOk {α : Type} (P : Program) (B : Base) (R : RMap) (H : HList) (s : Sem α) (K : α → RMap → HList → Prop) : Prop :=
 ∀ w, Fits B R H w → ∃ a w' R' H', s.run P w = .ok a w' ∧ (∀ e ∈ s.events P w #[], EvOk R H w.heap.size w'.heap.size e) ∧ Upd B R H w R' H' w' ∧ K a R' H'
section
variable {P : Program} {B : Base} {R : RMap} {H : HList}
theorem SemOk.mono {α : Type} {s : Sem α} {K K' : α → RMap → HList → Prop} (h : SemOk P B R H s K) (hk : ∀ a R' H', K a R' H' → K' a R' H') : SemOk P B R H s K' := by
 intro w hw
 obtain ⟨a, w', R', H', h1, h2, h3, h4⟩ := h w hw
 exact ⟨a, w', R', H', h1, h2, h3, hk _ _ _ h4⟩
theorem SemOk.pure {α : Type} {a : α} {K : α → RMap → HList → Prop} (h : K a R H) : SemOk P B R H (Pure.pure a : Sem α) K :=
 fun w hw => ⟨a, w, R, H, rfl, by simp, Upd.refl hw, h⟩
theorem SemOk.bind {α β : Type} {s : Sem α} {f : α → Sem β} {K : β → RMap → HList → Prop} (h : SemOk P B R H s fun a R' H' => SemOk P B R' H' (f a) K) : SemOk P B R H (s >>= f) K := by
 intro w hw
 obtain ⟨a, w', R', H', h1, h2, h3, h4⟩ := h w hw
 obtain ⟨b, w'', R'', H'', k1, k2, k3, k4⟩ := h4 w' h3.fits
 refine ⟨b, w'', R'', H'', by simp [h1, k1], fun e he => ?_, h3.trans k3, k4⟩
 rw [Sem.events_bind, h1, Result.evThen_ok, Sem.events_acc] at he
 rcases Array.mem_append.1 he with he | he
 ·exact (h2 e he).more k3.size
 ·exact (k2 e he).up h3
theorem SemOk.map {α β : Type} {s : Sem α} {f : α → β} {K : β → RMap → HList → Prop} (h : SemOk P B R H s fun a R' H' => K (f a) R' H') : SemOk P B R H (f <$> s) K := by
 intro w hw
 obtain ⟨a, w', R', H', h1, h2, h3, h4⟩ := h w hw
 exact ⟨f a, w', R', H', by simp [h1], by simpa using h2, h3, h4⟩
def Val {α : Type} (P : Program) (s : Sem α) (a : α) : Prop := ∀ w, s.run P w = .ok a w ∧ s.events P w #[] = #[]
theorem Val.ok {α : Type} {s : Sem α} {a : α} {K : α → RMap → HList → Prop} (h : Val P s a) (hk : K a R H) : SemOk P B R H s K :=
 fun w hw => ⟨a, w, R, H, (h w).1, by rw [(h w).2]; simp, Upd.refl hw, hk⟩
theorem Val.pure {α : Type} (a : α) : Val P (Pure.pure a : Sem α) a := fun _ => ⟨rfl, rfl⟩
theorem Val.bind {α β : Type} {s : Sem α} {f : α → Sem β} {a : α} {b : β} (h : Val P s a) (k : Val P (f a) b) : Val P (s >>= f) b :=
 fun w => ⟨by simp [(h w).1, (k w).1], by rw [Sem.events_bind, (h w).1, (h w).2]; exact (k w).2⟩
theorem Val.map {α β : Type} {s : Sem α} {f : α → β} {a : α} (h : Val P s a) : Val P (f <$> s) (f a) :=
 fun w => ⟨by simp [(h w).1], by simpa using (h w).2⟩
theorem Val.program : Val P program P := fun _ => ⟨rfl, rfl⟩
theorem Val.underlying {t : TypeId} {d : TypeDesc} (h : P.underlying t = some d) : Val P (underlying t) d := fun w => ⟨by simp [Go.underlying, h], by simp⟩
theorem Val.typeInfo {t : TypeId} {i : TypeInfo} (h : P.info? t = some i) : Val P (typeInfo t) i := fun w => ⟨by simp [Go.typeInfo, h], by simp⟩
theorem Val.bindOk {α β : Type} {s : Sem α} {f : α → Sem β} {a : α} {K : β → RMap → HList → Prop} (h : Val P s a) (hk : SemOk P B R H (f a) K) : SemOk P B R H (s >>= f) K :=
 SemOk.bind (h.ok hk)
def Cell (R : RMap) (H : HList) (a : Addr) (v : Value) : Prop :=
 a.spot = none ∧ ∃ cs e fz, (R a.block = some (.cells cs e fz) ∨ (a.block, Obj.cells cs e fz) ∈ H) ∧ cs[a.off]? = some v
theorem Cell.at_ {w : World} {a : Addr} {v : Value} (h : Cell R H a v) (hw : Fits B R H w) : w.cell? a = some v := by
 obtain ⟨hs, cs, e, fz, h1, h2⟩ := h
 have hh : w.heap[a.block]? = some (.cells cs e fz) := h1.elim (hw.r _ _) (hw.h _ _)
 simp [World.cell?, hh, hs, h2]
theorem Cell.touch {a : Addr} {v : Value} (h : Cell R H a v) (n : Nat) : Touchable R H n false a.block := by
 obtain ⟨_, cs, e, fz, h1, _⟩ := h
 rcases h1 with h1 | h1
 ·exact .inl ⟨rfl, by simp [h1]⟩
 ·exact .inr (.inl ⟨_, h1⟩)
theorem lt_of_cell {w : World} {a : Addr} {v : Value} (h : w.cell? a = some v) : a.block < w.heap.size := by
 unfold World.cell? at h
 split at h
 ·exact lt_of_heap ‹_›
 ·cases h
theorem SemOk.load {a : Addr} {v : Value} {K : Value → RMap → HList → Prop} (h : Cell R H a v) (hk : K v R H) : SemOk P B R H (load a) K := by
 intro w hw
 have hc := h.at_ hw
 refine ⟨v, w, R, H, by simp [hc], ?_, Upd.refl hw, hk⟩
 intro e he
 simp only [events_load, hc] at he
 simp at he
 subst he
 exact ⟨rfl, lt_of_cell hc, h.touch _⟩
theorem SemOk.new {o : Obj} {K : Nat → RMap → HList → Prop} (hk : ∀ r, R r = none → (∀ x, (r, x) ∉ H) → K r R ((r, o) :: H)) : SemOk P B R H (newObj o) K := by
 intro w hw
 have hR : R w.heap.size = none := by
  cases h : R w.heap.size with
  | none => rfl
  | some x => exact absurd (lt_of_heap (hw.r _ _ h)) (Nat.lt_irrefl _)
 have hH : ∀ x, (w.heap.size, x) ∉ H := fun x hx => absurd (lt_of_heap (hw.h _ _ hx)) (Nat.lt_irrefl _)
 have hget : ∀ b (x : Obj), w.heap[b]? = some x → (w.heap.push o)[b]? = some x := fun b x hx => by
  have := lt_of_heap hx
  rw [Array.getElem?_push]
  rw [if_neg (by omega)]; exact hx
 refine ⟨w.heap.size, { w with heap := w.heap.push o }, R, (w.heap.size, o) :: H, by simp, by simp, ⟨⟨?_, ?_, ?_, ?_, hw.os, hw.tape, hw.out⟩, fun _ _ x => x, by simp, ?_, fun _ _ x => .inl x, ?_⟩, hk _ hR hH⟩
 ·exact fun b x hx => hget b x (hw.r b x hx)
 ·intro b x hx
  rcases List.mem_cons.1 hx with hx | hx
  ·cases hx; simp
  ·exact hget b x (hw.h b x hx)
 ·rw [List.map_cons, List.nodup_cons]
  refine ⟨fun hm => ?_, hw.nd⟩
  obtain ⟨p, hp, he⟩ := List.mem_map.1 hm
  have he' : p.1 = w.heap.size := he
  exact hH p.2 (by rw [← he']; exact hp)
 ·intro b x hx
  rcases List.mem_cons.1 hx with hx | hx
  ·cases hx; exact hR
  ·exact hw.dj b x hx
 ·intro b hb _
  show (w.heap.push o)[b]? = _
  rw [Array.getElem?_push, if_neg (by omega)]
 ·intro b x hx
  rcases List.mem_cons.1 hx with hx | hx
  ·cases hx; exact .inr (Nat.le_refl _)
  ·exact .inl ⟨x, hx⟩
inductive HSet : HList → Nat → Obj → Obj → HList → Prop
 | here {b : Nat} {o o' : Obj} {H : HList} : HSet ((b, o) :: H) b o o' ((b, o') :: H)
 | there {b : Nat} {o o' : Obj} {p : Nat × Obj} {H H' : HList} : HSet H b o o' H' → HSet (p :: H) b o o' (p :: H')
theorem HSet.keys {H H' : HList} {b : Nat} {o o' : Obj} (h : HSet H b o o' H') : H'.map (·.1) = H.map (·.1) := by
 induction h with
 | here => rfl
 | there _ ih => simp [ih]
theorem HSet.mem {H H' : HList} {b : Nat} {o o' : Obj} (h : HSet H b o o' H') : (b, o) ∈ H := by
 induction h with
 | here => simp
 | there _ ih => exact List.mem_cons_of_mem _ ih
theorem HSet.old {H H' : HList} {b : Nat} {o o' : Obj} (h : HSet H b o o' H') (hn : (H.map (·.1)).Nodup) : ∀ c x, (c, x) ∈ H' → (c = b ∧ x = o') ∨ (c ≠ b ∧ (c, x) ∈ H) := by
 induction h with
 | @here b o o' H =>
  intro c x hx
  rw [List.map_cons, List.nodup_cons] at hn
  rcases List.mem_cons.1 hx with hx1 | hx1
  ·cases hx1; exact .inl ⟨rfl, rfl⟩
  ·refine .inr ⟨fun e => hn.1 ?_, List.mem_cons_of_mem _ hx1⟩
   rw [← e]
   exact List.mem_map.2 ⟨(c, x), hx1, rfl⟩
 | @there b o o' p H H' hs ih =>
  intro c x hx
  rw [List.map_cons, List.nodup_cons] at hn
  rcases List.mem_cons.1 hx with hx | hx
  ·subst hx
   refine .inr ⟨fun e => hn.1 ?_, by simp⟩
   simp only at e ⊢
   subst e
   exact List.mem_map.2 ⟨_, hs.mem, rfl⟩
  ·exact (ih hn.2 c x hx).imp id fun y => ⟨y.1, List.mem_cons_of_mem _ y.2⟩
theorem Fits.hset {H' : HList} {b : Nat} {o o' : Obj} {w : World} (hw : Fits B R H w) (h : HSet H b o o' H') :
  Upd B R H w R H' { w with heap := w.heap.setIfInBounds b o' } := by
 have hb : w.heap[b]? = some o := hw.h _ _ h.mem
 have hlt := lt_of_heap hb
 have hne : ∀ c, c ≠ b → (w.heap.setIfInBounds b o')[c]? = w.heap[c]? := fun c hc => Array.getElem?_setIfInBounds_ne (by omega)
 refine ⟨⟨?_, ?_, by rw [h.keys]; exact hw.nd, ?_, hw.os, hw.tape, hw.out⟩, fun _ _ x => x, by simp, ?_, fun _ _ x => .inl x, ?_⟩
 ·intro c x hx
  show (w.heap.setIfInBounds b o')[c]? = _
  rw [hne c (fun e => by subst e; have := hw.dj _ _ h.mem; rw [hx] at this; cases this)]
  exact hw.r c x hx
 ·intro c x hx
  show (w.heap.setIfInBounds b o')[c]? = _
  rcases h.old hw.nd c x hx with ⟨rfl, rfl⟩ | ⟨hc, hx⟩
  ·rw [Array.getElem?_setIfInBounds_self_of_lt hlt]
  ·rw [hne c hc]; exact hw.h c x hx
 ·intro c x hx
  rcases h.old hw.nd c x hx with ⟨rfl, _⟩ | ⟨_, hx⟩
  ·exact hw.dj _ _ h.mem
  ·exact hw.dj c x hx
 ·intro c _ hn
  exact hne c (fun e => by subst e; exact hn _ h.mem)
 ·intro c x hx
  rcases h.old hw.nd c x hx with ⟨rfl, _⟩ | ⟨_, hx⟩
  ·exact .inl ⟨_, h.mem⟩
  ·exact .inl ⟨_, hx⟩
theorem SemOk.store {a : Addr} {v : Value} {cs : Array Value} {e : TypeId} {H' : HList} {K : Unit → RMap → HList → Prop} (h1 : v.oneCell' = true) (ha : a.spot = none) (hlt : a.off < cs.size)
  (hs : HSet H a.block (.cells cs e (0, 0)) (.cells (cs.setIfInBounds a.off v) e (0, 0)) H') (hk : K () R H') : SemOk P B R H (store a v) K := by
 intro w hw
 have hb : w.heap[a.block]? = some (.cells cs e (0, 0)) := hw.h _ _ hs.mem
 have hc : w.cell? a = some cs[a.off] := by simp [World.cell?, hb, ha, hlt]
 have hf : w.frozen? a = false := by simp [World.frozen?, hb]
 have hset : w.setCell a v = { w with heap := w.heap.setIfInBounds a.block (.cells (cs.setIfInBounds a.off v) e (0, 0)) } := by
  simp only [World.setCell]
  congr 1
  apply Array.ext_getElem?
  intro i
  rw [Array.getElem?_modify]
  by_cases hi : a.block = i
  ·subst hi
   rw [Array.getElem?_setIfInBounds_self_of_lt (lt_of_heap hb), hb]
   simp [ha]
  ·simp [hi, Array.getElem?_setIfInBounds_ne hi]
 refine ⟨(), w.setCell a v, R, H', by rw [run_store P w a v _ h1]; simp [hc, hf], ?_, ?_, hk⟩
 ·intro e he
  rw [events_store P w #[] a v _ h1] at he
  simp [hc, hf] at he
  subst he
  refine ⟨rfl, ?_, .inr (.inl ⟨_, hs.mem⟩)⟩
  simpa [World.setCell] using lt_of_heap hb
 ·rw [hset]; exact hw.hset hs
def Obj.plain : Obj → Bool
 | .cells .. => false
 | .chan .. => false
 | _ => true
theorem SemOk.getObj {r : Nat} {o : Obj} {K : Obj → RMap → HList → Prop} (ho : Obj.plain o = true) (h : R r = some o ∨ (r, o) ∈ H) (hk : K o R H) : SemOk P B R H (getObj r) K := by
 intro w hw
 have hh : w.heap[r]? = some o := h.elim (hw.r _ _) (hw.h _ _)
 have hrun : (Go.getObj r).run P w = .ok o w := by
  cases o <;> simp_all [Obj.plain, Go.getObj, Sem.run]
 have hev : (Go.getObj r).events P w #[] = #[⟨.obj r, false, false⟩] := by
  cases o <;> simp_all [Obj.plain, Go.getObj, Sem.events, Sem.runT, Obj.isChan, -Sem.runT_eq]
 refine ⟨o, w, R, H, hrun, ?_, Upd.refl hw, hk⟩
 intro e he
 rw [hev] at he
 simp at he
 subst he
 exact ⟨rfl, lt_of_heap hh, h.elim (fun x => .inl ⟨rfl, by simp [x]⟩) (fun x => .inr (.inl ⟨_, x⟩))⟩
theorem SemOk.setObj {r : Nat} {o o' : Obj} {H' : HList} {K : Unit → RMap → HList → Prop} (ho : Obj.plain o = true) (ho' : Obj.plain o' = true) (hs : HSet H r o o' H') (hk : K () R H') : SemOk P B R H (setObj r o') K := by
 intro w hw
 have hh : w.heap[r]? = some o := hw.h _ _ hs.mem
 have hrun : (Go.setObj r o').run P w = .ok () { w with heap := w.heap.setIfInBounds r o' } := by
  cases o <;> simp_all [Obj.plain, Go.setObj, Sem.run]
 have hev : (Go.setObj r o').events P w #[] = #[⟨.obj r, true, false⟩] := by
  cases o <;> simp_all [Obj.plain, Go.setObj, Sem.events, Sem.runT, -Sem.runT_eq] <;> (cases o' <;> simp_all [Obj.isChan])
 refine ⟨(), _, R, H', hrun, ?_, hw.hset hs, hk⟩
 intro e he
 rw [hev] at he
 simp at he
 subst he
 exact ⟨rfl, by simpa using lt_of_heap hh, .inr (.inl ⟨_, hs.mem⟩)⟩
theorem SemOk.choose {q : Question} {K : Nat → RMap → HList → Prop} (hk : ∀ t, K (if q.forced then 0 else q.cut t) R H) : SemOk P B R H (choose q) K := by
 intro w hw
 cases hf : q.forced with
 | true =>
  have := hk 0
  rw [hf] at this
  exact ⟨0, w, R, H, by simp [Go.choose, Sem.run, hf], by simp, Upd.refl hw, by simpa using this⟩
 | false =>
  have := hk (w.tape w.drawn q)
  rw [hf] at this
  exact ⟨q.cut (w.tape w.drawn q), { w with drawn := w.drawn + 1 }, R, H, by simp [Go.choose, Sem.run, hf], by simp, ⟨⟨hw.r, hw.h, hw.nd, hw.dj, hw.os, hw.tape, hw.out⟩, fun _ _ x => x, Nat.le_refl _, fun _ _ _ => rfl, fun _ _ x => .inl x, fun _ o x => .inl ⟨o, x⟩⟩, by simpa using this⟩
theorem SemOk.markRoom {K : Unit → RMap → HList → Prop} (hk : K () R H) : SemOk P B R H (mark .noRoom) K :=
 fun w hw => ⟨(), w, R, H, rfl, by simp [EvOk], Upd.refl hw, hk⟩
theorem SemOk.shape {r : Nat} {K : Option (TypeId × Nat) → RMap → HList → Prop} (hk : ∀ x, K x R H) : SemOk P B R H (shape r) K :=
 fun w hw => ⟨_, w, R, H, rfl, by simp, Upd.refl hw, hk _⟩
end
end Go.Lg
namespace Go.Lg
open Go.Conc
structure Jd (P : Program) (B : Base) (main : Bool) where
 J : RMap → HList → Goroutine → Prop
 step : ∀ {R H g}, g.status = .running → (∀ w, Fits B R H w → ∃ g' w' es R' H', stepG P main g w = .go g' w' es ∧ (∀ e ∈ es, EvOk R H w.heap.size w'.heap.size e) ∧ Upd B R H w R' H' w' ∧ J R' H' g') → J R H g
 ghost : ∀ {R H R' H' g}, (∀ w, Fits B R H w → Upd B R H w R' H' w) → J R' H' g → J R H g
abbrev St := List (Nat × Value)
structure Ctx where
 fn : FuncId
 kind : CallKind
 ro : Option Nat
 n : Nat
 defers : List Deferred
 cs : List Frame
def gor (fr : Frame) (cs : List Frame) : Goroutine := { frame := fr, callers := cs, status := .running, dying := none }
def frm (c : Ctx) (tmps : Array Value) (todo : List Item) : Frame := { fn := c.fn, tmps, todo, defers := c.defers, mode := .run, kind := c.kind, roundOf := c.ro }
def Rep (n : Nat) (st : St) (tmps : Array Value) : Prop := tmps.size = n ∧ ∀ t v, st.lookup t = some v → tmps[t]? = some v
def SubT (st : St) : St → Prop
 | [] => True
 | p :: r => st.lookup p.1 = some p.2 ∧ SubT st r
def SubL (st st' : St) : Prop := ∀ t v, st'.lookup t = some v → st.lookup t = some v
theorem SubT.sub {st : St} : ∀ {st' : St}, SubT st st' → SubL st st'
 | [], _, _, _, h => by cases h
 | p :: r, hs, t, v, h => by
  rw [List.lookup_cons] at h
  split at h
  ·rename_i heq
   cases h
   have : t = p.1 := by simpa using heq
   subst this
   exact hs.1
  ·exact SubT.sub hs.2 t v h
theorem SubL.refl (st : St) : SubL st st := fun _ _ h => h
theorem Rep.sub {n : Nat} {st st' : St} {tmps : Array Value} (h : Rep n st tmps) (hs : SubL st st') : Rep n st' tmps := ⟨h.1, fun t v x => h.2 t v (hs t v x)⟩
def putS (dst : Option Tmp) (v : Value) (st : St) : St := match dst with | some d => (d, v) :: st | none => st
theorem SubL.put {dst : Option Tmp} {d : Tmp} {v : Value} {st : St} (h : dst = some d) : SubL (putS dst v st) ((d, v) :: st) := by subst h; exact SubL.refl _
def putT (dst : Option Tmp) (v : Value) (tmps : Array Value) : Array Value := match dst with | some d => tmps.setIfInBounds d v | none => tmps
def dstB (dst : Option Tmp) (n : Nat) : Bool := match dst with | some d => Nat.blt d n | none => true
def dstLt (dst : Option Tmp) (n : Nat) : Prop := dstB dst n = true
theorem dstLt.lt {d n : Nat} (h : dstLt (some d) n) : d < n := by
 have : Nat.blt d n = true := h
 simpa [Nat.blt_eq] using this
theorem Rep.put {n : Nat} {st : St} {tmps : Array Value} (h : Rep n st tmps) {dst : Option Tmp} (v : Value) (hd : dstLt dst n) : Rep n (putS dst v st) (putT dst v tmps) := by
 cases dst with
 | none => exact h
 | some d =>
  refine ⟨by simp [putT, h.1], fun t u hu => ?_⟩
  have hd' : d < tmps.size := by rw [h.1]; exact hd.lt
  simp only [putS, List.lookup_cons] at hu
  split at hu
  ·rename_i heq
   cases hu
   have : t = d := by simpa using heq
   subst this
   simp [putT, hd']
  ·rename_i heq
   have hne : t ≠ d := by simpa using heq
   simp only [putT]
   rw [Array.getElem?_setIfInBounds_ne (Ne.symm hne)]
   exact h.2 t u hu
def evalS (st : St) : Operand → Option Value
 | .tmp t => st.lookup t
 | .const v => some v
 | .global g => some (.pointer (some ⟨g, 0, none⟩))
 | .func f => some (.func (.func f) #[] #[])
def Knows (st : St) (ρ : Operand → Value) : Prop := ∀ x v, evalS st x = some v → ρ x = v
theorem Rep.knows {n : Nat} {st : St} {tmps : Array Value} (h : Rep n st tmps) (c : Ctx) (todo : List Item) : Knows st (frm c tmps todo).eval := by
 intro x v hx
 cases x with
 | tmp t =>
  have := h.2 t v hx
  simp [frm, Frame.eval, Array.getD_eq_getD_getElem?, this]
 | const u => cases hx; rfl
 | global g => cases hx; rfl
 | func f => cases hx; rfl
section
variable {P : Program} {B : Base} {main : Bool} (𝒥 : Jd P B main)
def At (c : Ctx) (R : RMap) (H : HList) (st : St) (todo : List Item) : Prop := ∀ tmps, Rep c.n st tmps → 𝒥.J R H (gor (frm c tmps todo) c.cs)
variable {𝒥} {c : Ctx} {R : RMap} {H : HList} {st : St} {k : List Item}
theorem At.sub {st' : St} {todo : List Item} (hs : SubL st st') (h : At 𝒥 c R H st' todo) : At 𝒥 c R H st todo := fun tmps ht => h tmps (ht.sub hs)
theorem At.ghost {R' : RMap} {H' : HList} {todo : List Item} (hg : ∀ w, Fits B R H w → Upd B R H w R' H' w) (h : At 𝒥 c R' H' st todo) : At 𝒥 c R H st todo := fun tmps ht => 𝒥.ghost hg (h tmps ht)
theorem Jd.ctl {R : RMap} {H : HList} {g g' : Goroutine} (hs : g.status = .running) (h : ∀ w, stepG P main g w = .go g' w) (hj : 𝒥.J R H g') : 𝒥.J R H g :=
 𝒥.step hs fun w hw => ⟨g', w, #[], R, H, h w, by simp, Upd.refl hw, hj⟩
theorem At.skip (h : At 𝒥 c R H st k) : At 𝒥 c R H st (.code .skip :: k) := fun tmps ht => Jd.ctl rfl (fun w => by simp [stepG, stepG.exec, gor, frm]) (h tmps ht)
theorem At.label {l : Nat} (h : At 𝒥 c R H st k) : At 𝒥 c R H st (.code (.label l) :: k) := fun tmps ht => Jd.ctl rfl (fun w => by simp [stepG, stepG.exec, gor, frm]) (h tmps ht)
theorem At.inBlock {id : Nat} (h : At 𝒥 c R H st k) : At 𝒥 c R H st (.inBlock id :: k) := fun tmps ht => Jd.ctl rfl (fun w => by simp [stepG, stepG.exec, gor, frm]) (h tmps ht)
theorem At.seq {x y : Code} (h : At 𝒥 c R H st (.code x :: .code y :: k)) : At 𝒥 c R H st (.code (.seq x y) :: k) := fun tmps ht => Jd.ctl rfl (fun w => by simp [stepG, stepG.exec, gor, frm]) (h tmps ht)
theorem At.block {id : Nat} {x : Code} (h : At 𝒥 c R H st (.code x :: .inBlock id :: k)) : At 𝒥 c R H st (.code (.block id x) :: k) := fun tmps ht => Jd.ctl rfl (fun w => by simp [stepG, stepG.exec, gor, frm]) (h tmps ht)
theorem At.scope {x : Code} (h : At 𝒥 c R H st (.code x :: .inScope x :: k)) : At 𝒥 c R H st (.code (.scope x) :: k) := fun tmps ht => Jd.ctl rfl (fun w => by simp [stepG, stepG.exec, gor, frm]) (h tmps ht)
theorem At.enterLoop {x : Code} (h : At 𝒥 c R H st (.code x :: .inLoop x :: k)) : At 𝒥 c R H st (.code (.loop x) :: k) := fun tmps ht => Jd.ctl rfl (fun w => by simp [stepG, stepG.exec, gor, frm]) (h tmps ht)
theorem At.inLoop {x : Code} (h : At 𝒥 c R H st (.code x :: .inLoop x :: k)) : At 𝒥 c R H st (.inLoop x :: k) := fun tmps ht => Jd.ctl rfl (fun w => by simp [stepG, stepG.exec, gor, frm]) (h tmps ht)
theorem At.exit {id : Nat} {k' : List Item} (he : exitTo id k = some k') (h : At 𝒥 c R H st k') : At 𝒥 c R H st (.code (.exit id) :: k) := fun tmps ht => Jd.ctl rfl (fun w => by simp [stepG, stepG.exec, gor, frm, he]) (h tmps ht)
theorem At.region {id : Nat} {ops : Array Oper} (h : At 𝒥 c R H st (.inRegion ops (List.range ops.size) :: k)) : At 𝒥 c R H st (.code (.region id ops false) :: k) := fun tmps ht => Jd.ctl rfl (fun w => by simp [stepG, stepG.exec, gor, frm]) (h tmps ht)
theorem At.endRegion {ops : Array Oper} (h : At 𝒥 c R H st k) : At 𝒥 c R H st (.inRegion ops [] :: k) := fun tmps ht => Jd.ctl rfl (fun w => by simp [stepG, stepG.exec, gor, frm]) (h tmps ht)
theorem At.cond {x : Operand} {th el : Code} {t : Bool} (hx : evalS st x = some (.bool t)) (h1 : t = true → At 𝒥 c R H st (.code th :: k)) (h2 : t = false → At 𝒥 c R H st (.code el :: k)) : At 𝒥 c R H st (.code (.cond x th el) :: k) := by
 intro tmps ht
 have he := ht.knows c (.code (.cond x th el) :: k) x _ hx
 cases t with
 | true => exact Jd.ctl rfl (fun w => by simp only [frm] at he; simp [stepG, stepG.exec, gor, frm, he]) (h1 rfl tmps ht)
 | false => exact Jd.ctl rfl (fun w => by simp only [frm] at he; simp [stepG, stepG.exec, gor, frm, he]) (h2 rfl tmps ht)
theorem At.cond_true {x : Operand} {th el : Code} (hx : evalS st x = some (.bool true)) (h : At 𝒥 c R H st (.code th :: k)) : At 𝒥 c R H st (.code (.cond x th el) :: k) := At.cond hx (fun _ => h) (fun e => by cases e)
theorem At.cond_false {x : Operand} {th el : Code} (hx : evalS st x = some (.bool false)) (h : At 𝒥 c R H st (.code el :: k)) : At 𝒥 c R H st (.code (.cond x th el) :: k) := At.cond hx (fun e => by cases e) (fun _ => h)
def isDefer : Op → Bool
 | .defer _ => true
 | _ => false
theorem stepG_oper' {tmps : Array Value} {ops : Array Oper} {i : Nat} {rest : List Nat} {o : Oper} {w : World} (ho : ops[i]? = some o) (hw : Region.wanted o (yielded ops tmps) = true) (hd : isDefer o.op = false) :
  stepG P main (gor (frm c tmps (.inRegion ops (i :: rest) :: k)) c.cs) w = stepG.apply P true (frm c tmps (.inRegion ops (i :: rest) :: k)) c.cs none (execOp (frm c tmps (.inRegion ops (i :: rest) :: k)).eval o) w := by
 cases hr : c.ro with
 | none => simp [gor, stepG, stepG.exec, stepG.oper, Frame.oper?, frm, ho, hw, hr]
 | some l =>
  simp only [gor, stepG, stepG.exec, stepG.oper, Frame.oper?, frm, ho, hw, hr, Option.map_some, Option.getD_some, if_true]
  split
  ·rename_i h1 h2; rw [h2] at hd; cases hd
  ·rfl
theorem stepG_unwanted' {tmps : Array Value} {ops : Array Oper} {i : Nat} {rest : List Nat} {o : Oper} {w : World} (ho : ops[i]? = some o) (hw : Region.wanted o (yielded ops tmps) = false) :
  stepG P main (gor (frm c tmps (.inRegion ops (i :: rest) :: k)) c.cs) w = .go (gor (frm c (putT o.dst undef tmps) (.inRegion ops rest :: k)) c.cs) w := by
 simp only [gor, stepG, stepG.exec, frm, ho, hw, Option.map_some, Option.getD_some, Frame.finish, Option.bind_some, putT]
 cases o.dst <;> rfl
theorem finish_frm {tmps : Array Value} {ops : Array Oper} {i : Nat} {rest : List Nat} {o : Oper} {v : Value} (ho : ops[i]? = some o) :
  (frm c tmps (.inRegion ops (i :: rest) :: k)).finish v = frm c (putT o.dst v tmps) (.inRegion ops rest :: k) := by
 simp only [Frame.finish, frm, ho, Option.bind_some, putT]
 cases o.dst <;> rfl
def wantedS (ops : Array Oper) (st : St) (o : Oper) : Option Bool :=
 match o.guard with
 | none => some true
 | some (j, want) => match ((ops[j]?).bind (·.dst)).bind (st.lookup ·) with
  | some (.bool b) => some (b == want)
  | some (.tuple _) => some false
  | _ => none
theorem wanted_of {n : Nat} {ops : Array Oper} {tmps : Array Value} {o : Oper} {b : Bool} (ht : Rep n st tmps) (h : wantedS ops st o = some b) : Region.wanted o (yielded ops tmps) = b := by
 unfold wantedS at h
 unfold Region.wanted
 split at h
 ·rename_i hg; simp only [hg]; exact Option.some.inj h
 ·rename_i j want hg
  simp only [hg, yielded]
  cases hd : (ops[j]?).bind (·.dst) with
  | none => simp [hd] at h
  | some d =>
   simp only [hd, Option.bind_some] at h ⊢
   cases hl : st.lookup d with
   | none => simp [hl] at h
   | some v =>
    rw [hl] at h
    rw [ht.2 d v hl]
    cases v <;> simp at h ⊢ <;> first | (rw [← h]; done) | exact h.symm | (subst h; rfl)
theorem apply_value {fr : Frame} {cs : List Frame} {s : Sem Next} {w w' : World} {v : Value} (hk : fr.kind ≠ .early) (hr : s.run P w = .ok (.value v) w') :
  stepG.apply P true fr cs none s w = .go (gor (fr.finish v) cs) w' (seen P fr.fn (s.events P w #[])) := by
 have hk' : (fr.kind == CallKind.early) = false := by simpa using hk
 simp [stepG.apply, hr, gor, hk', GStep.after]
theorem apply_skip {fr : Frame} {cs : List Frame} {s : Sem Next} {w w' : World} (hk : fr.kind ≠ .early) (hr : s.run P w = .ok .skip w') :
  stepG.apply P true fr cs none s w = .go (gor (fr.finish undef) cs) w' (seen P fr.fn (s.events P w #[])) := by
 have hk' : (fr.kind == CallKind.early) = false := by simpa using hk
 simp [stepG.apply, hr, gor, hk', GStep.after]
theorem apply_enter {fr : Frame} {cs : List Frame} {s : Sem Next} {w w' : World} {f : FuncId} {args : Array Value} {ops : Array Oper} {is : List Nat} {k : List Item} (ht : fr.todo = .inRegion ops is :: k) (hk : fr.kind ≠ .early) (hr : s.run P w = .ok (.enter f args) w') :
  stepG.apply P true fr cs none s w = .go (gor (Frame.enter P f args .normal) (fr :: cs)) w' (seen P fr.fn (s.events P w #[])) := by
 have hk' : (fr.kind == CallKind.early) = false := by simpa using hk
 simp [stepG.apply, hr, gor, hk', GStep.after, ht]
theorem At.op {ops : Array Oper} {i : Nat} {rest : List Nat} {o : Oper} (ho : ops[i]? = some o) (hw : wantedS ops st o = some true) (hd : isDefer o.op = false) (hk : c.kind ≠ .early)
  (h : ∀ ρ, Knows st ρ → SemOk P B R H (execOp ρ o) fun nx R' H' => ∃ v, (nx = .value v ∨ (nx = .skip ∧ v = undef)) ∧ dstLt o.dst c.n ∧ ∃ st', SubL (putS o.dst v st) st' ∧ At 𝒥 c R' H' st' (.inRegion ops rest :: k)) :
  At 𝒥 c R H st (.inRegion ops (i :: rest) :: k) := by
 intro tmps ht
 refine 𝒥.step rfl fun w hwf => ?_
 obtain ⟨nx, w', R', H', h1, h2, h3, v, hv, hdl, st', hs, hat⟩ := h _ (ht.knows c _) w hwf
 refine ⟨gor (frm c (putT o.dst v tmps) (.inRegion ops rest :: k)) c.cs, w', seen P c.fn ((execOp (frm c tmps (.inRegion ops (i :: rest) :: k)).eval o).events P w #[]), R', H', ?_, fun e he => h2 e (mem_seen he), h3, hat _ ((ht.put v hdl).sub hs)⟩
 rw [stepG_oper' ho (wanted_of ht hw) hd, ← finish_frm (rest := rest) (k := k) (c := c) (tmps := tmps) (v := v) ho]
 rcases hv with rfl | ⟨rfl, rfl⟩
 ·exact apply_value hk h1
 ·exact apply_skip hk h1
theorem At.unwanted {ops : Array Oper} {i : Nat} {rest : List Nat} {o : Oper} {st' : St} (ho : ops[i]? = some o) (hw : wantedS ops st o = some false) (hdl : dstLt o.dst c.n) (hs : SubL (putS o.dst undef st) st')
  (h : At 𝒥 c R H st' (.inRegion ops rest :: k)) : At 𝒥 c R H st (.inRegion ops (i :: rest) :: k) :=
 fun tmps ht => Jd.ctl rfl (fun _ => stepG_unwanted' ho (wanted_of ht hw)) (h _ ((ht.put undef hdl).sub hs))
def FnOk (𝒥 : Jd P B main) (f : FuncId) (args : Array Value) (R : RMap) (H : HList) (Post : Value → RMap → HList → Prop) : Prop :=
 ∀ fr cs, (∀ v R' H', Post v R' H' → 𝒥.J R' H' (gor (fr.finish v) cs)) → 𝒥.J R H (gor (Frame.enter P f args .normal) (fr :: cs))
theorem FnOk.mono {f : FuncId} {args : Array Value} {Post Post' : Value → RMap → HList → Prop} (h : FnOk 𝒥 f args R H Post) (hp : ∀ v R' H', Post v R' H' → Post' v R' H') : FnOk 𝒥 f args R H Post' :=
 fun fr cs hk => h fr cs fun v R' H' hv => hk v R' H' (hp v R' H' hv)
theorem At.enters {ops : Array Oper} {i : Nat} {rest : List Nat} {o : Oper} {f : FuncId} {args : Array Value} {Post : Value → RMap → HList → Prop} (ho : ops[i]? = some o) (hw : wantedS ops st o = some true) (hd : isDefer o.op = false) (hk : c.kind ≠ .early) (hdl : dstLt o.dst c.n)
  (he : ∀ ρ, Knows st ρ → Val P (execOp ρ o) (.enter f args)) (hf : FnOk 𝒥 f args R H Post)
  (h : ∀ v R' H', Post v R' H' → ∃ st', SubL (putS o.dst v st) st' ∧ At 𝒥 c R' H' st' (.inRegion ops rest :: k)) :
  At 𝒥 c R H st (.inRegion ops (i :: rest) :: k) := by
 intro tmps ht
 refine 𝒥.step rfl fun w hwf => ?_
 have hv := he _ (ht.knows c (.inRegion ops (i :: rest) :: k)) w
 refine ⟨gor (Frame.enter P f args .normal) (frm c tmps (.inRegion ops (i :: rest) :: k) :: c.cs), w, seen P c.fn ((execOp (frm c tmps (.inRegion ops (i :: rest) :: k)).eval o).events P w #[]), R, H, ?_, ?_, Upd.refl hwf, hf _ _ fun v R' H' hp => ?_⟩
 ·rw [stepG_oper' ho (wanted_of ht hw) hd]
  exact apply_enter rfl hk hv.1
 ·intro e hee
  have := mem_seen hee
  rw [hv.2] at this
  simp at this
 ·obtain ⟨st', hs, hat⟩ := h v R' H' hp
  rw [finish_frm ho]
  exact hat _ ((ht.put v hdl).sub hs)
def OpTo (𝒥 : Jd P B main) (c : Ctx) (o : Oper) (R : RMap) (H : HList) (st : St) (C : RMap → HList → St → Prop) : Prop :=
 isDefer o.op = false ∧ dstLt o.dst c.n ∧
  ((∀ ρ, Knows st ρ → SemOk P B R H (execOp ρ o) fun nx R' H' => ∃ v, (nx = .value v ∨ (nx = .skip ∧ v = undef)) ∧ ∃ st', SubL (putS o.dst v st) st' ∧ C R' H' st') ∨
   (∃ f args, (∀ ρ, Knows st ρ → Val P (execOp ρ o) (.enter f args)) ∧ FnOk 𝒥 f args R H fun v R' H' => ∃ st', SubL (putS o.dst v st) st' ∧ C R' H' st'))
def SemTo (P : Program) (B : Base) (c : Ctx) (o : Oper) (R : RMap) (H : HList) (st : St) (C : RMap → HList → St → Prop) : Prop :=
 isDefer o.op = false ∧ dstLt o.dst c.n ∧ ∀ ρ, Knows st ρ → SemOk P B R H (execOp ρ o) fun nx R' H' => ∃ v, (nx = .value v ∨ (nx = .skip ∧ v = undef)) ∧ ∃ st', SubL (putS o.dst v st) st' ∧ C R' H' st'
theorem SemTo.to {o : Oper} {C : RMap → HList → St → Prop} (h : SemTo P B c o R H st C) : OpTo 𝒥 c o R H st C := ⟨h.1, h.2.1, .inl h.2.2⟩
theorem At.step {ops : Array Oper} {i : Nat} {rest : List Nat} {o : Oper} (ho : ops[i]? = some o) (hw : wantedS ops st o = some true) (hk : (c.kind == CallKind.early) = false)
  (h : OpTo 𝒥 c o R H st fun R' H' st' => At 𝒥 c R' H' st' (.inRegion ops rest :: k)) : At 𝒥 c R H st (.inRegion ops (i :: rest) :: k) := by
 obtain ⟨hd, hdl, h | ⟨f, args, h1, h2⟩⟩ := h
 ·exact At.op ho hw hd (by simpa using hk) fun ρ hρ => (h ρ hρ).mono fun nx R' H' ⟨v, hv, hx⟩ => ⟨v, hv, hdl, hx⟩
 ·exact At.enters ho hw hd (by simpa using hk) hdl h1 h2 fun v R' H' hx => hx
theorem At.stepS {ops : Array Oper} {i : Nat} {rest : List Nat} {o : Oper} (ho : ops[i]? = some o) (hw : wantedS ops st o = some true) (hk : (c.kind == CallKind.early) = false)
  (h : SemTo P B c o R H st fun R' H' st' => At 𝒥 c R' H' st' (.inRegion ops rest :: k)) : At 𝒥 c R H st (.inRegion ops (i :: rest) :: k) := At.step ho hw hk h.to
theorem At.regionIs {id n : Nat} {is : List Nat} {ops : Array Oper} (hn : ops.size = n) (his : List.range n = is) (h : At 𝒥 c R H st (.inRegion ops is :: k)) : At 𝒥 c R H st (.code (.region id ops false) :: k) := by
 subst hn; subst his; exact At.region h
def argSt : Nat → List Value → St
 | _, [] => []
 | i, v :: r => (i, v) :: argSt (i + 1) r
theorem argSt_look : ∀ (args : List Value) (i t : Nat) (v : Value), (argSt i args).lookup t = some v → i ≤ t ∧ args[t - i]? = some v
 | [], _, _, _, h => by cases h
 | a :: r, i, t, v, h => by
  simp only [argSt, List.lookup_cons] at h
  split at h
  ·rename_i heq
   cases h
   have : t = i := by simpa using heq
   subst this
   simp
  ·rename_i heq
   have hne : t ≠ i := by simpa using heq
   obtain ⟨h1, h2⟩ := argSt_look r (i + 1) t v h
   refine ⟨by omega, ?_⟩
   have : t - i = (t - (i + 1)) + 1 := by omega
   rw [this]
   simpa using h2
theorem FnOk.of_at {f : FuncId} {fn : Func} {body : Code} {args : List Value} {n : Nat} {Post : Value → RMap → HList → Prop} (hf : P.funcs[f]? = some fn) (hb : fn.body = some body) (hnt : fn.ntmps = n) (hn : Nat.ble args.length n = true)
  (h : ∀ fr cs, (∀ v R' H', Post v R' H' → 𝒥.J R' H' (gor (fr.finish v) cs)) → At 𝒥 ⟨f, .normal, none, n, [], fr :: cs⟩ R H (argSt 0 args) [.code body]) : FnOk 𝒥 f args.toArray R H Post := by
 subst hnt
 intro fr cs hk
 have hn : args.length ≤ fn.ntmps := by simpa [Nat.ble_eq] using hn
 have := h fr cs hk (args.toArray ++ Array.replicate (fn.ntmps - args.length) undef) ⟨by simp; omega, fun t v ht => ?_⟩
 ·have e : Frame.enter P f args.toArray .normal = frm ⟨f, .normal, none, fn.ntmps, [], fr :: cs⟩ (args.toArray ++ Array.replicate (fn.ntmps - args.length) undef) [.code body] := by
   simp [Frame.enter, frm, hf, hb]
  rw [e]
  exact this
 ·obtain ⟨_, h2⟩ := argSt_look args 0 t v ht
  have hlt : t < args.length := by
   have := (List.getElem?_eq_some_iff.1 h2).1
   simpa using this
  rw [Array.getElem?_append_left (by simpa using hlt)]
  simpa using h2
def resS (st : St) : List ResultVar → Option (List Value)
 | [] => some []
 | .tmp t :: r => match st.lookup t, resS st r with
  | some v, some vs => some (v :: vs)
  | _, _ => none
 | .cell _ _ :: _ => none
def resV : List Value → Value
 | [v] => v
 | vs => .tuple vs.toArray
theorem val_mapM {st : St} {tmps : Array Value} {n : Nat} (ht : Rep n st tmps) : ∀ (l : List ResultVar) (vs : List Value), resS st l = some vs →
  Val P (l.mapM (m := Sem) fun
   | .tmp t => pure (tmps.getD t undef)
   | .cell a t => do loadVar t (← asAddr (tmps.getD a undef))) vs
 | [], vs, h => by cases h; exact Val.pure _
 | .tmp t :: r, vs, h => by
  simp only [resS] at h
  cases hl : st.lookup t with
  | none => simp [hl] at h
  | some v =>
   cases hr : resS st r with
   | none => simp [hl, hr] at h
   | some us =>
    simp only [hl, hr, Option.some.injEq] at h
    subst h
    rw [List.mapM_cons]
    refine Val.bind (a := v) ?_ (Val.bind (val_mapM ht r us hr) (Val.pure _))
    have : tmps.getD t undef = v := by simp [Array.getD_eq_getD_getElem?, ht.2 t v hl]
    show Val P (pure (tmps.getD t undef)) v
    rw [this]; exact Val.pure _
 | .cell _ _ :: _, _, h => by cases h
theorem val_results {fn : Func} {st : St} {tmps : Array Value} {n : Nat} {vs : List Value} (ht : Rep n st tmps) (h : resS st fn.results.toList = some vs) : Val P (results fn tmps) (resV vs) := by
 unfold results
 rw [← Array.toArray_toList (xs := fn.results), List.mapM_toArray]
 refine Val.bind (Val.map (val_mapM ht _ _ h)) ?_
 cases vs with
 | nil => exact Val.pure _
 | cons v r => cases r with
  | nil => exact Val.pure _
  | cons _ _ => exact Val.pure _
end
end Go.Lg
namespace Go.Lg
open Go.Conc
theorem add_none (b o n : Nat) : (⟨b, o, none⟩ : Addr).add n = ⟨b, o + n, none⟩ := by
 unfold Addr.add; split
 ·subst_vars; rfl
 ·rfl
def FieldAt (P : Program) (s f off : Nat) : Prop := ∀ b o : Nat, Val P (Instr.fieldAt s (.pointer (some ⟨b, o, none⟩)) f) (.pointer (some ⟨b, o + off, none⟩))
def SliceTy (P : Program) (t e n : Nat) : Prop := P.underlying t = some (.slice e) ∧ Val P (sizeOf e) n
def ArrayTy (P : Program) (t len e n : Nat) : Prop := P.underlying t = some (.array len e) ∧ Val P (sizeOf e) n
def Fit64 (z : Int) : Prop := -9223372036854775808 ≤ z ∧ z ≤ 9223372036854775807
theorem wrap_fit {z : Int} (h : Fit64 z) : IntKind.wrap .i64 z = z := by
 obtain ⟨h1, h2⟩ := h
 simp only [IntKind.wrap, IntKind.bits, IntKind.signed]
 simp
 omega
section
variable {P : Program} {B : Base} {main : Bool} {𝒥 : Jd P B main} {c : Ctx} {R : RMap} {H : HList} {st st' : St} {o : Oper} {C : RMap → HList → St → Prop}
theorem Ox.val {v : Value} (hdf : isDefer o.op = false) (hd : dstLt o.dst c.n)
  (hv : ∀ ρ, Knows st ρ → Val P (execOp ρ o) (.value v)) (hs : SubL (putS o.dst v st) st') (h : C R H st') : SemTo P B c o R H st C :=
 ⟨hdf, hd, fun ρ hρ => (hv ρ hρ).ok ⟨v, .inl rfl, st', hs, h⟩⟩
theorem Ox.val' {s : (Operand → Value) → Sem Value} {v : Value} (hdf : isDefer o.op = false) (hd : dstLt o.dst c.n)
  (he : ∀ ρ, execOp ρ o = (do let x ← s ρ; pure (.value x))) (hv : ∀ ρ, Knows st ρ → Val P (s ρ) v) (hs : SubL (putS o.dst v st) st') (h : C R H st') : SemTo P B c o R H st C :=
 Ox.val hdf hd (fun ρ hρ => by rw [he]; exact Val.bind (hv ρ hρ) (Val.pure _)) hs h
theorem Ox.mem {s : (Operand → Value) → Sem Value} (hdf : isDefer o.op = false) (hd : dstLt o.dst c.n)
  (he : ∀ ρ, execOp ρ o = (do let x ← s ρ; pure (.value x)))
  (hv : ∀ ρ, Knows st ρ → SemOk P B R H (s ρ) fun v R' H' => ∃ st', SubL (putS o.dst v st) st' ∧ C R' H' st') : SemTo P B c o R H st C :=
 ⟨hdf, hd, fun ρ hρ => by
  rw [he]
  exact SemOk.bind ((hv ρ hρ).mono fun v R' H' ⟨st', hs, h⟩ => SemOk.pure ⟨v, .inl rfl, st', hs, h⟩)⟩
theorem Ox.memU {s : (Operand → Value) → Sem Unit} (hdf : isDefer o.op = false) (hd : o.dst = none)
  (he : ∀ ρ, execOp ρ o = (do s ρ; pure .skip)) (hs : SubL st st')
  (hv : ∀ ρ, Knows st ρ → SemOk P B R H (s ρ) fun _ R' H' => C R' H' st') : SemTo P B c o R H st C :=
 ⟨hdf, by rw [hd]; rfl, fun ρ hρ => by
  rw [he]
  exact SemOk.bind ((hv ρ hρ).mono fun v R' H' h => SemOk.pure ⟨undef, .inr ⟨rfl, rfl⟩, st', by rw [hd]; exact hs, h⟩)⟩
theorem Ox.move {x : Operand} {v : Value} (hop : o.op = .move x) (hx : evalS st x = some v) (hd : dstLt o.dst c.n)
  (hs : SubL (putS o.dst v st) st') (h : C R H st') : SemTo P B c o R H st C :=
 Ox.val (by rw [hop]; rfl) hd (fun ρ hρ => by simp only [execOp, hop, hρ x v hx]; exact Val.pure _) hs h
theorem Ox.assign {x : Operand} {v : Value} (hop : o.op = .assign x) (hx : evalS st x = some v) (hd : dstLt o.dst c.n)
  (hs : SubL (putS o.dst v st) st') (h : C R H st') : SemTo P B c o R H st C :=
 Ox.val (by rw [hop]; rfl) hd (fun ρ hρ => by simp only [execOp, hop, hρ x v hx]; exact Val.pure _) hs h
theorem Ox.pick_true {x y z : Operand} {v : Value} (hop : o.op = .pick x y z) (hx : evalS st x = some (.bool true)) (hy : evalS st y = some v) (hd : dstLt o.dst c.n)
  (hs : SubL (putS o.dst v st) st') (h : C R H st') : SemTo P B c o R H st C :=
 Ox.val (by rw [hop]; rfl) hd (fun ρ hρ => by
  simp only [execOp, hop, hρ x _ hx, hρ y v hy, asBool]
  exact Val.bind (Val.pure true) (Val.pure _)) hs h
theorem Ox.pick_false {x y z : Operand} {v : Value} (hop : o.op = .pick x y z) (hx : evalS st x = some (.bool false)) (hz : evalS st z = some v) (hd : dstLt o.dst c.n)
  (hs : SubL (putS o.dst v st) st') (h : C R H st') : SemTo P B c o R H st C :=
 Ox.val (by rw [hop]; rfl) hd (fun ρ hρ => by
  simp only [execOp, hop, hρ x _ hx, hρ z v hz, asBool]
  exact Val.bind (Val.pure false) (Val.pure _)) hs h
theorem Ox.fieldAddr {x : Operand} {s f off b n : Nat} (hop : o.op = .fieldAddr s x f) (hx : evalS st x = some (.pointer (some ⟨b, n, none⟩))) (hf : FieldAt P s f off) (hd : dstLt o.dst c.n)
  (hs : SubL (putS o.dst (.pointer (some ⟨b, n + off, none⟩)) st) st') (h : C R H st') : SemTo P B c o R H st C :=
 Ox.val' (s := fun ρ => Instr.fieldAt s (ρ x) f) (by rw [hop]; rfl) hd (fun ρ => by simp only [execOp, hop]) (fun ρ hρ => by rw [hρ x _ hx]; exact hf b n) hs h
theorem val_index_slice {t e n b m len cap : Nat} {kd : IntKind} {j : Nat} (ht : SliceTy P t e n) (hj : j < len) :
  Val P (Instr.indexAt t (.slice (some ⟨b, m, none⟩) len cap) (.int kd (j : Int))) (.pointer (some ⟨b, m + j * n, none⟩)) := by
 unfold Instr.indexAt
 refine Val.bind (a := (kd, (j : Int))) (Val.pure _) (Val.bind (Val.underlying ht.1) (Val.bind (a := (some (⟨b, m, none⟩ : Addr), len, e)) (Val.pure _) (Val.bind (Val.underlying ht.1) ?_)))
 have h1 : (0 : Int) ≤ (j : Int) ∧ (j : Int) < (len : Int) := by omega
 simp only [h1, and_self, if_true, Int.toNat_natCast]
 refine Val.bind ht.2 ?_
 rw [add_none]
 exact Val.pure _
theorem val_index_array {t e n b m len : Nat} {kd : IntKind} {j : Nat} (ht : ArrayTy P t len e n) (hj : j < len) :
  Val P (Instr.indexAt t (.pointer (some ⟨b, m, none⟩)) (.int kd (j : Int))) (.pointer (some ⟨b, m + j * n, none⟩)) := by
 unfold Instr.indexAt
 refine Val.bind (a := (kd, (j : Int))) (Val.pure _) (Val.bind (Val.underlying ht.1) (Val.bind (a := (⟨b, m, none⟩ : Addr)) (Val.pure _) (Val.bind (a := (some (⟨b, m, none⟩ : Addr), len, e)) (Val.pure _) (Val.bind (Val.underlying ht.1) ?_))))
 have h1 : (0 : Int) ≤ (j : Int) ∧ (j : Int) < (len : Int) := by omega
 simp only [h1, and_self, if_true, Int.toNat_natCast]
 refine Val.bind ht.2 ?_
 rw [add_none]
 exact Val.pure _
theorem val_guard_int (op : BinOp) (t : TypeId) (x y : Operand) (ka kb : IntKind) (a b : Int) : Val P (eqGuard op t x y (.int ka a) (.int kb b)) () := by
 unfold eqGuard
 cases op <;> exact Val.pure _
def cmpI : BinOp → Int → Int → Option Bool
 | .eql, x, y => some (x == y)
 | .neq, x, y => some (x != y)
 | .lss, x, y => some (decide (x < y))
 | .leq, x, y => some (decide (x ≤ y))
 | .gtr, x, y => some (decide (x > y))
 | .geq, x, y => some (decide (x ≥ y))
 | _, _, _ => none
theorem Ox.cmp {x y : Operand} {bo : BinOp} {t u : TypeId} {a b : Int} {kd : IntKind} {r : Bool} (hop : o.op = .binOp bo t x y u) (hx : evalS st x = some (.int kd a)) (hy : evalS st y = some (.int kd b)) (hr : cmpI bo a b = some r)
  (hd : dstLt o.dst c.n) (hs : SubL (putS o.dst (.bool r) st) st') (h : C R H st') : SemTo P B c o R H st C :=
 Ox.val' (s := fun ρ => do eqGuard bo t x y (ρ x) (ρ y); binOp bo t (ρ x) (ρ y)) (by rw [hop]; rfl) hd (fun ρ => by simp only [execOp, hop]) (fun ρ hρ => by
  rw [hρ x _ hx, hρ y _ hy]
  refine Val.bind (val_guard_int _ _ _ _ _ _ _ _) ?_
  cases bo <;> simp only [cmpI, Option.some.injEq, reduceCtorEq] at hr <;> subst hr <;> simp only [binOp, ne_eq, not_true_eq_false, if_false] <;> exact Val.pure _) hs h
def arI : BinOp → Int → Int → Option Int
 | .add, x, y => some (x + y)
 | .sub, x, y => some (x - y)
 | .mul, x, y => some (x * y)
 | _, _, _ => none
theorem Ox.not {x : Operand} {t : TypeId} {a : Bool} (hop : o.op = .unOp .not t x) (hx : evalS st x = some (.bool a))
  (hd : dstLt o.dst c.n) (hs : SubL (putS o.dst (.bool (!a)) st) st') (h : C R H st') : SemTo P B c o R H st C :=
 Ox.val' (s := fun ρ => Op.unary .not (ρ x)) (by rw [hop]; rfl) hd (fun ρ => by simp only [execOp, hop]) (fun ρ hρ => by rw [hρ x _ hx]; exact Val.pure _) hs h
theorem Ox.extract {x : Operand} {j : Nat} {vs : Array Value} {v : Value} (hop : o.op = .extract x j) (hx : evalS st x = some (.tuple vs)) (hj : vs[j]? = some v)
  (hd : dstLt o.dst c.n) (hs : SubL (putS o.dst v st) st') (h : C R H st') : SemTo P B c o R H st C :=
 Ox.val' (s := fun ρ => Instr.extract (ρ x) j) (by rw [hop]; rfl) hd (fun ρ => by simp only [execOp, hop]) (fun ρ hρ => by
  rw [hρ x _ hx]
  simp only [Instr.extract, hj]; exact Val.pure _) hs h
theorem Ox.makeFunc {fn : Fn} {first captured : Array Operand} {vs us : Array Value} (hop : o.op = .makeFunc fn first captured) (h1 : first.toList.mapM (evalS st) = some vs.toList) (h2 : captured.toList.mapM (evalS st) = some us.toList)
  (hd : dstLt o.dst c.n) (hs : SubL (putS o.dst (.func fn vs us) st) st') (h : C R H st') : SemTo P B c o R H st C :=
 Ox.val' (s := fun ρ => Instr.makeFunc fn (first.map ρ) (captured.map ρ)) (by rw [hop]; rfl) hd (fun ρ => by simp only [execOp, hop]) (fun ρ hρ => by
  have key : ∀ (l : List Operand) (r : List Value), l.mapM (evalS st) = some r → l.map ρ = r := by
   intro l
   induction l with
   | nil => intro r hr; simpa using hr
   | cons a l ih =>
    intro r hr
    rw [List.mapM_cons] at hr
    cases ha : evalS st a with
    | none => simp [ha] at hr
    | some u =>
     cases hl : l.mapM (evalS st) with
     | none => simp [ha, hl] at hr
     | some us =>
      simp [ha, hl] at hr
      subst hr
      simp [hρ a u ha, ih us hl]
  have e1 : first.map ρ = vs := by apply Array.ext'; simpa using key _ _ h1
  have e2 : captured.map ρ = us := by apply Array.ext'; simpa using key _ _ h2
  rw [e1, e2]
  exact Val.pure _) hs h
theorem Ox.len {x : Operand} {t e : TypeId} {a : Option Addr} {n cap : Nat} (hop : o.op = .call ⟨.builtin .len, #[x], #[t]⟩) (hx : evalS st x = some (.slice a n cap)) (ht : P.underlying t = some (.slice e))
  (hd : dstLt o.dst c.n) (hs : SubL (putS o.dst (.int .i64 (n : Int)) st) st') (h : C R H st') : SemTo P B c o R H st C :=
 Ox.val (by rw [hop]; rfl) hd (fun ρ hρ => by
  simp only [execOp, hop]
  refine Val.bind (a := ⟨.builtin .len #[t] o.type (#[x].map fun | .const _ => true | _ => false), #[x].map ρ⟩) (Val.pure _) ?_
  simp only [invoke, builtin]
  refine Val.bind (a := .int .i64 (n : Int)) ?_ (Val.pure _)
  have e : (#[x].map ρ) = #[.slice a n cap] := by simp [hρ x _ hx]
  rw [e]
  exact Val.bind (Val.underlying ht) (Val.pure _)) hs h
theorem Ox.lenStr {x : Operand} {t : TypeId} {s : ByteArray} (hop : o.op = .call ⟨.builtin .len, #[x], #[t]⟩) (hx : evalS st x = some (.string s)) (ht : P.underlying t = some .string)
  (hd : dstLt o.dst c.n) (hs : SubL (putS o.dst (.int .i64 (s.size : Int)) st) st') (h : C R H st') : SemTo P B c o R H st C :=
 Ox.val (by rw [hop]; rfl) hd (fun ρ hρ => by
  simp only [execOp, hop]
  refine Val.bind (a := ⟨.builtin .len #[t] o.type (#[x].map fun | .const _ => true | _ => false), #[x].map ρ⟩) (Val.pure _) ?_
  simp only [invoke, builtin]
  refine Val.bind (a := .int .i64 (s.size : Int)) ?_ (Val.pure _)
  have e : (#[x].map ρ) = #[.string s] := by simp [hρ x _ hx]
  rw [e]
  exact Val.bind (Val.underlying ht) (Val.pure _)) hs h
theorem val_callFunc {f : FuncId} {fn : Func} {args : Array Value} (hf : P.funcs[f]? = some fn) (hn : (fn.name == "runtime.NumGoroutine") = false) (hb : fn.body.isNone = false) : Val P (callFunc f args) (.enter f args) := by
 unfold callFunc
 refine Val.bind Val.program ?_
 simp only [hf, hn, hb]
 exact Val.pure _
structure Enters (P : Program) (f : FuncId) : Prop where
 ex : ∃ fn, P.funcs[f]? = some fn ∧ (fn.name == "runtime.NumGoroutine") = false ∧ fn.body.isNone = false
def argsS (st : St) : List Operand → Option (List Value)
 | [] => some []
 | x :: r => match evalS st x, argsS st r with
  | some v, some vs => some (v :: vs)
  | _, _ => none
theorem argsS_eval {st : St} {ρ : Operand → Value} (hρ : Knows st ρ) : ∀ (l : List Operand) (r : List Value), argsS st l = some r → l.map ρ = r
 | [], r, h => by cases h; rfl
 | x :: l, r, h => by
  simp only [argsS] at h
  cases hx : evalS st x with
  | none => simp [hx] at h
  | some v =>
   cases hl : argsS st l with
   | none => simp [hx, hl] at h
   | some vs =>
    simp [hx, hl] at h
    subst h
    simp [hρ x v hx, argsS_eval hρ l vs hl]
theorem Ox.callV {ca : Call} {x : Operand} {f : FuncId} {first captured : Array Value} {vs : List Value} {args : Array Value}
  (hop : o.op = .call ca) (hc : ca.callee = .value x) (hx : evalS st x = some (.func (.func f) first captured)) (ha : argsS st ca.args.toList = some vs) (he : Enters P f) (hargs : first ++ vs.toArray ++ captured = args)
  (hd : dstLt o.dst c.n) (hf : FnOk 𝒥 f args R H fun v R' H' => ∃ st', SubL (putS o.dst v st) st' ∧ C R' H' st') : OpTo 𝒥 c o R H st C :=
 ⟨by rw [hop]; rfl, hd, .inr ⟨f, args, fun ρ hρ => by
  obtain ⟨fn, h1, h2, h3⟩ := he.ex
  simp only [execOp, hop, resolve, hc, hρ x _ hx, Deferred.ofValue]
  have e : ca.args.map ρ = vs.toArray := by apply Array.ext'; simpa using argsS_eval hρ _ _ ha
  refine Val.bind (a := ⟨.fn (.func f) captured, first ++ vs.toArray⟩) (by rw [e]; exact Val.pure _) ?_
  simp only [invoke, hargs]
  exact val_callFunc h1 h2 h3, hf⟩⟩
end
end Go.Lg
namespace Go.Lg
open Go.Conc
def ZeroTy (P : Program) (t : TypeId) (cs : Array Value) : Prop := ∃ z, Val P (zeroValue t) z ∧ z.cells = cs
def OneTy (P : Program) (t : TypeId) : Prop := Val P (isAgg t) false ∧ Val P (sizeOf t) 1
def AggTy (P : Program) (t : TypeId) (n : Nat) : Prop := Val P (isAgg t) true ∧ Val P (sizeOf t) n
def CellsAt (R : RMap) (H : HList) (b o : Nat) (vs : List Value) : Prop := ∀ j v, vs[j]? = some v → Cell R H ⟨b, o + j, none⟩ v
theorem CellsAt.known {R : RMap} {H : HList} {b o n : Nat} {cs : Array Value} {e : TypeId} {fz : Nat × Nat} {vs : List Value} (hm : R b = some (Obj.cells cs e fz)) (hv : (cs.toList.drop o).take n = vs) : CellsAt R H b o vs := by
 intro j v hj
 refine ⟨rfl, cs, e, fz, .inl hm, ?_⟩
 subst hv
 rw [List.getElem?_take] at hj
 split at hj
 ·rw [List.getElem?_drop] at hj
  simpa using hj
 ·cases hj
def putCells (cs : Array Value) : Nat → List Value → Array Value
 | _, [] => cs
 | o, v :: r => putCells (cs.setIfInBounds o v) (o + 1) r
theorem putCells_size : ∀ (vs : List Value) (cs : Array Value) (o : Nat), (putCells cs o vs).size = cs.size
 | [], _, _ => rfl
 | v :: r, cs, o => by simp only [putCells]; rw [putCells_size r]; simp
theorem HSet.mid {H H1 H' : HList} {b : Nat} {o o' o'' : Obj} (h : HSet H b o o' H1) (k : HSet H b o o'' H') (hn : (H.map (·.1)).Nodup) : HSet H1 b o' o'' H' := by
 induction h generalizing H' with
 | @here b o o' H =>
  cases k with
  | here => exact .here
  | there k =>
   rw [List.map_cons, List.nodup_cons] at hn
   exact absurd (List.mem_map.2 ⟨_, k.mem, rfl⟩) hn.1
 | @there b o o' p H H1 hs ih =>
  cases k with
  | here =>
   rw [List.map_cons, List.nodup_cons] at hn
   exact absurd (List.mem_map.2 ⟨_, hs.mem, rfl⟩) hn.1
  | there k =>
   rw [List.map_cons, List.nodup_cons] at hn
   exact .there (ih k hn.2)
section
variable {P : Program} {B : Base} {main : Bool} {𝒥 : Jd P B main} {c : Ctx} {R : RMap} {H H' : HList} {st st' : St} {o : Oper} {C : RMap → HList → St → Prop}
theorem SemOk.storeCells' {b : Nat} {e : TypeId} {K : Unit → RMap → HList → Prop} : ∀ (vs : List Value) (cs : Array Value) (off i : Nat) (H H' : HList), (∀ v ∈ vs, v.oneCell' = true) → off + i + vs.length ≤ cs.size →
  HSet H b (.cells cs e (0, 0)) (.cells (putCells cs (off + i) vs) e (0, 0)) H' → (H.map (·.1)).Nodup → K () R H' → SemOk P B R H (storeCells ⟨b, off, none⟩ vs i) K
 | [], cs, off, i, H, H', _, _, hs, hn, hk => by
  have e1 : H' = H := by
   have : ∀ {H H' : HList} {o : Obj}, HSet H b o o H' → H' = H := by
    intro H H' o h
    induction H generalizing H' with
    | nil => cases h
    | cons p r ih =>
     cases h with
     | here => rfl
     | there h => rw [ih h]
   exact this hs
  subst e1
  simp only [storeCells]
  exact SemOk.pure hk
 | v :: r, cs, off, i, H, H', h1, hl, hs, hn, hk => by
  simp only [storeCells]
  simp only [List.length_cons] at hl
  have hex : ∀ (H : HList) (o o' : Obj), (b, o) ∈ H → ∃ H1, HSet H b o o' H1 := by
   intro H o o' hm
   induction H with
   | nil => cases hm
   | cons p r ih =>
    rcases List.mem_cons.1 hm with rfl | hm
    ·exact ⟨_, .here⟩
    ·obtain ⟨H1, h1⟩ := ih hm
     exact ⟨_, .there h1⟩
  obtain ⟨H1, hs1⟩ := hex H _ (.cells (cs.setIfInBounds (off + i) v) e (0, 0)) hs.mem
  have hs2 : HSet H1 b (.cells (cs.setIfInBounds (off + i) v) e (0, 0)) (.cells (putCells cs (off + i) (v :: r)) e (0, 0)) H' := HSet.mid hs1 hs hn
  refine SemOk.bind ?_
  rw [add_none]
  refine SemOk.store (h1 v (by simp)) rfl (by show off + i < cs.size; omega) hs1 ?_
  exact SemOk.storeCells' r (cs.setIfInBounds (off + i) v) off (i + 1) H1 H' (fun u hu => h1 u (by simp [hu])) (by simp; omega) (by simpa [putCells, Nat.add_assoc] using hs2) (by rw [hs1.keys]; exact hn) hk
theorem SemOk.given {α : Type} {s : Sem α} {K : α → RMap → HList → Prop} (h : (H.map (·.1)).Nodup → SemOk P B R H s K) : SemOk P B R H s K := fun w hw => h hw.nd w hw
theorem SemOk.storeVar {t : TypeId} {b off n : Nat} {e : TypeId} {v : Value} {cs : Array Value} {K : Unit → RMap → HList → Prop} (hn : Val P (sizeOf t) n) (hvn : v.cells.size = n) (h1 : ∀ u ∈ v.cells.toList, u.oneCell' = true) (hl : off + n ≤ cs.size)
  (hs : HSet H b (.cells cs e (0, 0)) (.cells (putCells cs off v.cells.toList) e (0, 0)) H') (hk : K () R H') : SemOk P B R H (storeVar t ⟨b, off, none⟩ v) K := by
 refine SemOk.given fun hnd => ?_
 unfold Go.storeVar
 refine Val.bindOk hn ?_
 simp only [hvn, ne_eq, not_true_eq_false, if_false]
 exact SemOk.storeCells' _ cs off 0 H H' h1 (by simp [hvn]; exact hl) (by simpa using hs) hnd hk
theorem SemOk.loadCellsFrom {b off : Nat} {K : Array Value → RMap → HList → Prop} : ∀ (vs : List Value) (i : Nat) (acc : Array Value), CellsAt R H b (off + i) vs → K (acc ++ vs.toArray) R H → SemOk P B R H (loadCellsFrom ⟨b, off, none⟩ i vs.length acc) K
 | [], i, acc, _, hk => by
  simp only [List.length_nil, Go.loadCellsFrom]
  exact SemOk.pure (by simpa using hk)
 | v :: r, i, acc, hc, hk => by
  simp only [List.length_cons, Go.loadCellsFrom]
  refine SemOk.bind ?_
  rw [add_none]
  refine SemOk.load (v := v) (by simpa using hc 0 v rfl) ?_
  refine SemOk.loadCellsFrom r (i + 1) (acc.push v) (fun j u hj => ?_) (by simpa using hk)
  have := hc (j + 1) u (by simpa using hj)
  simpa [Nat.add_assoc, Nat.add_comm, Nat.add_left_comm] using this
theorem Ox.load1 {x : Operand} {t : TypeId} {b off : Nat} {v : Value} (hop : o.op = .load t x) (hx : evalS st x = some (.pointer (some ⟨b, off, none⟩))) (ht : OneTy P t) (hc : Cell R H ⟨b, off, none⟩ v)
  (hd : dstLt o.dst c.n) (hs : SubL (putS o.dst v st) st') (h : C R H st') : SemTo P B c o R H st C :=
 Ox.mem (s := fun ρ => Instr.loadAt t (ρ x)) (by rw [hop]; rfl) hd (fun ρ => by simp only [execOp, hop]) (fun ρ hρ => by
  rw [hρ x _ hx]
  simp only [Instr.loadAt, Instr.sureAddr, loadVar]
  refine Val.bindOk (Val.pure _) (Val.bindOk ht.1 ?_)
  exact SemOk.load hc ⟨st', hs, h⟩)
theorem Ox.loadN {x : Operand} {t : TypeId} {b off n : Nat} {vs : List Value} (hop : o.op = .load t x) (hx : evalS st x = some (.pointer (some ⟨b, off, none⟩))) (ht : AggTy P t n) (hn : vs.length = n) (hc : CellsAt R H b off vs)
  (hd : dstLt o.dst c.n) (hs : SubL (putS o.dst (.agg vs.toArray) st) st') (h : C R H st') : SemTo P B c o R H st C :=
 Ox.mem (s := fun ρ => Instr.loadAt t (ρ x)) (by rw [hop]; rfl) hd (fun ρ => by simp only [execOp, hop]) (fun ρ hρ => by
  rw [hρ x _ hx]
  simp only [Instr.loadAt, Instr.sureAddr, loadVar]
  refine Val.bindOk (Val.pure _) (Val.bindOk ht.1 ?_)
  simp only [if_true]
  refine Val.bindOk ht.2 (SemOk.bind ?_)
  subst hn
  exact SemOk.loadCellsFrom vs 0 #[] (by simpa using hc) (SemOk.pure ⟨st', by simpa using hs, h⟩))
theorem Ox.store1 {x y : Operand} {t e : TypeId} {b off : Nat} {v : Value} {cs cs' : Array Value} (hop : o.op = .store t x y) (hx : evalS st x = some (.pointer (some ⟨b, off, none⟩))) (hy : evalS st y = some v) (ht : OneTy P t) (hv : v.oneCell' = true) (hs : HSet H b (.cells cs e (0, 0)) (.cells cs' e (0, 0)) H') (hl : Nat.blt off cs.size = true) (hcs : cs.setIfInBounds off v = cs')
  (hd : o.dst = none) (hsub : SubL st st') (h : C R H' st') : SemTo P B c o R H st C :=
 Ox.memU (s := fun ρ => Instr.storeAt t (ρ x) (ρ y)) (by rw [hop]; rfl) hd (fun ρ => by simp only [execOp, hop]) hsub (fun ρ hρ => by
  rw [hρ x _ hx, hρ y _ hy]
  simp only [Instr.storeAt, Instr.sureAddr]
  refine Val.bindOk (Val.pure _) ?_
  have hvc : v.cells = #[v] := by cases v <;> first | rfl | (simp [Value.oneCell'] at hv)
  refine SemOk.storeVar (cs := cs) (e := e) ht.2 (by rw [hvc]; rfl) (by rw [hvc]; simpa using hv) (Nat.le_of_ble_eq_true hl) ?_ h
  rw [hvc]
  simpa [putCells, hcs] using hs)
theorem Ox.storeN {x y : Operand} {t e : TypeId} {b off n : Nat} {vs : Array Value} {cs cs' : Array Value} (hop : o.op = .store t x y) (hx : evalS st x = some (.pointer (some ⟨b, off, none⟩))) (hy : evalS st y = some (.agg vs)) (ht : AggTy P t n) (hn : vs.size = n) (h1 : ∀ u ∈ vs.toList, u.oneCell' = true) (hs : HSet H b (.cells cs e (0, 0)) (.cells cs' e (0, 0)) H') (hl : Nat.ble (off + n) cs.size = true) (hcs : putCells cs off vs.toList = cs')
  (hd : o.dst = none) (hsub : SubL st st') (h : C R H' st') : SemTo P B c o R H st C :=
 Ox.memU (s := fun ρ => Instr.storeAt t (ρ x) (ρ y)) (by rw [hop]; rfl) hd (fun ρ => by simp only [execOp, hop]) hsub (fun ρ hρ => by
  rw [hρ x _ hx, hρ y _ hy]
  simp only [Instr.storeAt, Instr.sureAddr]
  refine Val.bindOk (Val.pure _) ?_
  exact SemOk.storeVar (cs := cs) (e := e) ht.2 hn h1 (Nat.le_of_ble_eq_true hl) (by simpa [Value.cells, hcs] using hs) h)
theorem Ox.box1 {x : Operand} {t : TypeId} {v : Value} (hop : o.op = .box t x) (hx : evalS st x = some v) (hv : v.cells = #[v]) (hd : dstLt o.dst c.n)
  (h : ∀ b, R b = none → (∀ x, (b, x) ∉ H) → ∃ st', SubL (putS o.dst (.pointer (some ⟨b, 0, none⟩)) st) st' ∧ C R ((b, .cells #[v] t) :: H) st') : SemTo P B c o R H st C :=
 Ox.mem (s := fun ρ => Instr.box t (ρ x)) (by rw [hop]; rfl) hd (fun ρ => by simp only [execOp, hop]) (fun ρ hρ => by
  rw [hρ x _ hx]
  simp only [Instr.box, newVar, newRow, hv]
  exact SemOk.bind (SemOk.bind (SemOk.new fun b h1 h2 => SemOk.pure (SemOk.pure (h b h1 h2)))))
theorem Ox.boxN {x : Operand} {t : TypeId} {vs : Array Value} (hop : o.op = .box t x) (hx : evalS st x = some (.agg vs)) (hd : dstLt o.dst c.n)
  (h : ∀ b, R b = none → (∀ x, (b, x) ∉ H) → ∃ st', SubL (putS o.dst (.pointer (some ⟨b, 0, none⟩)) st) st' ∧ C R ((b, .cells vs t) :: H) st') : SemTo P B c o R H st C :=
 Ox.mem (s := fun ρ => Instr.box t (ρ x)) (by rw [hop]; rfl) hd (fun ρ => by simp only [execOp, hop]) (fun ρ hρ => by
  rw [hρ x _ hx]
  simp only [Instr.box, newVar, newRow, Value.cells]
  exact SemOk.bind (SemOk.bind (SemOk.new fun b h1 h2 => SemOk.pure (SemOk.pure (h b h1 h2)))))
theorem Ox.alloc {t : TypeId} {cs : Array Value} (hop : o.op = .alloc t) (ht : ZeroTy P t cs) (hd : dstLt o.dst c.n)
  (h : ∀ b, R b = none → (∀ x, (b, x) ∉ H) → ∃ st', SubL (putS o.dst (.pointer (some ⟨b, 0, none⟩)) st) st' ∧ C R ((b, .cells cs t) :: H) st') : SemTo P B c o R H st C :=
 Ox.mem (s := fun _ => Instr.alloc t true (.tuple #[])) (by rw [hop]; rfl) hd (fun ρ => by simp only [execOp, hop]) (fun ρ hρ => by
  obtain ⟨z, hz, rfl⟩ := ht
  simp only [Instr.alloc, newVar, newRow]
  exact Val.bindOk hz (SemOk.bind (SemOk.bind (SemOk.new fun b h1 h2 => SemOk.pure (SemOk.pure (h b h1 h2))))))
def partsS (st : St) : List (Nat × Operand) → Option (List (Nat × Value))
 | [] => some []
 | (j, x) :: r => match evalS st x, partsS st r with
  | some v, some vs => some ((j, v) :: vs)
  | _, _ => none
theorem partsS_eval {ρ : Operand → Value} (hρ : Knows st ρ) : ∀ (l : List (Nat × Operand)) (r : List (Nat × Value)), partsS st l = some r → l.map (fun (j, x) => (j, ρ x)) = r
 | [], r, h => by cases h; rfl
 | (j, x) :: l, r, h => by
  simp only [partsS] at h
  cases hx : evalS st x with
  | none => simp [hx] at h
  | some v =>
   cases hl : partsS st l with
   | none => simp [hx, hl] at h
   | some vs =>
    simp [hx, hl] at h
    subst h
    simp [hρ x v hx, partsS_eval hρ l vs hl]
def StructTy (P : Program) (t : TypeId) (places : List (Nat × Nat)) (z : Array Value) : Prop :=
 ZeroTy P t z ∧ ∃ fs : Array Field, P.underlying t = some (.struct fs) ∧ Val P (fs.mapM fun f => do pure (f.offset, ← sizeOf f.type)) places.toArray
theorem Ox.build {t : TypeId} {parts : Array (Nat × Operand)} {ps : List (Nat × Value)} {places : List (Nat × Nat)} {z cells : Array Value} (hop : o.op = .build t parts) (ht : StructTy P t places z) (hp : partsS st parts.toList = some ps) (hf : Instr.fill (places.toArray[·]?) z ps = some cells)
  (hd : dstLt o.dst c.n) (hs : SubL (putS o.dst (.agg cells) st) st') (h : C R H st') : SemTo P B c o R H st C :=
 Ox.val' (s := fun ρ => Instr.build t (parts.map fun (j, x) => (j, ρ x))) (by rw [hop]; rfl) hd (fun ρ => by simp only [execOp, hop]) (fun ρ hρ => by
  obtain ⟨⟨z0, hz, rfl⟩, fs, h1, h2⟩ := ht
  have e : (parts.map fun (j, x) => (j, ρ x)) = ps.toArray := by apply Array.ext'; simpa using partsS_eval hρ _ _ hp
  rw [e]
  unfold Instr.build
  refine Val.bind hz (Val.bind (Val.underlying h1) (Val.bind h2 ?_))
  simp only [hf]
  exact Val.pure _) hs h
def ElemTy (P : Program) (t e n : Nat) (z : Array Value) : Prop := P.underlying t = some (.slice e) ∧ Val P (sizeOf e) n ∧ ZeroTy P e z ∧ z.size = n ∧ 0 < n
theorem Ox.buildSlice {t e n len : Nat} {parts : Array (Nat × Operand)} {ps : List (Nat × Value)} {z base cells : Array Value} (hop : o.op = .buildSlice t len parts) (ht : ElemTy P t e n z) (hp : partsS st parts.toList = some ps) (hlen : len * n ≤ 16777216)
  (hb : (Array.range (len * n)).map (z[· % z.size]!) = base) (hf : Instr.fill (fun j => some (j * n, n)) base ps = some cells) (hd : dstLt o.dst c.n)
  (h : ∀ b, R b = none → (∀ x, (b, x) ∉ H) → ∃ st', SubL (putS o.dst (.slice (some ⟨b, 0, none⟩) len len) st) st' ∧ C R ((b, .cells cells e) :: H) st') : SemTo P B c o R H st C :=
 Ox.mem (s := fun ρ => Instr.buildSlice t len (parts.map fun (j, x) => (j, ρ x))) (by rw [hop]; rfl) hd (fun ρ => by simp only [execOp, hop]) (fun ρ hρ => by
  subst hb
  obtain ⟨h1, h2, ⟨z0, hz, rfl⟩, h3, h4⟩ := ht
  have ep : (parts.map fun (j, x) => (j, ρ x)) = ps.toArray := by apply Array.ext'; simpa using partsS_eval hρ _ _ hp
  rw [ep]
  unfold Instr.buildSlice
  refine Val.bindOk (Val.underlying h1) (Val.bindOk h2 ?_)
  have hl : ¬ (len * n > 2 ^ 24) := by omega
  simp only [hl, if_false]
  have last : SemOk P B R H (do let a ← newRow e cells; pure (.slice (some a) len len)) fun v R' H' => ∃ st', SubL (putS o.dst v st) st' ∧ C R' H' st' := by
   simp only [newRow]
   exact SemOk.bind (SemOk.bind (SemOk.new fun b h1 h2 => SemOk.pure (SemOk.pure (h b h1 h2))))
  by_cases h0 : len * n = 0
  ·simp only [h0, if_true]
   refine Val.bindOk (Val.pure _) ?_
   have hr : ∀ f : Nat → Value, (Array.range 0).map f = #[] := fun f => by simp [Array.range]
   simp only [h0, hr] at hf ⊢
   simp only [hf]
   exact last
  ·simp only [h0, if_false]
   refine Val.bindOk hz (Val.bindOk (Val.pure _) ?_)
   simp only [hf]
   exact last)
end
end Go.Lg
namespace Go.Lg
open Go.Conc
def RLe (R R' : RMap) : Prop := ∀ b o, R b = some o → R' b = some o
theorem RLe.refl (R : RMap) : RLe R R := fun _ _ h => h
theorem RLe.trans {R R' R'' : RMap} (h : RLe R R') (k : RLe R' R'') : RLe R R'' := fun b o x => k b o (h b o x)
section
variable {P : Program} {B : Base} {main : Bool} (𝒥 : Jd P B main)
def OpStep (c : Ctx) (S : HList) (ops : Array Oper) (i : Nat) (tmps : Array Value) (R : RMap) (H : HList) (K : Array Value → RMap → HList → Prop) : Prop :=
 ∃ o, ops[i]? = some o ∧ isDefer o.op = false ∧
  ((Region.wanted o (yielded ops tmps) = false ∧ K (putT o.dst undef tmps) R H) ∨
   (Region.wanted o (yielded ops tmps) = true ∧
   ((SemOk P B R H (execOp (frm c tmps []).eval o) fun nx R' H' => ∃ v, (nx = .value v ∨ (nx = .skip ∧ v = undef)) ∧ RLe R R' ∧ (∀ p ∈ S, p ∈ H → p ∈ H') ∧ K (putT o.dst v tmps) R' H') ∨
    (∃ f args, Val P (execOp (frm c tmps []).eval o) (.enter f args) ∧ FnOk 𝒥 f args R H fun v R' H' => RLe R R' ∧ (∀ p ∈ S, p ∈ H → p ∈ H') ∧ K (putT o.dst v tmps) R' H'))))
theorem J.given {R : RMap} {H : HList} {g : Goroutine} (hs : g.status = .running) (h : (∃ w, Fits B R H w) → 𝒥.J R H g) : 𝒥.J R H g := by
 by_cases hw : ∃ w, Fits B R H w
 ·exact h hw
 ·exact 𝒥.step hs fun w hf => absurd ⟨w, hf⟩ hw
def readyR (ops : Array Oper) (rem : List Nat) (i : Nat) : Bool := match ops[i]? with
 | some o => o.after.all fun e => !Region.binds .any e || !rem.contains e.on
 | none => false
def anyR (c : Ctx) (S : Nat → HList) (ops : Array Oper) (Q : Array Value → RMap → HList → Prop) : Nat → List Nat → Array Value → RMap → HList → Prop
 | 0, rem, t, R, H => rem = [] ∧ Q t R H
 | n + 1, rem, t, R, H => (rem = [] ∧ Q t R H) ∨ (rem ≠ [] ∧ ((∃ w, Fits B R H w) → ∀ i ∈ rem, readyR ops rem i = true → OpStep 𝒥 c (S i) ops i t R H fun t' R' H' => anyR c S ops Q n (rem.erase i) t' R' H'))
variable {𝒥}
def backward (ops : Array Oper) : Bool := (List.range ops.size).all fun i => match ops[i]? with
 | some o => o.after.all fun e => !Region.binds .any e || decide (e.on < i)
 | none => true
theorem eval_frm (c : Ctx) (tmps : Array Value) (todo : List Item) : (frm c tmps todo).eval = (frm c tmps []).eval := by
 funext x; cases x <;> rfl
theorem J_opstep {c : Ctx} {S : HList} {ops : Array Oper} {i : Nat} {rest : List Nat} {k : List Item} {tmps : Array Value} {R : RMap} {H : HList} {K : Array Value → RMap → HList → Prop} (hk : (c.kind == CallKind.early) = false) (h : OpStep 𝒥 c S ops i tmps R H K)
  (hK : ∀ t R' H', K t R' H' → 𝒥.J R' H' (gor (frm c t (.inRegion ops rest :: k)) c.cs)) : 𝒥.J R H (gor (frm c tmps (.inRegion ops (i :: rest) :: k)) c.cs) := by
 obtain ⟨o, ho, hd, h⟩ := h
 have hke : (frm c tmps (.inRegion ops (i :: rest) :: k)).kind ≠ .early := by show c.kind ≠ _; simpa using hk
 rcases h with ⟨h1, h2⟩ | ⟨h1, h2 | ⟨f, args, h2, h3⟩⟩
 ·exact Jd.ctl rfl (fun w => stepG_unwanted' ho h1) (hK _ _ _ h2)
 ·refine 𝒥.step rfl fun w hwf => ?_
  obtain ⟨nx, w', R', H', e1, e2, e3, v, hv, _, _, hKK⟩ := h2 w hwf
  refine ⟨gor (frm c (putT o.dst v tmps) (.inRegion ops rest :: k)) c.cs, w', seen P c.fn ((execOp (frm c tmps []).eval o).events P w #[]), R', H', ?_, fun e he => e2 e (mem_seen he), e3, hK _ _ _ hKK⟩
  rw [stepG_oper' ho h1 hd, ← finish_frm (rest := rest) (k := k) (c := c) (tmps := tmps) (v := v) ho, eval_frm]
  rcases hv with rfl | ⟨rfl, rfl⟩
  ·exact apply_value hke e1
  ·exact apply_skip hke e1
 ·refine 𝒥.step rfl fun w hwf => ?_
  have hv := h2 w
  refine ⟨gor (Frame.enter P f args .normal) (frm c tmps (.inRegion ops (i :: rest) :: k) :: c.cs), w, seen P c.fn ((execOp (frm c tmps []).eval o).events P w #[]), R, H, ?_, ?_, Upd.refl hwf, h3 _ _ fun v R' H' hp => ?_⟩
  ·rw [stepG_oper' ho h1 hd, eval_frm]
   exact apply_enter rfl hke hv.1
  ·intro e hee
   have := mem_seen hee
   rw [hv.2] at this
   simp at this
  ·rw [finish_frm ho]
   exact hK _ _ _ hp.2.2
def Agree (ops : Array Oper) (listed : Array Bool) (rem : List Nat) : Prop := listed.size = ops.size ∧ rem.Nodup ∧ (∀ i, i ∈ rem ↔ (i < ops.size ∧ listed.getD i true = false))
theorem getD_set {listed : Array Bool} {i j : Nat} {d : Bool} (hi : i < listed.size) : (listed.setIfInBounds i true).getD j d = if i = j then true else listed.getD j d := by
 simp only [Array.getD_eq_getD_getElem?]
 by_cases h : i = j
 ·subst h; simp [hi]
 ·rw [if_neg h, Array.getElem?_setIfInBounds_ne h]
theorem Agree.erase {ops : Array Oper} {listed : Array Bool} {rem : List Nat} (h : Agree ops listed rem) {i : Nat} (hi : i ∈ rem) : Agree ops (listed.setIfInBounds i true) (rem.erase i) := by
 obtain ⟨h1, h2, h3⟩ := h
 have hlt : i < listed.size := by rw [h1]; exact ((h3 i).1 hi).1
 refine ⟨by simp [h1], h2.erase _, fun j => ?_⟩
 rw [h2.mem_erase_iff, h3 j, getD_set hlt]
 by_cases e : i = j
 ·subst e; simp
 ·simp [e, Ne.symm e]
theorem least_mem : ∀ (l : List Nat), l ≠ [] → ∃ m ∈ l, ∀ x ∈ l, m ≤ x
 | [], h => absurd rfl h
 | [a], _ => ⟨a, by simp, by simp⟩
 | a :: b :: r, _ => by
  obtain ⟨m, hm, hl⟩ := least_mem (b :: r) (by simp)
  by_cases h : a ≤ m
  ·exact ⟨a, by simp, fun x hx => by
    rcases List.mem_cons.1 hx with rfl | hx
    ·exact Nat.le_refl _
    ·exact Nat.le_trans h (hl x hx)⟩
  ·exact ⟨m, List.mem_cons_of_mem _ hm, fun x hx => by
    rcases List.mem_cons.1 hx with rfl | hx
    ·omega
    ·exact hl x hx⟩
theorem J_linearise {c : Ctx} {S : Nat → HList} {ops : Array Oper} {k : List Item} {Q : Array Value → RMap → HList → Prop} (hk : (c.kind == CallKind.early) = false) (hb : backward ops = true)
  (hQ : ∀ t R H, Q t R H → 𝒥.J R H (gor (frm c t k) c.cs)) : ∀ (fuel t : Nat) (listed : Array Bool) (acc : List Nat) (rem : List Nat) (tmps : Array Value) (R : RMap) (H : HList), Agree ops listed rem → rem.length ≤ fuel →
   anyR 𝒥 c S ops Q fuel rem tmps R H → ∃ is, Region.linearise.go .any ops fuel t listed acc = acc.reverse ++ is ∧ 𝒥.J R H (gor (frm c tmps (.inRegion ops is :: k)) c.cs)
 | 0, t, listed, acc, rem, tmps, R, H, _, _, h => ⟨[], by simp [Region.linearise.go], Jd.ctl rfl (fun w => by simp [stepG, stepG.exec, gor, frm]) (hQ _ _ _ h.2)⟩
 | fuel + 1, t, listed, acc, rem, tmps, R, H, hA, hl, h => by
  generalize hrs : ((List.range ops.size).filter fun i => !listed.getD i true && ((ops[i]?).map (·.after.all fun e => !Region.binds .any e || listed.getD e.on false)).getD false) = rs
  have hmem : ∀ i, i ∈ rs → i ∈ rem ∧ readyR ops rem i = true := by
   intro i hi
   rw [← hrs] at hi
   simp only [List.mem_filter, List.mem_range, Bool.and_eq_true, Bool.not_eq_true'] at hi
   obtain ⟨h1, h2, h3⟩ := hi
   refine ⟨(hA.2.2 i).2 ⟨h1, h2⟩, ?_⟩
   unfold readyR
   cases ho : ops[i]? with
   | none => simp [ho] at h3
   | some o =>
    simp only [ho, Option.map_some, Option.getD_some, Array.all_eq_true_iff_forall_mem] at h3 ⊢
    intro e he
    have := h3 e he
    rcases Bool.or_eq_true_iff.1 this with x | x
    ·simp [x]
    ·have hn : e.on ∉ rem := fun hm => by
      have := ((hA.2.2 e.on).1 hm).2
      have hlt : e.on < listed.size := by rw [hA.1]; exact ((hA.2.2 e.on).1 hm).1
      simp only [Array.getD_eq_getD_getElem?, Array.getElem?_eq_getElem hlt, Option.getD_some] at this x
      rw [x] at this; cases this
     simp [hn]
  rcases h with ⟨rfl, hq⟩ | ⟨hne, hall⟩
  ·have hrs0 : rs = [] := by
    cases rs with
    | nil => rfl
    | cons a r => exact absurd (hmem a (by simp)).1 (by simp)
   refine ⟨[], ?_, Jd.ctl rfl (fun w => by simp [stepG, stepG.exec, gor, frm]) (hQ _ _ _ hq)⟩
   unfold Region.linearise.go
   simp only [hrs, hrs0]
   simp
  ·
   have hrsne : rs ≠ [] := by
    obtain ⟨m, hm, hleast⟩ := least_mem rem hne
    have hmlt := ((hA.2.2 m).1 hm).1
    have : m ∈ rs := by
     rw [← hrs]
     simp only [List.mem_filter, List.mem_range, Bool.and_eq_true, Bool.not_eq_true']
     refine ⟨hmlt, ((hA.2.2 m).1 hm).2, ?_⟩
     have ho : ops[m]? = some ops[m] := Array.getElem?_eq_getElem hmlt
     simp only [ho, Option.map_some, Option.getD_some, Array.all_eq_true_iff_forall_mem]
     intro e he
     unfold backward at hb
     rw [List.all_eq_true] at hb
     have hb' := hb m (List.mem_range.2 hmlt)
     simp only [ho, Array.all_eq_true_iff_forall_mem] at hb'
     rcases Bool.or_eq_true_iff.1 (hb' e he) with x | x
     ·simp [x]
     ·have hlt : e.on < m := by simpa using x
      have hn : e.on ∉ rem := fun hm' => by have := hleast _ hm'; omega
      have hl' : e.on < listed.size := by rw [hA.1]; omega
      have h1 : listed.getD e.on true = true := by
       cases hh : listed.getD e.on true with
       | true => rfl
       | false => exact absurd ((hA.2.2 e.on).2 ⟨by omega, hh⟩) hn
      simp only [Array.getD_eq_getD_getElem?, Array.getElem?_eq_getElem hl', Option.getD_some] at h1 ⊢
      simp [h1]
    intro e; rw [e] at this; cases this
   have hlen : t % rs.length < rs.length := Nat.mod_lt _ (by
    cases rs with
    | nil => exact absurd rfl hrsne
    | cons _ _ => simp)
   have hi : rs[t % rs.length]? = some rs[t % rs.length] := List.getElem?_eq_getElem hlen
   generalize rs[t % rs.length] = i at hi
   obtain ⟨hir, hrd⟩ := hmem i (List.mem_of_getElem? hi)
   have hstep := fun hw => hall hw i hir hrd
   have hlt : (rem.erase i).length ≤ fuel := by rw [List.length_erase_of_mem hir]; omega
   have hgo : ∀ acc', ∃ is, Region.linearise.go .any ops fuel (t / rs.length) (listed.setIfInBounds i true) acc' = acc'.reverse ++ is := fun acc' => ⟨_, linearise_go_acc .any ops fuel (t / rs.length) (listed.setIfInBounds i true) acc'⟩
   obtain ⟨is, his⟩ := hgo (i :: acc)
   refine ⟨i :: is, ?_, ?_⟩
   ·rw [Region.linearise.go]
    simp only [hrs, hi]
    rw [his]; simp
   ·refine J.given 𝒥 rfl fun hw => ?_
    refine J_opstep hk (hstep hw) fun t' R' H' hK => ?_
    obtain ⟨is', h1, h2⟩ := J_linearise hk hb hQ fuel (t / rs.length) (listed.setIfInBounds i true) (i :: acc) (rem.erase i) t' R' H' (hA.erase hir) hlt hK
    rw [his] at h1
    have : is = is' := by simpa using h1
    rw [this]; exact h2
end
section
variable {P : Program} {B : Base} {main : Bool} {𝒥 : Jd P B main}
def noSelect (o : Oper) : Bool := match o.op with | .select _ _ => false | _ => true
def looks (ops : Array Oper) (o : Oper) : List Nat :=
 (o.op.operands.toList.filterMap fun | .tmp t => some t | _ => none) ++ (match o.guard with | some (j, _) => ((ops[j]?).bind (·.dst)).toList | none => [])
def apartR (ops : Array Oper) (a b : Oper) : Bool :=
 (match a.dst with | some d => !(looks ops b).contains d && b.dst != some d | none => true) && (match b.dst with | some d => !(looks ops a).contains d | none => true)
theorem putT_comm {a b : Option Tmp} {v u : Value} {t : Array Value} (h : ∀ d, a = some d → b ≠ some d) : putT a v (putT b u t) = putT b u (putT a v t) := by
 cases a with
 | none => rfl
 | some x => cases b with
  | none => rfl
  | some y =>
   have hne : x ≠ y := fun e => h x rfl (by rw [e])
   simp only [putT]
   exact Array.setIfInBounds_comm u v (Ne.symm hne)
theorem eval_putT {c : Ctx} {t : Array Value} {dst : Option Tmp} {v : Value} {x : Operand} (h : ∀ d, dst = some d → x ≠ .tmp d) : (frm c (putT dst v t) []).eval x = (frm c t []).eval x := by
 cases dst with
 | none => rfl
 | some d => cases x with
  | tmp y =>
   have hne : d ≠ y := fun e => h d rfl (by rw [e])
   simp only [frm, Frame.eval, putT, Array.getD_eq_getD_getElem?]
   rw [Array.getElem?_setIfInBounds_ne hne]
  | _ => rfl
theorem exec_putT {c : Ctx} {ops : Array Oper} {t : Array Value} {dst : Option Tmp} {v : Value} {o : Oper} (hs : noSelect o = true) (h : ∀ d, dst = some d → d ∉ looks ops o) : execOp (frm c (putT dst v t) []).eval o = execOp (frm c t []).eval o := by
 refine execOp_congr o (fun cs b e => by rw [noSelect, e] at hs; cases hs) fun x hx => eval_putT fun d hd e => h d hd ?_
 subst e
 unfold looks
 exact List.mem_append_left _ (List.mem_filterMap.2 ⟨_, Array.mem_toList_iff.2 hx, rfl⟩)
theorem wanted_putT {ops : Array Oper} {t : Array Value} {dst : Option Tmp} {v : Value} {o : Oper} (h : ∀ d, dst = some d → d ∉ looks ops o) : Region.wanted o (yielded ops (putT dst v t)) = Region.wanted o (yielded ops t) := by
 unfold Region.wanted
 cases hg : o.guard with
 | none => rfl
 | some g =>
  obtain ⟨j, want⟩ := g
  simp only [yielded]
  cases hd : (ops[j]?).bind (·.dst) with
  | none => rfl
  | some d =>
   simp only [Option.bind_some]
   cases dst with
   | none => rfl
   | some d' =>
    have hne : d' ≠ d := fun e => h d' rfl (by
     subst e
     unfold looks
     rw [hg]
     exact List.mem_append_right _ (by simp [hd]))
    simp only [putT]
    rw [Array.getElem?_setIfInBounds_ne hne]
theorem apart_looks {ops : Array Oper} {a b : Oper} (h : apartR ops a b = true) : (∀ d, a.dst = some d → d ∉ looks ops b ∧ b.dst ≠ some d) ∧ (∀ d, b.dst = some d → d ∉ looks ops a) := by
 unfold apartR at h
 rw [Bool.and_eq_true] at h
 refine ⟨fun d hd => ?_, fun d hd => ?_⟩
 ·rw [hd] at h; simpa using h.1
 ·rw [hd] at h; simpa using h.2
theorem OpStep.putT {c : Ctx} {S : HList} {ops : Array Oper} {j : Nat} {oi oj : Oper} {t : Array Value} {v : Value} {R : RMap} {H : HList} {K1 K : Array Value → RMap → HList → Prop} (hj : ops[j]? = some oj) (hs : noSelect oj = true) (hap : apartR ops oi oj = true) {F : HList} (hS : ∀ p ∈ F, p ∈ H) (hFS : ∀ p ∈ F, p ∈ S)
  (h : OpStep 𝒥 c S ops j (putT oi.dst v t) R H K1) (hK : ∀ u R' H', RLe R R' → (∀ p ∈ F, p ∈ H') → K1 (Go.Lg.putT oj.dst u (Go.Lg.putT oi.dst v t)) R' H' → K (Go.Lg.putT oj.dst u t) R' H') : OpStep 𝒥 c S ops j t R H K := by
 obtain ⟨h1, h2⟩ := apart_looks hap
 obtain ⟨o, ho, hd, h⟩ := h
 obtain rfl : o = oj := Option.some.inj (ho.symm.trans hj)
 rw [wanted_putT (fun d hd => (h1 d hd).1), exec_putT hs (fun d hd => (h1 d hd).1)] at h
 refine ⟨o, ho, hd, ?_⟩
 rcases h with ⟨a, b⟩ | ⟨a, b | ⟨f, args, b, b'⟩⟩
 ·exact .inl ⟨a, hK _ _ _ (RLe.refl _) hS b⟩
 ·exact .inr ⟨a, .inl (b.mono fun nx R' H' ⟨u, x, y, z, hk⟩ => ⟨u, x, y, z, hK _ _ _ y (fun p hp => z p (hFS p hp) (hS p hp)) hk⟩)⟩
 ·exact .inr ⟨a, .inr ⟨f, args, b, b'.mono fun u R' H' ⟨y, z, hk⟩ => ⟨y, z, hK _ _ _ y (fun p hp => z p (hFS p hp) (hS p hp)) hk⟩⟩⟩
def Floats (P : Program) (B : Base) (S : HList) (R : RMap) (ρ : Operand → Value) (o : Oper) (v : Value) : Prop :=
 ∀ R' H', RLe R R' → (∀ p ∈ S, p ∈ H') → SemOk P B R' H' (execOp ρ o) fun nx R'' H'' => (nx = .value v ∨ (nx = .skip ∧ v = undef)) ∧ R'' = R' ∧ H'' = H'
def takeOk (ops : Array Oper) (rem : List Nat) (i : Nat) (D : List Nat) : Bool :=
 rem.contains i && readyR ops rem i && !D.contains i && D.all (fun j => rem.contains j && match ops[j]? with | some o => o.after.any fun e => Region.binds .any e && (e.on == i || D.contains e.on) | none => false) &&
 (match ops[i]? with | some oi => noSelect oi && rem.all (fun j => j == i || D.contains j || match ops[j]? with | some oj => noSelect oj && apartR ops oi oj | none => false) | none => false)
theorem takeOk_erase {ops : Array Oper} {rem : List Nat} {i j : Nat} {D : List Nat} (h : takeOk ops rem i D = true) (hji : j ≠ i) (hjD : j ∉ D) : takeOk ops (rem.erase j) i D = true := by
 unfold takeOk at h ⊢
 simp only [Bool.and_eq_true, Bool.not_eq_true', List.all_eq_true, List.contains_iff_mem] at h ⊢
 obtain ⟨⟨⟨⟨h1, h2⟩, h3⟩, h4⟩, h5⟩ := h
 refine ⟨⟨⟨⟨(List.mem_erase_of_ne (Ne.symm hji)).2 h1, ?_⟩, h3⟩, fun x hx => ⟨(List.mem_erase_of_ne (fun e => hjD (by rw [← e]; exact hx))).2 (h4 x hx).1, (h4 x hx).2⟩⟩, ?_⟩
 ·unfold readyR at h2 ⊢
  cases ho : ops[i]? with
  | none => simp [ho] at h2
  | some o =>
   simp only [ho, Array.all_eq_true_iff_forall_mem] at h2 ⊢
   intro e he
   have := h2 e he
   rcases Bool.or_eq_true_iff.1 this with x | x
   ·simp [x]
   ·have hn : e.on ∉ rem := by simpa using x
    have : e.on ∉ rem.erase j := fun hm => hn (List.mem_of_mem_erase hm)
    simp [this]
 ·cases ho : ops[i]? with
  | none => simp [ho] at h5
  | some oi =>
   simp only [ho, Bool.and_eq_true, List.all_eq_true] at h5 ⊢
   exact ⟨h5.1, fun x hx => h5.2 x (List.mem_of_mem_erase hx)⟩
theorem anyR_take {c : Ctx} {S : Nat → HList} {ops : Array Oper} {Q : Array Value → RMap → HList → Prop} {i : Nat} {oi : Oper} {D : List Nat} {N : HList} {v : Value} (hi : ops[i]? = some oi) (hd : isDefer oi.op = false) : ∀ (n : Nat) (rem : List Nat) (t : Array Value) (R : RMap) (H : HList),
  takeOk ops rem i D = true → rem.Nodup → (∀ p ∈ N, p ∈ H) → (∀ j ∈ rem, j ≠ i → j ∉ D → ∀ p ∈ N, p ∈ S j) → ((Region.wanted oi (yielded ops t) = true ∧ Floats P B N R (frm c t []).eval oi v) ∨ (Region.wanted oi (yielded ops t) = false ∧ v = undef)) → anyR 𝒥 c S ops Q n (rem.erase i) (putT oi.dst v t) R H → anyR 𝒥 c S ops Q (n + 1) rem t R H := by
 intro n
 induction n with
 | zero =>
  intro rem t R H htk hnd hS hSS hwf h
  unfold takeOk at htk
  simp only [Bool.and_eq_true, List.contains_iff_mem] at htk
  have hmem : i ∈ rem := htk.1.1.1.1
  refine .inr ⟨(fun e => by rw [e] at hmem; cases hmem), fun _ j hj _ => ?_⟩
  have hji : j = i := by
   by_cases e : j = i
   ·exact e
   ·exact absurd ((List.mem_erase_of_ne e).2 hj) (by rw [h.1]; simp)
  subst hji
  rcases hwf with ⟨hw, hf⟩ | ⟨hw, rfl⟩
  ·exact ⟨oi, hi, hd, .inr ⟨hw, .inl ((hf R H (RLe.refl _) hS).mono fun nx R' H' ⟨e1, e2, e3⟩ => by subst e2 e3; exact ⟨v, e1, RLe.refl _, (fun _ _ h => h), h⟩)⟩⟩
  ·exact ⟨oi, hi, hd, .inl ⟨hw, h⟩⟩
 | succ n ih =>
  intro rem t R H htk hnd hS hSS hwf h
  have htk0 := htk
  unfold takeOk at htk
  simp only [Bool.and_eq_true, List.contains_iff_mem, Bool.not_eq_true', List.all_eq_true] at htk
  obtain ⟨⟨⟨⟨hmem, hrdy⟩, hiD⟩, hD⟩, hall⟩ := htk
  rw [hi] at hall
  simp only [Bool.and_eq_true, List.all_eq_true] at hall
  obtain ⟨hnosel, hall⟩ := hall
  refine .inr ⟨(fun e => by rw [e] at hmem; cases hmem), fun hww j hj hjr => ?_⟩
  by_cases hji : j = i
  ·subst hji
   rcases hwf with ⟨hw, hf⟩ | ⟨hw, rfl⟩
   ·exact ⟨oi, hi, hd, .inr ⟨hw, .inl ((hf R H (RLe.refl _) hS).mono fun nx R' H' ⟨e1, e2, e3⟩ => by subst e2 e3; exact ⟨v, e1, RLe.refl _, (fun _ _ h => h), h⟩)⟩⟩
   ·exact ⟨oi, hi, hd, .inl ⟨hw, h⟩⟩
  ·
   have hjD : j ∉ D := fun hjD => by
    obtain ⟨_, hx⟩ := hD j hjD
    unfold readyR at hjr
    cases ho : ops[j]? with
    | none => simp [ho] at hx
    | some o =>
     simp only [ho, Array.all_eq_true_iff_forall_mem] at hjr hx
     rw [Array.any_eq_true'] at hx
     obtain ⟨e, he, hx⟩ := hx
     have hr := hjr e he
     rw [Bool.and_eq_true] at hx
     have hin : e.on ∈ rem := by
      rcases Bool.or_eq_true_iff.1 hx.2 with x | x
      ·have : e.on = i := by simpa using x
       rw [this]; exact hmem
      ·have hxD : e.on ∈ D := by simpa using x
       exact (hD _ hxD).1
     simp [hx.1, hin] at hr
   have hj' := hall j hj
   have hjx : ∃ oj, ops[j]? = some oj ∧ noSelect oj = true ∧ apartR ops oi oj = true := by
    cases ho : ops[j]? with
    | none => simp [hji, hjD, ho] at hj'
    | some oj => simp [hji, hjD, ho] at hj'; exact ⟨oj, rfl, hj'.1, hj'.2⟩
   obtain ⟨oj, hoj, hsel, hap⟩ := hjx
   rcases h with ⟨he, _⟩ | ⟨_, hsteps⟩
   ·exact absurd ((List.mem_erase_of_ne hji).2 hj) (by rw [he]; simp)
   have hjr' : readyR ops (rem.erase i) j = true := by
    unfold readyR at hjr ⊢
    simp only [hoj, Array.all_eq_true_iff_forall_mem] at hjr ⊢
    intro e he
    have := hjr e he
    rcases Bool.or_eq_true_iff.1 this with x | x
    ·simp [x]
    ·have hn : e.on ∉ rem := by simpa using x
     have : e.on ∉ rem.erase i := fun hm => hn (List.mem_of_mem_erase hm)
     simp [this]
   have hstep := hsteps hww j ((List.mem_erase_of_ne hji).2 hj) hjr'
   obtain ⟨ha1, ha2⟩ := apart_looks hap
   refine OpStep.putT (oi := oi) (v := v) hoj hsel hap hS (hSS j hj hji hjD) hstep fun u R' H' hR hS' hA => ?_
   refine ih (rem.erase j) (putT oj.dst u t) R' H' (takeOk_erase htk0 hji hjD) (hnd.erase _) hS' (fun x hx => hSS x (List.mem_of_mem_erase hx)) ?_ ?_
   ·rw [wanted_putT (fun d hd => ha2 d hd)]
    refine hwf.imp (fun ⟨hw, hf⟩ => ⟨hw, fun R'' H'' hR'' hS'' => ?_⟩) id
    rw [exec_putT (ops := ops) hnosel (fun d hd => ha2 d hd)]
    exact hf R'' H'' (hR.trans hR'') hS''
   ·rw [List.erase_comm, putT_comm (a := oi.dst) (b := oj.dst) (fun d hd => (ha1 d hd).2)]
    exact hA
variable {c : Ctx} {S : Nat → HList} {ops : Array Oper} {k : List Item} {R : RMap} {H : HList} {st st' : St} {rem : List Nat} {n : Nat}
def Any (𝒥 : Jd P B main) (c : Ctx) (S : Nat → HList) (ops : Array Oper) (k : List Item) (n : Nat) (rem : List Nat) (R : RMap) (H : HList) (st : St) : Prop :=
 rem.Nodup ∧ ∀ tmps, Rep c.n st tmps → anyR 𝒥 c S ops (fun t R H => 𝒥.J R H (gor (frm c t k) c.cs)) n rem tmps R H
theorem At.draw {id : Nat} {is : List Nat} {n : Nat} (S : Nat → HList) (hm : P.follows .mixedOrders = true) (hk : (c.kind == CallKind.early) = false) (hb : backward ops = true) (hn : ops.size = n) (his : List.range n = is) (h : Any 𝒥 c S ops k n is R H st) : At 𝒥 c R H st (.code (.region id ops true) :: k) := by
 intro tmps ht
 subst hn; subst his
 refine 𝒥.step rfl fun w hw => ?_
 have hA : Agree ops (Array.replicate ops.size false) (List.range ops.size) := ⟨by simp, List.nodup_range, fun i => by
  simp only [List.mem_range, Array.getD_eq_getD_getElem?]
  constructor
  ·intro hi; exact ⟨hi, by simp [hi]⟩
  ·exact fun x => x.1⟩
 have key := fun t => J_linearise (𝒥 := 𝒥) (k := k) hk hb (fun _ _ _ hq => hq) ops.size t _ [] _ tmps R H hA (by simp) (h.2 tmps ht)
 obtain ⟨is, h1, h2⟩ := key (if (Question.order c.fn id).forced then 0 else (Question.order c.fn id).cut (w.tape w.drawn (.order c.fn id)))
 refine ⟨gor (frm c tmps (.inRegion ops is :: k)) c.cs, { w with drawn := w.drawn + 1 }, #[], R, H, ?_, by simp, ⟨⟨hw.r, hw.h, hw.nd, hw.dj, hw.os, hw.tape, hw.out⟩, fun _ _ x => x, Nat.le_refl _, fun _ _ _ => rfl, fun _ _ x => .inl x, fun _ o x => .inl ⟨o, x⟩⟩, h2⟩
 simp only [Question.forced, Bool.false_eq_true, if_false, List.reverse_nil, List.nil_append] at h1
 simp [stepG, stepG.exec, gor, frm, choose, Sem.run, Question.forced, Region.schedule, hm, Region.linearise, h1]
theorem At.drawH {id : Nat} {is : List Nat} {n : Nat} (hm : P.follows .mixedOrders = true) (hk : (c.kind == CallKind.early) = false) (hb : backward ops = true) (hn : ops.size = n) (his : List.range n = is) (h : Any 𝒥 c (fun _ => H) ops k n is R H st) : At 𝒥 c R H st (.code (.region id ops true) :: k) := At.draw (fun _ => H) hm hk hb hn his h
theorem OpTo.opStep {o : Oper} {i : Nat} {tmps : Array Value} (h : OpTo 𝒥 c o R H st fun R' H' st' => RLe R R' ∧ (∀ p ∈ S i, p ∈ H → p ∈ H') ∧ Any 𝒥 c S ops k n rem R' H' st') (ho : ops[i]? = some o) (hw : Region.wanted o (yielded ops tmps) = true) (ht : Rep c.n st tmps) :
  OpStep 𝒥 c (S i) ops i tmps R H fun t' R' H' => anyR 𝒥 c S ops (fun t R H => 𝒥.J R H (gor (frm c t k) c.cs)) n rem t' R' H' := by
 obtain ⟨hd, hdl, h | ⟨f, args, h1, h2⟩⟩ := h
 ·exact ⟨o, ho, hd, .inr ⟨hw, .inl ((h _ (ht.knows c [])).mono fun nx R' H' ⟨v, hv, st', hs, hR, hS, hA⟩ => ⟨v, hv, hR, hS, hA.2 _ ((ht.put v hdl).sub hs)⟩)⟩⟩
 ·exact ⟨o, ho, hd, .inr ⟨hw, .inr ⟨f, args, h1 _ (ht.knows c []), h2.mono fun v R' H' ⟨st', hs, hR, hS, hA⟩ => ⟨hR, hS, hA.2 _ ((ht.put v hdl).sub hs)⟩⟩⟩⟩
theorem Any.done (h : At 𝒥 c R H st k) : Any 𝒥 c S ops k n [] R H st := ⟨List.nodup_nil, fun tmps ht => by
 cases n with
 | zero => exact ⟨rfl, h tmps ht⟩
 | succ n => exact .inl ⟨rfl, h tmps ht⟩⟩
theorem Any.take {i : Nat} {o : Oper} {v : Value} {N : HList} (D : List Nat) (ho : ops[i]? = some o) (htk : takeOk ops rem i D = true) (hd : isDefer o.op = false) (hdl : dstLt o.dst c.n) (hw : wantedS ops st o = some true) (hSS : ∀ j ∈ rem, j ≠ i → j ∉ D → ∀ p ∈ N, p ∈ S j) (hS : ∀ p ∈ N, p ∈ H) (hf : ∀ ρ, Knows st ρ → Floats P B N R ρ o v) (hs : SubL (putS o.dst v st) st') (hnd : rem.Nodup)
  {rem' : List Nat} (hr : rem.erase i = rem') (h : Any 𝒥 c S ops k n rem' R H st') : Any 𝒥 c S ops k (n + 1) rem R H st := by
 subst hr
 exact ⟨hnd, fun tmps ht => anyR_take ho hd n rem tmps R H htk hnd hS hSS (.inl ⟨wanted_of ht hw, hf _ (ht.knows c [])⟩) (h.2 _ ((ht.put v hdl).sub hs))⟩
theorem Any.takeS {i d : Nat} {o : Oper} {v : Value} {N : HList} (D : List Nat) (ho : ops[i]? = some o) (hdst : o.dst = some d) (hw : wantedS ops st o = some true) (htk : takeOk ops rem i D = true) (hSS : ∀ j ∈ rem, j ≠ i → j ∉ D → ∀ p ∈ N, p ∈ S j) (hS : ∀ p ∈ N, p ∈ H)
  (hf : ∀ R' H', RLe R R' → (∀ p ∈ N, p ∈ H') → SemTo P B c o R' H' st fun R1 H1 st1 => R1 = R' ∧ H1 = H' ∧ st1 = [(d, v)]) (hs : SubL ((d, v) :: st) st') (hnd : rem.Nodup)
  {rem' : List Nat} (hr : rem.erase i = rem') (h : Any 𝒥 c S ops k n rem' R H st') : Any 𝒥 c S ops k (n + 1) rem R H st := by
 have h0 := hf R H (RLe.refl _) hS
 refine Any.take (v := v) D ho htk h0.1 h0.2.1 hw hSS hS (fun ρ hρ R' H' hR hS' => ?_) (by rw [hdst]; exact hs) hnd hr h
 refine ((hf R' H' hR hS').2.2 ρ hρ).mono fun nx R'' H'' ⟨u, hu, st1, hs1, e1, e2, e3⟩ => ?_
 subst e3
 rw [hdst] at hs1
 have huv : u = v := by
  have := hs1 d v (by simp)
  simp only [putS, List.lookup_cons, beq_self_eq_true] at this
  exact Option.some.inj this
 subst huv
 exact ⟨hu, e1, e2⟩
theorem Any.takeIdle {i : Nat} {o : Oper} (D : List Nat) (ho : ops[i]? = some o) (htk : takeOk ops rem i D = true) (hd : isDefer o.op = false) (hdl : dstLt o.dst c.n) (hw : wantedS ops st o = some false) (hs : SubL (putS o.dst undef st) st') (hnd : rem.Nodup)
  {rem' : List Nat} (hr : rem.erase i = rem') (h : Any 𝒥 c S ops k n rem' R H st') : Any 𝒥 c S ops k (n + 1) rem R H st := by
 subst hr
 exact ⟨hnd, fun tmps ht => anyR_take (v := undef) (N := []) ho hd n rem tmps R H htk hnd (by simp) (by simp) (.inr ⟨wanted_of ht hw, rfl⟩) (h.2 _ ((ht.put undef hdl).sub hs))⟩
theorem Any.one {i : Nat} {o : Oper} (ho : ops[i]? = some o) (hrd : rem.filter (readyR ops rem) = [i]) (hw : wantedS ops st o = some true) (hnd : rem.Nodup) {rem' : List Nat} (hr : rem.erase i = rem')
  (h : OpTo 𝒥 c o R H st fun R' H' st' => RLe R R' ∧ (∀ p ∈ S i, p ∈ H → p ∈ H') ∧ Any 𝒥 c S ops k n rem' R' H' st') : Any 𝒥 c S ops k (n + 1) rem R H st := by
 subst hr
 refine ⟨hnd, fun tmps ht => .inr ⟨(fun e => by rw [e] at hrd; cases hrd), fun _ j hj hjr => ?_⟩⟩
 have : j ∈ rem.filter (readyR ops rem) := List.mem_filter.2 ⟨hj, hjr⟩
 rw [hrd] at this
 obtain rfl : j = i := by simpa using this
 exact h.opStep ho (wanted_of ht hw) ht
theorem keepAll {H H' : HList} (h : ∀ p ∈ H, p ∈ H') {X : HList} : ∀ p ∈ H, p ∈ X → p ∈ H' := fun p hp _ => h p hp
end
end Go.Lg
namespace Go.Lg
open Go.Conc
section
variable {P : Program} {B : Base} {main : Bool} {𝒥 : Jd P B main} {c : Ctx} {R : RMap} {H H' : HList} {st st' : St} {k : List Item}
theorem upd_sub {w : World} (hs : List.Sublist H' H) (hw : Fits B R H w) : Upd B R H w R H' w :=
 ⟨⟨hw.r, fun b o h => hw.h b o (hs.subset h), (hs.map _).nodup hw.nd, fun b o h => hw.dj b o (hs.subset h), hw.os, hw.tape, hw.out⟩, fun _ _ x => x, Nat.le_refl _, fun _ _ _ => rfl, fun _ _ x => .inl x, fun b o x => .inl ⟨o, hs.subset x⟩⟩
theorem At.drop {todo : List Item} (hs : List.Sublist H' H) (h : At 𝒥 c R H' st todo) : At 𝒥 c R H st todo := At.ghost (fun _ hw => upd_sub hs hw) h
theorem J.drop {g : Goroutine} (hs : List.Sublist H' H) (h : 𝒥.J R H' g) : 𝒥.J R H g := 𝒥.ghost (fun _ hw => upd_sub hs hw) h
theorem upd_perm {w : World} (hs : List.Perm H' H) (hw : Fits B R H w) : Upd B R H w R H' w :=
 ⟨⟨hw.r, fun b o h => hw.h b o (hs.subset h), (hs.map _).nodup_iff.2 hw.nd, fun b o h => hw.dj b o (hs.subset h), hw.os, hw.tape, hw.out⟩, fun _ _ x => x, Nat.le_refl _, fun _ _ _ => rfl, fun _ _ x => .inl x, fun b o x => .inl ⟨o, hs.subset x⟩⟩
theorem At.perm {todo : List Item} (hs : List.Perm H' H) (h : At 𝒥 c R H' st todo) : At 𝒥 c R H st todo := At.ghost (fun _ hw => upd_perm hs hw) h
theorem J.perm {g : Goroutine} (hs : List.Perm H' H) (h : 𝒥.J R H' g) : 𝒥.J R H g := 𝒥.ghost (fun _ hw => upd_perm hs hw) h
def RMap.ins (R : RMap) (b : Nat) (o : Obj) : RMap := fun x => if x = b then some o else R x
theorem RMap.ins_same (R : RMap) (b : Nat) (o : Obj) : R.ins b o b = some o := by simp [RMap.ins]
theorem RMap.ins_le {R : RMap} {b : Nat} {o : Obj} (h : R b = none) : RLe R (R.ins b o) := fun x u hx => by
 unfold RMap.ins
 split
 ·subst_vars; rw [h] at hx; cases hx
 ·exact hx
theorem upd_freeze {w : World} {b : Nat} {o : Obj} (hw : Fits B R ((b, o) :: H) w) : Upd B R ((b, o) :: H) w (R.ins b o) H w := by
 have hb : R b = none := hw.dj b o (by simp)
 have hnd := hw.nd
 rw [List.map_cons, List.nodup_cons] at hnd
 refine ⟨⟨fun x u hx => ?_, fun x u hx => hw.h x u (by simp [hx]), hnd.2, fun x u hx => ?_, hw.os, hw.tape, hw.out⟩, RMap.ins_le hb, Nat.le_refl _, fun _ _ _ => rfl, fun x u hx => ?_, fun x u hx => .inl ⟨u, by simp [hx]⟩⟩
 ·unfold RMap.ins at hx
  split at hx
  ·subst_vars; cases hx; exact hw.h _ _ (by simp)
  ·exact hw.r x u hx
 ·have hne : x ≠ b := fun e => hnd.1 (List.mem_map.2 ⟨(x, u), hx, e⟩)
  unfold RMap.ins
  rw [if_neg hne]
  exact hw.dj x u (by simp [hx])
 ·unfold RMap.ins at hx
  split at hx
  ·subst_vars; exact .inr (.inl ⟨o, by simp⟩)
  ·exact .inl hx
theorem J.freeze {g : Goroutine} {b : Nat} {o : Obj} (h : ∀ R', RLe R R' → R' b = some o → 𝒥.J R' H g) (hb : R b = none) : 𝒥.J R ((b, o) :: H) g :=
 𝒥.ghost (fun _ hw => upd_freeze hw) (h _ (RMap.ins_le hb) (RMap.ins_same R b o))
theorem J.freeze' {fr : Frame} {cs : List Frame} {b : Nat} {o : Obj} (h : ∀ R', RLe R R' → R' b = some o → 𝒥.J R' H (gor fr cs)) : 𝒥.J R ((b, o) :: H) (gor fr cs) := by
 cases hb : R b with
 | none => exact J.freeze h hb
 | some x =>
  refine 𝒥.step rfl fun w hw => ?_
  have := hw.dj b o (by simp)
  rw [hb] at this
  cases this
theorem At.freeze {todo : List Item} {b : Nat} {o : Obj} (h : ∀ R', RLe R R' → R' b = some o → At 𝒥 c R' H st todo) : At 𝒥 c R ((b, o) :: H) st todo :=
 fun tmps ht => J.freeze' fun R' h1 h2 => h R' h1 h2 tmps ht
theorem Rep.shadow {n t : Nat} {x : Value} {tmps : Array Value} (hx : st.lookup t = some x) (h : Rep n st tmps) : Rep n ((t, x) :: st) tmps := by
 refine ⟨h.1, fun u v hu => ?_⟩
 rw [List.lookup_cons] at hu
 split at hu
 ·rename_i heq
  have : u = t := by simpa using heq
  subst this
  cases hu
  exact h.2 _ _ hx
 ·exact h.2 u v hu
end
theorem Cell.mono {R R' : RMap} {H : HList} {a : Addr} {v : Value} (h : Cell R [] a v) (hR : RLe R R') : Cell R' H a v := by
 obtain ⟨h1, cs, e, fz, h2, h3⟩ := h
 exact ⟨h1, cs, e, fz, .inl (h2.elim (hR _ _) (fun x => by cases x)), h3⟩
theorem CellsAt.up {R R' : RMap} {H : HList} {b o : Nat} {vs : List Value} (h : CellsAt R [] b o vs) (hR : RLe R R') : CellsAt R' H b o vs := fun j v hj => (h j v hj).mono hR
theorem CellsAt.any {R : RMap} {H : HList} {b o : Nat} {vs : List Value} (h : CellsAt R [] b o vs) : CellsAt R H b o vs := h.up (RLe.refl R)
theorem CellsAt.one {R : RMap} {H : HList} {b o j : Nat} {v : Value} {vs : List Value} (h : CellsAt R H b o vs) (hj : vs[j]? = some v) : Cell R H ⟨b, o + j, none⟩ v := h j v hj
end Go.Lg
