/- The machine, first part: well-founded trees for walks whose length hangs on the world; one of several measures falls; what is held of memory and of the trace while several goroutines act, each on what is its own or known for good. Conditions: none; over any program. -/
import Derived.Test.YtabamagholjdcaaGreatDoorQLgCtl
namespace Go.Lg
open Go.Conc
inductive Tree : Type 1
 | node (ι : Type) (f : ι → Tree) : Tree
inductive TLt : Tree → Tree → Prop
 | mk {ι : Type} (f : ι → Tree) (i : ι) : TLt (f i) (.node ι f)
theorem TLt.acc (t : Tree) : Acc TLt t := by
 induction t with
 | node ι f ih => exact ⟨_, fun y h => by cases h; exact ih _⟩
abbrev Ms := Option Tree
inductive MLt : Ms → Ms → Prop
 | some {a b : Tree} : TLt a b → MLt (some a) (some b)
 | none {b : Tree} : MLt none (some b)
theorem MLt.acc_none : Acc MLt (Option.none : Ms) := ⟨_, fun y h => by cases h⟩
theorem MLt.acc (m : Ms) : Acc MLt m := by
 cases m with
 | none => exact MLt.acc_none
 | some t =>
  have := TLt.acc t
  induction this with
  | intro t _ ih =>
   refine ⟨_, fun y h => ?_⟩
   cases h with
   | some h => exact ih _ h
   | none => exact MLt.acc_none
inductive One {α : Type 1} (r : α → α → Prop) : List α → List α → Prop
 | head {a b : α} {l : List α} : r a b → One r (a :: l) (b :: l)
 | tail {a : α} {l l' : List α} : One r l l' → One r (a :: l) (a :: l')
theorem One.acc {α : Type 1} {r : α → α → Prop} (h : ∀ a, Acc r a) : ∀ l : List α, Acc (One r) l
 | [] => ⟨_, fun y h => by cases h⟩
 | b :: l => by
  have hb := h b
  have hl := One.acc h l
  induction hb generalizing l with
  | intro b _ ihb =>
   induction hl with
   | intro l hl' ihl =>
    refine ⟨_, fun y hy => ?_⟩
    cases hy with
    | head hr => exact ihb _ hr _ ⟨_, hl'⟩
    | tail ho => exact ihl _ ho
theorem One.wf : WellFounded (One MLt) := ⟨One.acc MLt.acc⟩
theorem One.set {α : Type 1} {r : α → α → Prop} : ∀ {l : List α} {i : Nat} {a b : α}, l[i]? = some b → r a b → One r (l.set i a) l
 | [], _, _, _, h, _ => by cases h
 | x :: l, 0, a, b, h, hr => by cases h; exact .head hr
 | x :: l, i + 1, a, b, h, hr => .tail (One.set (by simpa using h) hr)
def natT : Nat → Tree
 | 0 => .node Empty Empty.elim
 | n + 1 => .node Unit fun _ => natT n
theorem natT_lt (n : Nat) : MLt (some (natT n)) (some (natT (n + 1))) := .some (.mk (fun _ : Unit => natT n) ())
section
variable (P : Program) (B : Base) (main : Bool) (K : RMap → HList → Goroutine → Prop)
def OwnT : Tree → RMap → HList → Goroutine → Prop
 | .node _ f => fun R H g => K R H g ∨
  (g.status = .running ∧ ∀ w, Fits B R H w → ∃ g' w' es R' H' i, stepG P main g w = .go g' w' es ∧ (∀ e ∈ es, EvOk R H w.heap.size w'.heap.size e) ∧ Upd B R H w R' H' w' ∧ OwnT (f i) R' H' g') ∨
  (∃ R' H' i, (∀ w, Fits B R H w → Upd B R H w R' H' w) ∧ OwnT (f i) R' H' g)
def Own (R : RMap) (H : HList) (g : Goroutine) : Prop := ∃ T, OwnT P B main K T R H g
theorem Own.stop {R : RMap} {H : HList} {g : Goroutine} (h : K R H g) : Own P B main K R H g := ⟨.node Empty Empty.elim, .inl h⟩
open Classical in
def ownJd : Jd P B main where
 J := Own P B main K
 step := by
  intro R H g hs h
  refine ⟨.node { x : RMap × HList × Goroutine // Own P B main K x.1 x.2.1 x.2.2 } (fun x => x.2.choose), .inr (.inl ⟨hs, fun w hw => ?_⟩)⟩
  obtain ⟨g', w', es, R', H', h1, h2, h3, h4⟩ := h w hw
  exact ⟨g', w', es, R', H', ⟨(R', H', g'), h4⟩, h1, h2, h3, Exists.choose_spec h4⟩
 ghost := by
  intro R H R' H' g hg h
  exact ⟨.node Unit (fun _ => h.choose), .inr (.inr ⟨R', H', (), hg, h.choose_spec⟩)⟩
end
theorem nn {α : Type} {a : Option α} {u : α} {C : Prop} (h : a = none) (h' : a = some u) : C := by rw [h] at h'; cases h'
structure Th where
 R : RMap
 H : HList
def updT (th : Nat → Option Th) (i : Nat) (x : Option Th) : Nat → Option Th := fun j => if j = i then x else th j
theorem updT_same (th : Nat → Option Th) (i : Nat) (x : Option Th) : updT th i x i = x := by simp [updT]
theorem updT_ne {th : Nat → Option Th} {i j : Nat} {x : Option Th} (h : j ≠ i) : updT th i x j = th j := by simp [updT, h]
structure MemI (B : Base) (th : Nat → Option Th) (ch : HList) (w : World) : Prop where
 fits : ∀ i x, th i = some x → Fits B x.R x.H w
 apart : ∀ i j x y, i ≠ j → th i = some x → th j = some y → ∀ b o, (b, o) ∈ x.H → y.R b = none ∧ ∀ o', (b, o') ∉ y.H
 chans : ∀ c o, (c, o) ∈ ch → w.heap[c]? = some o
 chapart : ∀ c o, (c, o) ∈ ch → ∀ i x, th i = some x → x.R c = none ∧ ∀ o', (c, o') ∉ x.H
theorem Fits.at {B : Base} {R : RMap} {H : HList} {w : World} (h : Fits B R H w) (d : Nat) : Fits B R H (w.at d) := ⟨h.r, h.h, h.nd, h.dj, h.os, h.tape, h.out⟩
theorem MemI.at {B : Base} {th : Nat → Option Th} {ch : HList} {w : World} (h : MemI B th ch w) (d : Nat) : MemI B th ch (w.at d) :=
 ⟨fun i x hx => (h.fits i x hx).at d, h.apart, h.chans, h.chapart⟩
section
variable {B : Base} {th : Nat → Option Th} {ch : HList} {w w' : World} {i : Nat} {R R' : RMap} {H H' : HList}
theorem MemI.upd (h : MemI B th ch w) (hi : th i = some ⟨R, H⟩) (hu : Upd B R H w R' H' w') : MemI B (updT th i (some ⟨R', H'⟩)) ch w' := by
 have lt_of {j : Nat} {y : Th} (hy : th j = some y) : (∀ b o, y.R b = some o → b < w.heap.size) ∧ (∀ b o, (b, o) ∈ y.H → b < w.heap.size) :=
  ⟨fun b o x => lt_of_heap ((h.fits j y hy).r b o x), fun b o x => lt_of_heap ((h.fits j y hy).h b o x)⟩
 refine ⟨fun j y hy => ?_, fun j k x y hjk hx hy b o hb => ?_, fun c o hc => ?_, fun c o hc j y hy => ?_⟩
 ·by_cases hj : j = i
  ·subst hj; rw [updT_same] at hy; cases hy; exact hu.fits
  ·rw [updT_ne hj] at hy
   have hf := h.fits j y hy
   have hl := lt_of hy
   refine ⟨fun b o x => ?_, fun b o x => ?_, hf.nd, hf.dj, hu.fits.os, hu.fits.tape, hu.fits.out⟩
   ·rw [hu.same b (hl.1 b o x) fun o' ho' => nn (h.apart i j _ _ (Ne.symm hj) hi hy b o' ho').1 x]
    exact hf.r b o x
   ·rw [hu.same b (hl.2 b o x) fun o' ho' => (h.apart i j _ _ (Ne.symm hj) hi hy b o' ho').2 o x]
    exact hf.h b o x
 ·by_cases hj : j = i
  ·subst hj
   rw [updT_same] at hx; cases hx
   rw [updT_ne (Ne.symm hjk)] at hy
   rcases hu.newH b o hb with ⟨o', ho'⟩ | hge
   ·exact h.apart j k _ _ hjk hi hy b o' ho'
   ·refine ⟨?_, fun o' ho' => ?_⟩
    ·cases hR : y.R b with
     | none => rfl
     | some u => have := (lt_of hy).1 b u hR; omega
    ·have := (lt_of hy).2 b o' ho'; omega
  ·rw [updT_ne hj] at hx
   by_cases hk : k = i
   ·subst hk
    rw [updT_same] at hy; cases hy
    have hlt := (lt_of hx).2 b o hb
    have hap := h.apart j k _ _ hjk hx hi b o hb
    refine ⟨?_, fun o' ho' => ?_⟩
    ·cases hR : R' b with
     | none => simp [hR]
     | some u =>
      rcases hu.newR b u hR with x | ⟨o', x⟩ | x
      ·exact nn hap.1 x
      ·exact absurd x (hap.2 o')
      ·omega
    ·rcases hu.newH b o' ho' with ⟨u, x⟩ | x
     ·exact hap.2 u x
     ·omega
   ·rw [updT_ne hk] at hy
    exact h.apart j k _ _ hjk hx hy b o hb
 ·have hlt := lt_of_heap (h.chans c o hc)
  rw [hu.same c hlt fun o' ho' => (h.chapart c o hc i _ hi).2 o' ho']
  exact h.chans c o hc
 ·by_cases hj : j = i
  ·subst hj
   rw [updT_same] at hy; cases hy
   have hlt := lt_of_heap (h.chans c o hc)
   have hap := h.chapart c o hc j _ hi
   refine ⟨?_, fun o' ho' => ?_⟩
   ·cases hR : R' c with
    | none => simp [hR]
    | some u =>
     rcases hu.newR c u hR with x | ⟨o', x⟩ | x
     ·exact nn hap.1 x
     ·exact absurd x (hap.2 o')
     ·omega
   ·rcases hu.newH c o' ho' with ⟨u, x⟩ | x
    ·exact hap.2 u x
    ·omega
  ·rw [updT_ne hj] at hy
   exact h.chapart c o hc j y hy
theorem MemI.drop (h : MemI B th ch w) : MemI B (updT th i none) ch w := by
 have key : ∀ j y, updT th i none j = some y → th j = some y := fun j y hy => by
  by_cases hj : j = i
  ·subst hj; rw [updT_same] at hy; cases hy
  ·rwa [updT_ne hj] at hy
 exact ⟨fun j y hy => h.fits j y (key j y hy), fun j k x y hjk hx hy => h.apart j k x y hjk (key j x hx) (key k y hy), h.chans, fun c o hc j y hy => h.chapart c o hc j y (key j y hy)⟩
theorem MemI.add {c : Nat} (h : MemI B th ch w) (hi : th i = some ⟨R, H⟩) (hR : RLe R' R) : MemI B (updT th c (some ⟨R', []⟩)) ch w := by
 refine ⟨fun j y hy => ?_, fun j k x y hjk hx hy b o hb => ?_, h.chans, fun a o ha j y hy => ?_⟩
 ·by_cases hj : j = c
  ·subst hj; rw [updT_same] at hy; cases hy
   have hf := h.fits i _ hi
   exact ⟨fun b o x => hf.r b o (hR b o x), fun b o x => (by cases x), List.nodup_nil, fun b o x => (by cases x), hf.os, hf.tape, hf.out⟩
  ·rw [updT_ne hj] at hy; exact h.fits j y hy
 ·by_cases hj : j = c
  ·subst hj; rw [updT_same] at hx; cases hx; cases hb
  ·rw [updT_ne hj] at hx
   by_cases hk : k = c
   ·subst hk
    rw [updT_same] at hy; cases hy
    refine ⟨?_, fun o' x => by cases x⟩
    cases hRb : R' b with
    | none => simp [hRb]
    | some u =>
     have hRu := hR b u hRb
     by_cases hji : j = i
     ·subst hji
      rw [hi] at hx; cases hx
      exact nn ((h.fits j _ hi).dj b o hb) hRu
     ·exact nn (h.apart j i _ _ hji hx hi b o hb).1 hRu
   ·rw [updT_ne hk] at hy; exact h.apart j k x y hjk hx hy b o hb
 ·by_cases hj : j = c
  ·subst hj; rw [updT_same] at hy; cases hy
   refine ⟨?_, fun o' x => by cases x⟩
   cases hRb : R' a with
   | none => simp [hRb]
   | some u => exact nn (h.chapart a o ha i _ hi).1 (hR a u hRb)
  ·rw [updT_ne hj] at hy; exact h.chapart a o ha j y hy
end
end Go.Lg
