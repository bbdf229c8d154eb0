/- The machine of the workers of hull.reckon: it runs to its end. Conditions: none. -/
import Derived.Test.YtabamagholjdcaaGreatDoorQGLgA
import Derived.Conc.CrowdComm
namespace Go.Lg
open Go.Conc
inductive Tree : Type 1
 | node (ι : Type) (f : ι → Tree) : Tree
inductive Ei : Tree → Tree → Prop
 | mk {ι : Type} (f : ι → Tree) (i : ι) : Ei (f i) (.node ι f)
theorem Ei.acc (t : Tree) : Acc Ei t := by
 induction t with
 | node ι f ih => exact ⟨_, λ y h => by cases h; exact ih _⟩
abbrev Ms := Option Tree
inductive m7 : Ms → Ms → Prop
 | some {a b : Tree} : Ei a b → m7 (some a) (some b)
 | none {b : Tree} : m7 none (some b)
theorem m7.Wf : Acc m7 (Option.none : Ms) := ⟨_, λ y h => by cases h⟩
theorem m7.acc (m : Ms) : Acc m7 m := by
 cases m with
 | none => exact m7.Wf
 | some t =>
  have := Ei.acc t
  induction this with
  | intro t _ ih =>
   refine ⟨_, λ y h => ?_⟩
   cases h with
   | some h => exact ih _ h
   | none => exact m7.Wf
inductive One {α : Type 1} (r : α → α → Prop) : List α → List α → Prop
 | head {a b : α} {l : List α} : r a b → One r (a :: l) (b :: l)
 | tail {a : α} {l l' : List α} : One r l l' → One r (a :: l) (a :: l')
theorem One.acc {α : Type 1} {r : α → α → Prop} (h : ∀ a, Acc r a) : ∀ l : List α, Acc (One r) l
 | [] => ⟨_, λ y h => by cases h⟩
 | b :: l => by
  have hb := h b
  have hl := One.acc h l
  induction hb generalizing l with
  | intro b _ ihb =>
   induction hl with
   | intro l hl' ihl =>
    refine ⟨_, λ y hy => ?_⟩
    cases hy with
    | head hr => exact ihb _ hr _ ⟨_, hl'⟩
    | tail ho => exact ihl _ ho
theorem One.wf : WellFounded (One m7) := ⟨One.acc m7.acc⟩
theorem One.set {α : Type 1} {r : α → α → Prop} : ∀ {l : List α} {i : Nat} {a b : α}, l[i]? = some b → r a b → One r (l.set i a) l
 | [], _, _, _, h, _ => by cases h
 | x :: l, 0, a, b, h, hr => by cases h; exact .head hr
 | x :: l, i + 1, a, b, h, hr => .tail (One.set (by simpa using h) hr)
def AF : Nat → Tree
 | 0 => .node Empty Empty.elim
 | n + 1 => .node Unit λ _ => AF n
theorem azx (n : Nat) : m7 (some (AF n)) (some (AF (n + 1))) := .some (.mk (λ _ : Unit => AF n) ())
section
variable (P : Program) (B : Base) (main : Bool) (K : aA → ak → Goroutine → Prop)
def vO : Tree → aA → ak → Goroutine → Prop
 | .node _ f => λ R H g => K R H g ∨
  (g.status = .running ∧ ∀ w, Fits B R H w → ∃ g' w' es R' H' i, stepG P main g w = .go g' w' es ∧ (∀ e ∈ es, gq R H w.heap.size w'.heap.size e) ∧ di B R H w R' H' w' ∧ vO (f i) R' H' g') ∨
  (∃ R' H' i, (∀ w, Fits B R H w → di B R H w R' H' w) ∧ vO (f i) R' H' g)
def Own (R : aA) (H : ak) (g : Goroutine) : Prop := ∃ T, vO P B main K T R H g
theorem Own.stop {R : aA} {H : ak} {g : Goroutine} (h : K R H g) : Own P B main K R H g := ⟨.node Empty Empty.elim, .inl h⟩
open Classical in
def qN : Jd P B main where
 J := Own P B main K
 step := by
  intro R H g hs h
  refine ⟨.node { x : aA × ak × Goroutine // Own P B main K x.1 x.2.1 x.2.2 } (λ x => x.2.choose), .inr (.inl ⟨hs, λ w hw => ?_⟩)⟩
  obtain ⟨g', w', es, R', H', h1, h2, h3, h4⟩ := h w hw
  exact ⟨g', w', es, R', H', ⟨(R', H', g'), h4⟩, h1, h2, h3, Exists.choose_spec h4⟩
 ghost := by
  intro R H R' H' g hg h
  exact ⟨.node Unit (λ _ => h.choose), .inr (.inr ⟨R', H', (), hg, h.choose_spec⟩)⟩
end
theorem nn {α : Type} {a : Option α} {u : α} {C : Prop} (h : a = none) (h' : a = some u) : C := by rw [h] at h'; cases h'
structure Th where
 R : aA
 H : ak
def fU (th : Nat → Option Th) (i : Nat) (x : Option Th) : Nat → Option Th := λ j => if j = i then x else th j
theorem gJ (th : Nat → Option Th) (i : Nat) (x : Option Th) : fU th i x i = x := by simp [fU]
theorem ef {th : Nat → Option Th} {i j : Nat} {x : Option Th} (h : j ≠ i) : fU th i x j = th j := by simp [fU, h]
structure eM (B : Base) (th : Nat → Option Th) (ch : ak) (w : World) : Prop where
 fits : ∀ i x, th i = some x → Fits B x.R x.H w
 apart : ∀ i j x y, i ≠ j → th i = some x → th j = some y → ∀ b o, (b, o) ∈ x.H → y.R b = none ∧ ∀ o', (b, o') ∉ y.H
 oa : ∀ c o, (c, o) ∈ ch → w.heap[c]? = some o
 nk : ∀ c o, (c, o) ∈ ch → ∀ i x, th i = some x → x.R c = none ∧ ∀ o', (c, o') ∉ x.H
theorem Fits.at {B : Base} {R : aA} {H : ak} {w : World} (h : Fits B R H w) (d : Nat) : Fits B R H (w.at d) := ⟨h.r, h.h, h.nd, h.dj, h.os, h.tape, h.out⟩
theorem eM.at {B : Base} {th : Nat → Option Th} {ch : ak} {w : World} (h : eM B th ch w) (d : Nat) : eM B th ch (w.at d) :=
 ⟨λ i x hx => (h.fits i x hx).at d, h.apart, h.oa, h.nk⟩
section
variable {B : Base} {th : Nat → Option Th} {ch : ak} {w w' : World} {i : Nat} {R R' : aA} {H H' : ak}
theorem eM.upd (h : eM B th ch w) (hi : th i = some ⟨R, H⟩) (hu : di B R H w R' H' w') : eM B (fU th i (some ⟨R', H'⟩)) ch w' := by
 have z8 {j : Nat} {y : Th} (hy : th j = some y) : (∀ b o, y.R b = some o → b < w.heap.size) ∧ (∀ b o, (b, o) ∈ y.H → b < w.heap.size) :=
  ⟨λ b o x => gD ((h.fits j y hy).r b o x), λ b o x => gD ((h.fits j y hy).h b o x)⟩
 refine ⟨λ j y hy => ?_, λ j k x y hjk hx hy b o hb => ?_, λ c o hc => ?_, λ c o hc j y hy => ?_⟩
 ·by_cases hj : j = i
  ·subst hj; rw [gJ] at hy; cases hy; exact hu.fits
  ·rw [ef hj] at hy
   have hf := h.fits j y hy
   have hl := z8 hy
   refine ⟨λ b o x => ?_, λ b o x => ?_, hf.nd, hf.dj, hu.fits.os, hu.fits.tape, hu.fits.out⟩
   ·rw [hu.same b (hl.1 b o x) λ o' ho' => nn (h.apart i j _ _ (Ne.symm hj) hi hy b o' ho').1 x]
    exact hf.r b o x
   ·rw [hu.same b (hl.2 b o x) λ o' ho' => (h.apart i j _ _ (Ne.symm hj) hi hy b o' ho').2 o x]
    exact hf.h b o x
 ·by_cases hj : j = i
  ·subst hj
   rw [gJ] at hx; cases hx
   rw [ef (Ne.symm hjk)] at hy
   rcases hu.uV b o hb with ⟨o', ho'⟩ | hge
   ·exact h.apart j k _ _ hjk hi hy b o' ho'
   ·refine ⟨?_, λ o' ho' => ?_⟩
    ·cases hR : y.R b with
     | none => rfl
     | some u => have := (z8 hy).1 b u hR; omega
    ·have := (z8 hy).2 b o' ho'; omega
  ·rw [ef hj] at hx
   by_cases hk : k = i
   ·subst hk
    rw [gJ] at hy; cases hy
    have hlt := (z8 hx).2 b o hb
    have hap := h.apart j k _ _ hjk hx hi b o hb
    refine ⟨?_, λ o' ho' => ?_⟩
    ·cases hR : R' b with
     | none => simp [hR]
     | some u =>
      rcases hu.newR b u hR with x | ⟨o', x⟩ | x
      ·exact nn hap.1 x
      ·exact absurd x (hap.2 o')
      ·omega
    ·rcases hu.uV b o' ho' with ⟨u, x⟩ | x
     ·exact hap.2 u x
     ·omega
   ·rw [ef hk] at hy
    exact h.apart j k _ _ hjk hx hy b o hb
 ·have hlt := gD (h.oa c o hc)
  rw [hu.same c hlt λ o' ho' => (h.nk c o hc i _ hi).2 o' ho']
  exact h.oa c o hc
 ·by_cases hj : j = i
  ·subst hj
   rw [gJ] at hy; cases hy
   have hlt := gD (h.oa c o hc)
   have hap := h.nk c o hc j _ hi
   refine ⟨?_, λ o' ho' => ?_⟩
   ·cases hR : R' c with
    | none => simp [hR]
    | some u =>
     rcases hu.newR c u hR with x | ⟨o', x⟩ | x
     ·exact nn hap.1 x
     ·exact absurd x (hap.2 o')
     ·omega
   ·rcases hu.uV c o' ho' with ⟨u, x⟩ | x
    ·exact hap.2 u x
    ·omega
  ·rw [ef hj] at hy
   exact h.nk c o hc j y hy
theorem eM.drop (h : eM B th ch w) : eM B (fU th i none) ch w := by
 have key : ∀ j y, fU th i none j = some y → th j = some y := λ j y hy => by
  by_cases hj : j = i
  ·subst hj; rw [gJ] at hy; cases hy
  ·rwa [ef hj] at hy
 exact ⟨λ j y hy => h.fits j y (key j y hy), λ j k x y hjk hx hy => h.apart j k x y hjk (key j x hx) (key k y hy), h.oa, λ c o hc j y hy => h.nk c o hc j y (key j y hy)⟩
theorem eM.add {c : Nat} (h : eM B th ch w) (hi : th i = some ⟨R, H⟩) (hR : aO R' R) : eM B (fU th c (some ⟨R', []⟩)) ch w := by
 refine ⟨λ j y hy => ?_, λ j k x y hjk hx hy b o hb => ?_, h.oa, λ a o ha j y hy => ?_⟩
 ·by_cases hj : j = c
  ·subst hj; rw [gJ] at hy; cases hy
   have hf := h.fits i _ hi
   exact ⟨λ b o x => hf.r b o (hR b o x), λ b o x => (by cases x), List.nodup_nil, λ b o x => (by cases x), hf.os, hf.tape, hf.out⟩
  ·rw [ef hj] at hy; exact h.fits j y hy
 ·by_cases hj : j = c
  ·subst hj; rw [gJ] at hx; cases hx; cases hb
  ·rw [ef hj] at hx
   by_cases hk : k = c
   ·subst hk
    rw [gJ] at hy; cases hy
    refine ⟨?_, λ o' x => by cases x⟩
    cases ET : R' b with
    | none => simp [ET]
    | some u =>
     have YS := hR b u ET
     by_cases hji : j = i
     ·subst hji
      rw [hi] at hx; cases hx
      exact nn ((h.fits j _ hi).dj b o hb) YS
     ·exact nn (h.apart j i _ _ hji hx hi b o hb).1 YS
   ·rw [ef hk] at hy; exact h.apart j k x y hjk hx hy b o hb
 ·by_cases hj : j = c
  ·subst hj; rw [gJ] at hy; cases hy
   refine ⟨?_, λ o' x => by cases x⟩
   cases ET : R' a with
   | none => simp [ET]
   | some u => exact nn (h.nk a o ha i _ hi).1 (hR a u ET)
  ·rw [ef hj] at hy; exact h.nk a o ha j y hy
end
end Go.Lg
namespace Go.Lg
open Go.Conc
abbrev Kn (t : Trace) (g i : Nat) : Prop := Go.Conc.Knows t g i
def blk : Loc → Option Nat
 | .cell a => some a.block
 | .obj r => some r
 | _ => none
structure dA (th : Nat → Option Th) (ch : ak) (cls : Option Nat) (n : Nat) (t : Trace) : Prop where
 own : ∀ i x, th i = some x → ∀ b o, (b, o) ∈ x.H → ∀ k a, touchAt t k = some a → blk a.loc = some b → Kn t i k
 read : ∀ i x, th i = some x → ∀ b o, x.R b = some o → ∀ k a, touchAt t k = some a → blk a.loc = some b → a.write = true → Kn t i k
 de : ∀ c o, (c, o) ∈ ch → ∀ i x, th i = some x → ∀ k a, touchAt t k = some a → blk a.loc = some c → a.kind = .atomic ∨ Kn t i k
 low : ∀ op ∈ t, op.act.low n
 all : ∀ k a, touchAt t k = some a → a.loc.isMemory = true → (∃ i x, th i = some x ∧ Kn t i k) ∨ (∃ c p, cls = some c ∧ t.act? p = some (.close c) ∧ Before t k p)
 clean : ∀ said, ¬ Race said t
 quiet : Wordless t
theorem aBK {x : MemAct} {a : Touch} {n b : Nat} (h : x.low n) (ht : x.touch? = some a) (hb : blk a.loc = some b) : b < n := by
 cases x with
 | access e =>
  simp only [MemAct.touch?, Option.some.injEq] at ht
  subst ht
  obtain ⟨loc, wr, sy⟩ := e
  cases loc <;> simp [blk] at hb <;> subst hb <;> exact h
 | mark m =>
  cases m <;> simp only [MemAct.touch?, Option.some.injEq, reduceCtorEq] at ht
  all_goals (subst ht; simp [blk] at hb; subst hb; exact h)
 | _ => simp [MemAct.touch?] at ht
def VS (ch : ak) (R : aA) (H : ak) (n : Nat) (a : Touch) : Prop :=
 ∃ b, blk a.loc = some b ∧ ((a.write = false ∧ ∃ o, R b = some o) ∨ (∃ o, (b, o) ∈ H) ∨ n ≤ b ∨ (a.kind = .atomic ∧ ∃ o, (b, o) ∈ ch))
theorem qJ {t u : Trace} {k : Nat} {a : Touch} (h : touchAt (t ++ u) k = some a) : (k < t.size ∧ touchAt t k = some a) ∨ (∃ op, (t ++ u)[k]? = some op ∧ op ∈ u ∧ op.act.touch? = some a) := by
 obtain ⟨x, hx, wU⟩ := touch_of h
 rcases getElem?_append_cases hx with ⟨hk, hx'⟩ | ⟨_, hxu⟩
 ·exact .inl ⟨hk, by rw [touchAt_of hx']; exact wU⟩
 ·exact .inr ⟨x, hx, hxu, wU⟩
theorem S8 {t : Trace} {k b n : Nat} {a : Touch} (hl : ∀ op ∈ t, op.act.low n) (h : touchAt t k = some a) (hb : blk a.loc = some b) : b < n := by
 obtain ⟨x, hx, wU⟩ := touch_of h
 exact aBK (hl x (mem_of_getElem? hx)) wU hb
section
variable {B : Base} {th : Nat → Option Th} {ch : ak} {cls : Option Nat} {w : World} {n n' i : Nat} {R R' : aA} {H H' : ak} {t u : Trace}
theorem Ns {k : Nat} (h : ∃ c p, cls = some c ∧ t.act? p = some (.close c) ∧ Before t k p) : ∃ c p, cls = some c ∧ (t ++ u).act? p = some (.close c) ∧ Before (t ++ u) k p := by
 obtain ⟨c, p, h1, h2, h3⟩ := h
 exact ⟨c, p, h1, by rw [act?_old (lt_of_act? h2)]; exact h2, h3.app u⟩
theorem dA.app (hM : eM B th ch w) (hn : w.heap.size = n) (h : dA th ch cls n t) (hi : th i = some ⟨R, H⟩) (hu : ∀ op ∈ u, op.g = i)
  (ht : ∀ op ∈ u, ∀ a, op.act.touch? = some a → VS ch R H n a) (hl : ∀ op ∈ u, op.act.low n') (hw : Wordless u) (hnn : n ≤ n')
  (hR : ∀ b o, R' b = some o → R b = some o ∨ (∃ o', (b, o') ∈ H) ∨ n ≤ b) (hH : ∀ b o, (b, o) ∈ H' → (∃ o', (b, o') ∈ H) ∨ n ≤ b) :
  dA (fU th i (some ⟨R', H'⟩)) ch cls n' (t ++ u) := by
 have z8 {j : Nat} {y : Th} (hy : th j = some y) : (∀ b o, y.R b = some o → b < n) ∧ (∀ b o, (b, o) ∈ y.H → b < n) :=
  ⟨λ b o x => hn ▸ gD ((hM.fits j y hy).r b o x), λ b o x => hn ▸ gD ((hM.fits j y hy).h b o x)⟩
 have axm : ∀ c o, (c, o) ∈ ch → c < n := λ c o hc => hn ▸ gD (hM.oa c o hc)
 have KD : ∀ k op, (t ++ u)[k]? = some op → op ∈ u → Kn (t ++ u) i k := λ k op h1 h2 => by
  have := knows_own h1; rwa [hu op h2] at this
 refine ⟨λ j y hy b o hb k a hk hab => ?_, λ j y hy b o hb k a hk hab r9 => ?_, λ c o hc j y hy k a hk hab => ?_, λ op hop => ?_, λ k a hk hm => ?_, λ said => ?_, h.quiet.append hw⟩
 ·by_cases hj : j = i
  ·subst hj; rw [gJ] at hy; cases hy
   rcases qJ hk with ⟨_, hk'⟩ | ⟨op, h1, h2, _⟩
   ·rcases hH b o hb with ⟨o', ho'⟩ | hge
    ·exact (h.own j _ hi b o' ho' k a hk' hab).app u
    ·have := S8 h.low hk' hab; omega
   ·exact KD k op h1 h2
  ·rw [ef hj] at hy
   rcases qJ hk with ⟨_, hk'⟩ | ⟨op, h1, h2, h3⟩
   ·exact (h.own j y hy b o hb k a hk' hab).app u
   ·obtain ⟨b', hb', hc⟩ := ht op h2 a h3
    rw [hab] at hb'; cases hb'
    have hap := hM.apart j i _ _ hj hy hi b o hb
    rcases hc with ⟨_, o', x⟩ | ⟨o', x⟩ | x | ⟨_, o', x⟩
    ·exact nn hap.1 x
    ·exact absurd x (hap.2 o')
    ·have := (z8 hy).2 b o hb; omega
    ·exact absurd hb ((hM.nk b o' x j y hy).2 o)
 ·by_cases hj : j = i
  ·subst hj; rw [gJ] at hy; cases hy
   rcases qJ hk with ⟨_, hk'⟩ | ⟨op, h1, h2, _⟩
   ·rcases hR b o hb with x | ⟨o', x⟩ | x
    ·exact (h.read j _ hi b o x k a hk' hab r9).app u
    ·exact (h.own j _ hi b o' x k a hk' hab).app u
    ·have := S8 h.low hk' hab; omega
   ·exact KD k op h1 h2
  ·rw [ef hj] at hy
   rcases qJ hk with ⟨_, hk'⟩ | ⟨op, h1, h2, h3⟩
   ·exact (h.read j y hy b o hb k a hk' hab r9).app u
   ·obtain ⟨b', hb', hc⟩ := ht op h2 a h3
    rw [hab] at hb'; cases hb'
    rcases hc with ⟨x, _⟩ | ⟨o', x⟩ | x | ⟨_, o', x⟩
    ·rw [r9] at x; cases x
    ·exact nn (hM.apart i j _ _ (Ne.symm hj) hi hy b o' x).1 hb
    ·have := (z8 hy).1 b o hb; omega
    ·exact nn (hM.nk b o' x j y hy).1 hb
 ·by_cases hj : j = i
  ·subst hj
   rcases qJ hk with ⟨_, hk'⟩ | ⟨op, h1, h2, _⟩
   ·exact (h.de c o hc j _ hi k a hk' hab).imp id (·.app u)
   ·exact .inr (KD k op h1 h2)
  ·rw [ef hj] at hy
   rcases qJ hk with ⟨_, hk'⟩ | ⟨op, h1, h2, h3⟩
   ·exact (h.de c o hc j y hy k a hk' hab).imp id (·.app u)
   ·obtain ⟨b', hb', oe⟩ := ht op h2 a h3
    rw [hab] at hb'; cases hb'
    rcases oe with ⟨_, o', x⟩ | ⟨o', x⟩ | x | ⟨x, _⟩
    ·exact nn (hM.nk c o hc i _ hi).1 x
    ·exact absurd x ((hM.nk c o hc i _ hi).2 o')
    ·have := axm c o hc; omega
    ·exact .inl x
 ·rcases Array.mem_append.1 hop with x | x
  ·exact MemAct.low_mono hnn (h.low op x)
  ·exact hl op x
 ·rcases qJ hk with ⟨_, hk'⟩ | ⟨op, h1, h2, _⟩
  ·rcases h.all k a hk' hm with ⟨j, y, hy, hkn⟩ | gp
   ·by_cases hj : j = i
    ·subst hj; exact .inl ⟨j, _, gJ _ _ _, hkn.app u⟩
    ·exact .inl ⟨j, y, by rw [ef hj]; exact hy, hkn.app u⟩
   ·exact .inr (Ns gp)
  ·exact .inl ⟨i, _, gJ _ _ _, KD k op h1 h2⟩
 ·refine noRace_append (h.clean said) hu λ k a hk op hop b hb hc => ?_
  obtain ⟨anG, hmem, r9, hpl⟩ := hc
  obtain ⟨bb, hbb, hcs⟩ := ht op hop b hb
  have hab : blk a.loc = some bb := by rw [anG]; exact hbb
  rcases hcs with ⟨x, o, ho⟩ | ⟨o, x⟩ | x | ⟨x, o, ho⟩
  ·have E2 : a.write = true := by
    rcases r9 with y | y
    ·exact y
    ·rw [x] at y; cases y
   exact h.read i _ hi bb o ho k a hk hab E2
  ·exact h.own i _ hi bb o x k a hk hab
  ·have := S8 h.low hk hab; omega
  ·rcases h.de bb o ho i _ hi k a hk hab with y | y
   ·rcases hpl with z | z | ⟨_, z, _⟩
    ·rw [y] at z; cases z
    ·rw [x] at z; cases z
    ·rw [y] at z; cases z
   ·exact y
theorem azA {said : Bool} (h : ¬ Race said t) (hu : ∀ op ∈ u, op.act.touch? = none) : ¬ Race said (t ++ u) := by
 rintro ⟨i, j, hij, ⟨a, b, ha, hb, hc⟩, n1, n2⟩
 rcases qJ (u := u) (a := a) (k := i) ha with ⟨hi, ha'⟩ | ⟨op, _, h2, h3⟩
 ·rcases qJ (u := u) (a := b) (k := j) hb with ⟨hj, hb'⟩ | ⟨op, _, h2, h3⟩
  ·exact h ⟨i, j, hij, ⟨a, b, ha', hb', hc⟩, λ e => n1 (hb_app u e), λ e => n2 (hb_app u e)⟩
  ·rw [hu op h2] at h3; cases h3
 ·rw [hu op h2] at h3; cases h3
theorem dA.mute (h : dA th ch cls n t) (hu : ∀ op ∈ u, op.act.touch? = none) (hl : ∀ op ∈ u, op.act.low n) (hw : Wordless u) : dA th ch cls n (t ++ u) := by
 have old : ∀ {k a}, touchAt (t ++ u) k = some a → touchAt t k = some a := λ {k a} hk => by
  rcases qJ hk with ⟨_, x⟩ | ⟨op, _, h2, h3⟩
  ·exact x
  ·rw [hu op h2] at h3; cases h3
 exact ⟨λ j y hy b o hb k a hk hab => (h.own j y hy b o hb k a (old hk) hab).app u, λ j y hy b o hb k a hk hab r9 => (h.read j y hy b o hb k a (old hk) hab r9).app u,
  λ c o hc j y hy k a hk hab => (h.de c o hc j y hy k a (old hk) hab).imp id (·.app u), λ op hop => (Array.mem_append.1 hop).elim (h.low op) (hl op),
  λ k a hk hm => (h.all k a (old hk) hm).imp (λ ⟨j, y, hy, hkn⟩ => ⟨j, y, hy, hkn.app u⟩) Ns, λ said => azA (h.clean said) hu, h.quiet.append hw⟩
theorem aws {g c : Nat} {x y : MemOp} (hw : Wordless (t ++ #[x, y])) (hx : x.g = g) (wU : x.act = .go c) (hy : y.g = c) (mJ : y.act = .start) {k : Nat} (h : Kn t g k) : Kn (t ++ #[x, y]) c k := by
 have e1 : (t ++ #[x, y])[t.size]? = some x := by simp
 have e2 : (t ++ #[x, y])[t.size + 1]? = some y := by simp
 have h1 := Go.Conc.Knows.hb_new h (Nat.le_refl _) e1 hx
 exact ⟨t.size + 1, y, e2, hy, .inr (h1.trans (.single (.inr ⟨.spawn (child := c) (by rw [act?_of e1, wU]) (by rw [act?_of e2, mJ]) (by simp [Trace.g?, hy]), hw.heard e1, hw.heard e2⟩)))⟩
theorem awr {a b c s p q : Nat} {x y : MemOp} (hw : Wordless (t ++ u)) (hp : t.size ≤ p) (h1 : (t ++ u)[p]? = some x) (hx : x.g = a) (wU : x.act = .send c s) (h2 : (t ++ u)[q]? = some y) (hy : y.g = b) (mJ : y.act = .recvDone c s) {k : Nat} (h : Kn t a k) : Kn (t ++ u) b k := by
 have e := Go.Conc.Knows.hb_new h hp h1 hx
 exact ⟨q, y, h2, hy, .inr (e.trans (.single (.inr ⟨.handOver (c := c) (k := s) (by rw [act?_of h1, wU]) (by rw [act?_of h2, mJ]), hw.heard h1, hw.heard h2⟩)))⟩
theorem awq {b c p : Nat} {y : MemOp} (hw : Wordless (t ++ #[y])) (hp : t.act? p = some (.close c)) (hy : y.g = b) (mJ : y.act = .recvClosed c) {k : Nat} (h : Before t k p) : Kn (t ++ #[y]) b k := by
 have e2 : (t ++ #[y])[t.size]? = some y := by simp
 obtain ⟨x, hx, _⟩ := Option.map_eq_some_iff.1 hp
 have hx' : (t ++ #[y])[p]? = some x := by rw [getElem?_append_old (lt_size_of_getElem? hx)]; exact hx
 exact ⟨t.size, y, e2, hy, .inr ((h.app #[y]).hb (.single (.inr ⟨.closed (c := c) (by rw [act?_old (lt_of_act? hp)]; exact hp) (by rw [act?_of e2, mJ]), hw.heard hx', hw.heard e2⟩)))⟩
end
end Go.Lg
namespace Go.Lg
open Go.Conc
def cH : Nat → (Nat → Nat) → Nat
 | 0, _ => 0
 | j + 1, f => cH j f + f j
theorem xY {f g : Nat → Nat} : ∀ {j : Nat}, (∀ i, i < j → f i = g i) → cH j f = cH j g
 | 0, _ => rfl
 | j + 1, h => by rw [cH, cH, xY (λ i hi => h i (by omega)), h j (by omega)]
theorem xZ {f g : Nat → Nat} {i : Nat} : ∀ {j : Nat}, i < j → (∀ k, k ≠ i → g k = f k) → cH j g + f i = cH j f + g i
 | j + 1, h, hg => by
  rcases Nat.lt_or_ge i j with hlt | hge
  ·have := xZ hlt hg
   simp only [cH, hg j (by omega)]
   omega
  ·obtain rfl : i = j := by omega
   simp only [cH]
   rw [xY (g := f) (λ a ha => hg a (by omega))]
   omega
section
variable (P : Program) (Post : Value → World → Prop)
def iY (m : Machine) (t : Trace) : Prop := ∃ N last o w' t', runNT P (N + 1) m t = (.ended o w', t') ∧ runN P N m = .next last ∧ step P last = .ended o w' ∧ Good P Post last o w' t'
variable {P Post}
theorem iY.step {m m' : Machine} {t : Trace} {ops : Array MemOp} (hs : stepT P m = (.next m', ops)) (h : iY P Post m' (t ++ ops)) : iY P Post m t := by
 obtain ⟨N, last, o, w', t', h1, h2, h3, h4⟩ := h
 exact ⟨N + 1, last, o, w', t', by rw [runNT_succ_next hs]; exact h1, by rw [runN_succ_next hs]; exact h2, h3, h4⟩
theorem iY.end {m : Machine} {t : Trace} {o : Outcome} {w' : World} {ops : Array MemOp} (hs : stepT P m = (.ended o w', ops)) (h : Good P Post m o w' (t ++ ops)) : iY P Post m t :=
 ⟨0, m, o, w', t ++ ops, by simp [runNT, hs], rfl, by simp [Go.step, hs], h⟩
end
theorem KB {g : Nat} {fn : FuncId} {pos : String} {es : Array Event} {op : MemOp} (h : op ∈ MemOp.ofEvents g fn pos es) : ∃ e ∈ es, op = { g, fn, pos, act := .ofEvent e } := by
 rw [ofEvents_eq] at h
 obtain ⟨e, he, rfl⟩ := Array.mem_map.1 h
 exact ⟨e, he, rfl⟩
section
variable {R : aA} {H : ak} {n m : Nat} {e : Event} {ch : ak}
theorem ahF {a : Touch} (h : gq R H n m e) (ht : (MemAct.ofEvent e).touch? = some a) : VS ch R H n a := by
 obtain ⟨loc, wr, sy⟩ := e
 have key : ∀ b, yK R H n wr b → ((wr = false ∧ ∃ o, R b = some o) ∨ (∃ o, (b, o) ∈ H) ∨ n ≤ b) := λ b hb => by
  rcases hb with ⟨h1, h2⟩ | h2 | h2
  ·exact .inl ⟨h1, Option.isSome_iff_exists.1 h2⟩
  ·exact .inr (.inl h2)
  ·exact .inr (.inr h2)
 cases loc with
 | cell a' =>
  obtain ⟨h1, _, h3⟩ := h
  simp only at h1; subst h1
  have e1 : MemAct.ofEvent ⟨.cell a', wr, false⟩ = .access ⟨.cell a', wr, false⟩ := by cases wr <;> rfl
  rw [e1] at ht
  simp only [MemAct.touch?, Option.some.injEq] at ht
  subst ht
  refine ⟨a'.block, rfl, ?_⟩
  rcases key _ h3 with x | x | x
  ·exact .inl x
  ·exact .inr (.inl x)
  ·exact .inr (.inr (.inl x))
 | obj b =>
  obtain ⟨h1, _, h3⟩ := h
  simp only at h1; subst h1
  have e1 : MemAct.ofEvent ⟨.obj b, wr, false⟩ = .access ⟨.obj b, wr, false⟩ := by cases wr <;> rfl
  rw [e1] at ht
  simp only [MemAct.touch?, Option.some.injEq] at ht
  subst ht
  refine ⟨b, rfl, ?_⟩
  rcases key _ h3 with x | x | x
  ·exact .inl x
  ·exact .inr (.inl x)
  ·exact .inr (.inr (.inl x))
 | mark mk =>
  cases mk <;> simp [gq] at h
  cases wr <;> cases sy <;> simp [MemAct.ofEvent, MemAct.touch?] at ht
 | _ => simp [gq] at h
theorem ahE (h : gq R H n m e) : (MemAct.ofEvent e).low m := by
 obtain ⟨loc, wr, sy⟩ := e
 cases loc with
 | cell a' =>
  obtain ⟨h1, h2, _⟩ := h
  simp only at h1; subst h1
  cases wr <;> exact h2
 | obj b =>
  obtain ⟨h1, h2, _⟩ := h
  simp only at h1; subst h1
  cases wr <;> exact h2
 | mark mk =>
  cases mk <;> simp [gq] at h
  cases wr <;> cases sy <;> trivial
 | _ => simp [gq] at h
theorem ahG (h : gq R H n m e) : ∀ mk, MemAct.ofEvent e = .mark mk → Neutral mk := by
 obtain ⟨loc, wr, sy⟩ := e
 intro mk hm
 cases loc with
 | cell a' => obtain ⟨h1, _⟩ := h; simp only at h1; subst h1; cases wr <;> cases hm
 | obj b => obtain ⟨h1, _⟩ := h; simp only at h1; subst h1; cases wr <;> cases hm
 | mark mk' =>
  cases mk' <;> simp [gq] at h
  cases wr <;> cases sy <;> (cases hm; rfl)
 | _ => simp [gq] at h
end
section
variable {B : Base} {th : Nat → Option Th} {ch : ak} {cls : Option Nat} {w w' : World} {i : Nat} {R R' : aA} {H H' : ak} {t : Trace}
theorem KN (hM : eM B th ch w) (h : dA th ch cls w.heap.size t) (hi : th i = some ⟨R, H⟩) {es : Array Event} (hes : ∀ e ∈ es, gq R H w.heap.size w'.heap.size e) (hu : di B R H w R' H' w') (fn : FuncId) (pos : String) :
  eM B (fU th i (some ⟨R', H'⟩)) ch w' ∧ dA (fU th i (some ⟨R', H'⟩)) ch cls w'.heap.size (t ++ MemOp.ofEvents i fn pos es) := by
 refine ⟨hM.upd hi hu, dA.app hM rfl h hi ?_ ?_ ?_ ?_ hu.size hu.newR hu.uV⟩
 ·intro op hop; obtain ⟨e, _, rfl⟩ := KB hop; rfl
 ·intro op hop a ha; obtain ⟨e, he, rfl⟩ := KB hop; exact ahF (hes e he) ha
 ·intro op hop; obtain ⟨e, he, rfl⟩ := KB hop; exact ahE (hes e he)
 ·intro op hop mk hm; obtain ⟨e, he, rfl⟩ := KB hop; exact ahG (hes e he) mk hm
theorem Ys (hM : eM B th ch w) (h : dA th ch cls w.heap.size t) (hi : th i = some ⟨R, H⟩) (hu : di B R H w R' H' w) :
  eM B (fU th i (some ⟨R', H'⟩)) ch w ∧ dA (fU th i (some ⟨R', H'⟩)) ch cls w.heap.size t := by
 have := KN (w' := w) (es := #[]) hM h hi (by simp) hu 0 ""
 rw [ofEvents_none, Array.append_empty] at this
 exact this
end
def only (x : Th) : Nat → Option Th := λ i => if i = 0 then some x else none
theorem TP (x y : Th) : fU (only x) 0 (some y) = only y := by funext i; unfold fU only; split <;> rfl
structure Alone (P : Program) (B : Base) (R : aA) (H : ak) (gs : Array Goroutine) (w : World) (t : Trace) (q : Nat → Nat) : Prop where
 mem : eM B (only ⟨R, H⟩) [] w
 tr : dA (only ⟨R, H⟩) [] none w.heap.size t
 lv : ∀ i g, 0 < i → gs[i]? = some g → QuitsIn P (q i) g
section
variable (P : Program) (B : Base) (Post : Value → World → Prop)
def MJ (R : aA) (H : ak) (g : Goroutine) : Prop := ∀ gs w sl t q, gs[0]? = some g → Alone P B R H gs w t q → iY P Post (crowd gs w sl) t
end
section
variable {P : Program} {B : Base} {Post : Value → World → Prop} {R : aA} {H : ak} {g : Goroutine}
theorem Alone.fits {gs : Array Goroutine} {w : World} {t : Trace} {q : Nat → Nat} (h : Alone P B R H gs w t q) : Fits B R H w := h.mem.fits 0 ⟨R, H⟩ rfl
theorem Alone.at {gs : Array Goroutine} {w : World} {t : Trace} {q : Nat → Nat} (h : Alone P B R H gs w t q) (d : Nat) : Alone P B R H gs (w.at d) t q := ⟨h.mem.at d, h.tr, h.lv⟩
theorem acO {g g' b : Goroutine} {w' : World} {k : Nat} (hB : QuitsIn P k b) : woken P g g' w' b = b := by
 unfold woken
 split
 ·exact again_running _ hB.status
 ·rfl
theorem MJ.pick (hs : g.status = .running)
  (h : ∀ gs w sl sl' d t q, gs[0]? = some g → Alone P B R H gs (w.at d) t q → stepT P (crowd gs w sl) = runT P (crowd gs (w.at d) sl') 0 → iY P Post (crowd gs w sl) t) : MJ P B Post R H g := by
 have key : ∀ M gs w sl t q, cH gs.size q ≤ M → gs[0]? = some g → Alone P B R H gs w t q → iY P Post (crowd gs w sl) t := by
  intro M
  induction M with
  | zero =>
   intro gs w sl t q hM h0 hA
   have E2 : ∀ x ∈ gs, awake x := by
    intro x hx
    obtain ⟨i, hi, rfl⟩ := Array.mem_iff_getElem.1 hx
    rcases Nat.eq_zero_or_pos i with rfl | hpos
    ·have : gs[0] = g := by simpa [Array.getElem?_eq_getElem hi] using h0
     rw [this]; exact awake_of (.inl hs)
    ·exact awake_of ((hA.lv i _ hpos (Array.getElem?_eq_getElem hi)).status.elim .inl λ x => .inr (.inr x))
   obtain ⟨i, x, d, sl', hi, hx, hst⟩ := crowd_pick (P := P) (w := w) (sl := sl) E2 ⟨0, g, h0, hs⟩
   rcases Nat.eq_zero_or_pos i with rfl | hpos
   ·exact h gs w sl sl' d t q h0 (hA.at d) hst
   ·have hq := hA.lv i x hpos hi
    have hlt : i < gs.size := (Array.getElem?_eq_some_iff.1 hi).1
    have hq0 : q i = 0 := by
     have := xZ (f := q) (g := λ k => if k = i then q i + 0 else q k) hlt (λ k hk => by simp [hk])
     have h2 : ∀ (j : Nat), i < j → q i ≤ cH j q := by
      intro j hj
      induction j with
      | zero => omega
      | succ j ih =>
       rcases Nat.lt_or_ge i j with hlt | hge
       ·have := ih hlt; simp only [cH]; omega
       ·obtain rfl : i = j := by omega
        simp only [cH]; omega
     have := h2 gs.size hlt
     omega
    rw [hq0] at hq
    rw [show x.status = .finished from hq] at hx; cases hx
  | succ M ih =>
   intro gs w sl t q hM h0 hA
   have E2 : ∀ x ∈ gs, awake x := by
    intro x hx
    obtain ⟨i, hi, rfl⟩ := Array.mem_iff_getElem.1 hx
    rcases Nat.eq_zero_or_pos i with rfl | hpos
    ·have : gs[0] = g := by simpa [Array.getElem?_eq_getElem hi] using h0
     rw [this]; exact awake_of (.inl hs)
    ·exact awake_of ((hA.lv i _ hpos (Array.getElem?_eq_getElem hi)).status.elim .inl λ x => .inr (.inr x))
   obtain ⟨i, x, d, sl', hi, hx, hst⟩ := crowd_pick (P := P) (w := w) (sl := sl) E2 ⟨0, g, h0, hs⟩
   rcases Nat.eq_zero_or_pos i with rfl | hpos
   ·exact h gs w sl sl' d t q h0 (hA.at d) hst
   ·have hq := hA.lv i x hpos hi
    have jU : (i == 0) = false := by simp; omega
    have hlt : i < gs.size := (Array.getElem?_eq_some_iff.1 hi).1
    cases hqi : q i with
    | zero => rw [hqi] at hq; rw [show x.status = .finished from hq] at hx; cases hx
    | succ k =>
     rw [hqi] at hq
     rcases hq with hf | ⟨_, x', aqT, Vm⟩
     ·rw [hf] at hx; cases hx
     have Ce := runT_crowd_go (P := P) (sl := sl') (i := i) hi (by rw [jU]; exact aqT (w.at d))
     rw [ofEvents_none] at Ce
     refine iY.step (hst.trans Ce) ?_
     rw [Array.append_empty]
     have hsz : ((gs.map (woken P x x' (w.at d))).setIfInBounds i x').size = gs.size := by simp
     have hsum := xZ (f := q) (g := λ j => if j = i then k else q j) hlt (λ j hj => by simp [hj])
     simp only [if_true, hqi] at hsum
     refine ih _ _ _ _ (λ j => if j = i then k else q j) (by rw [hsz]; omega) ?_ ⟨(hA.at d).mem, hA.tr, λ j y hj hy => ?_⟩
     ·have hne : i ≠ 0 := by omega
      rw [Array.getElem?_setIfInBounds_ne hne, Array.getElem?_map, h0]
      simp [woken_run hs]
     ·by_cases hji : i = j
      ·subst hji
       rw [Array.getElem?_setIfInBounds_self_of_lt (by simpa using hlt)] at hy
       obtain rfl := Option.some.inj hy
       simpa using Vm
      ·rw [Array.getElem?_setIfInBounds_ne hji, Array.getElem?_map] at hy
       obtain ⟨z, hz, rfl⟩ := Option.map_eq_some_iff.1 hy
       have ZA := hA.lv j z hj hz
       rw [acO ZA]
       simpa [Ne.symm hji] using ZA
 exact λ gs w sl t q h0 hA => key _ gs w sl t q (Nat.le_refl _) h0 hA
theorem MJ.step (hs : g.status = .running) (h : ∀ w, Fits B R H w → ∃ g' w' es R' H', stepG P true g w = .go g' w' es ∧ (∀ e ∈ es, gq R H w.heap.size w'.heap.size e) ∧ di B R H w R' H' w' ∧ MJ P B Post R' H' g') : MJ P B Post R H g := by
 refine MJ.pick hs λ gs w sl sl' d t q h0 hA hst => ?_
 obtain ⟨g', w', es, R', H', h1, h2, h3, h4⟩ := h _ hA.fits
 have Ce := runT_crowd_go (P := P) (sl := sl') (i := 0) h0 (show stepG P (0 == 0) g (w.at d) = _ from h1)
 refine iY.step (hst.trans Ce) ?_
 have hlt : 0 < gs.size := (Array.getElem?_eq_some_iff.1 h0).1
 have hst := KN hA.mem hA.tr (i := 0) rfl h2 h3 g.frame.fn g.frame.place
 rw [TP] at hst
 refine h4 _ _ _ _ q (by simp [hlt]) ⟨hst.1, hst.2, λ j x hj hx => ?_⟩
 have hne : 0 ≠ j := by omega
 rw [Array.getElem?_setIfInBounds_ne hne, Array.getElem?_map] at hx
 obtain ⟨y, hy, rfl⟩ := Option.map_eq_some_iff.1 hx
 have hq := hA.lv j y hj hy
 rw [acO hq]
 exact hq
theorem MJ.ghost {R' : aA} {H' : ak} (hg : ∀ w, Fits B R H w → di B R H w R' H' w) (h : MJ P B Post R' H' g) : MJ P B Post R H g := by
 intro gs w sl t q h0 hA
 have hst := Ys hA.mem hA.tr (i := 0) rfl (hg w hA.fits)
 rw [TP] at hst
 exact h gs w sl t q h0 ⟨hst.1, hst.2, hA.lv⟩
def GY (P : Program) (B : Base) (Post : Value → World → Prop) : Jd P B true := ⟨MJ P B Post, MJ.step, MJ.ghost⟩
theorem handed {n : Nat} {t : Trace} (h : dA (only ⟨R, H⟩) [] none n t) : t.HandedOver := by
 intro i x hx hne hc
 obtain ⟨a, ha, hm, _⟩ := hc
 rcases h.all i a ha hm with ⟨j, y, hy, hk⟩ | ⟨c, p, gp, _⟩
 ·have hj : j = 0 := by
   unfold only at hy
   split at hy
   ·assumption
   ·cases hy
  subst hj
  obtain ⟨q, z, h1, h2, h3⟩ := hk
  refine ⟨q, by simp [Trace.g?, h1, h2], ?_⟩
  rcases h3 with rfl | h3
  ·rw [show t.g? i = some z.g by simp [Trace.g?, h1], h2] at hx
   exact absurd (Option.some.inj hx).symm hne
  ·exact h3
 ·cases gp
end
end Go.Lg
namespace Go.Lg
open Go.Conc
section
variable {B : Base} {th : Nat → Option Th} {ch ch' : ak} {cls : Option Nat} {w : World} {n i : Nat} {R R' : aA} {H : ak} {t u : Trace}
theorem eM.abR (h : eM B th ch w) {c : Nat} {o o' : Obj} (hc : (c, o) ∈ ch) (hch : ∀ x y, (x, y) ∈ ch' → (x = c ∧ y = o') ∨ (x ≠ c ∧ (x, y) ∈ ch)) : eM B th ch' { w with heap := w.heap.setIfInBounds c o' } := by
 have hlt := gD (h.oa c o hc)
 have ne : ∀ b, b ≠ c → (w.heap.setIfInBounds c o')[b]? = w.heap[b]? := λ b hb => Array.getElem?_setIfInBounds_ne (Ne.symm hb)
 refine ⟨λ j x hx => ?_, h.apart, λ x y hxy => ?_, λ x y hxy j z hz => ?_⟩
 ·have hf := h.fits j x hx
  have Y2 := h.nk c o hc j x hx
  refine ⟨λ b v hb => ?_, λ b v hb => ?_, hf.nd, hf.dj, hf.os, hf.tape, hf.out⟩
  ·show (w.heap.setIfInBounds c o')[b]? = _
   rw [ne b (λ e => by subst e; exact nn Y2.1 hb)]; exact hf.r b v hb
  ·show (w.heap.setIfInBounds c o')[b]? = _
   rw [ne b (λ e => by subst e; exact Y2.2 v hb)]; exact hf.h b v hb
 ·show (w.heap.setIfInBounds c o')[x]? = _
  rcases hch x y hxy with ⟨rfl, rfl⟩ | ⟨hne, hm⟩
  ·rw [Array.getElem?_setIfInBounds_self_of_lt hlt]
  ·rw [ne x hne]; exact h.oa x y hm
 ·rcases hch x y hxy with ⟨rfl, rfl⟩ | ⟨_, hm⟩
  ·exact h.nk x o hc j z hz
  ·exact h.nk x y hm j z hz
theorem dA.Xt (h : dA th ch cls n t) (hch : ∀ x y, (x, y) ∈ ch' → ∃ y', (x, y') ∈ ch) : dA th ch' cls n t :=
 ⟨h.own, h.read, λ c o hc => (h.de c _ (hch c o hc).choose_spec), h.low, h.all, h.clean, h.quiet⟩
theorem Hi (hu : ∀ op ∈ u, op.act.touch? = none) {k : Nat} {a : Touch} (h : touchAt (t ++ u) k = some a) : touchAt t k = some a := by
 rcases qJ h with ⟨_, x⟩ | ⟨op, _, h2, h3⟩
 ·exact x
 ·rw [hu op h2] at h3; cases h3
theorem dA.azu (h : dA th ch cls n t) (hu : ∀ op ∈ u, op.act.touch? = none) (hl : ∀ op ∈ u, op.act.low n) (hw : Wordless u) {c : Nat} (hi : th i = some ⟨R, H⟩) (hR : aO R' R) (hc : th c = none) (hk : ∀ k, Kn t i k → Kn (t ++ u) c k) :
  dA (fU th c (some ⟨R', []⟩)) ch cls n (t ++ u) := by
 have hm := h.mute hu hl hw
 refine ⟨λ j y hy b o hb k a hka hab => ?_, λ j y hy b o hb k a hka hab r9 => ?_, λ d o hd j y hy k a hka hab => ?_, hm.low, λ k a hka hm' => ?_, hm.clean, hm.quiet⟩
 ·by_cases hj : j = c
  ·subst hj; rw [gJ] at hy; cases hy; cases hb
  ·rw [ef hj] at hy; exact hm.own j y hy b o hb k a hka hab
 ·by_cases hj : j = c
  ·subst hj; rw [gJ] at hy; cases hy
   exact hk k (h.read i _ hi b o (hR b o hb) k a (Hi hu hka) hab r9)
  ·rw [ef hj] at hy; exact hm.read j y hy b o hb k a hka hab r9
 ·by_cases hj : j = c
  ·subst hj; rw [gJ] at hy; cases hy
   exact (h.de d o hd i _ hi k a (Hi hu hka) hab).imp id (hk k)
  ·rw [ef hj] at hy; exact hm.de d o hd j y hy k a hka hab
 ·refine (hm.all k a hka hm').imp (λ ⟨j, y, hy, hkn⟩ => ⟨j, y, ?_, hkn⟩) id
  rw [ef (λ e => by subst e; rw [hc] at hy; cases hy)]; exact hy
theorem dA.azw (h : dA th ch cls n t) (hu : ∀ op ∈ u, op.act.touch? = none) (hl : ∀ op ∈ u, op.act.low n) (hw : Wordless u) (hk : ∀ k, Kn t i k → ∃ j y, j ≠ i ∧ th j = some y ∧ Kn (t ++ u) j k) :
  dA (fU th i none) ch cls n (t ++ u) := by
 have hm := h.mute hu hl hw
 have key : ∀ j y, fU th i none j = some y → th j = some y := λ j y hy => by
  by_cases hj : j = i
  ·subst hj; rw [gJ] at hy; cases hy
  ·rwa [ef hj] at hy
 refine ⟨λ j y hy => hm.own j y (key j y hy), λ j y hy => hm.read j y (key j y hy), λ c o hc j y hy => hm.de c o hc j y (key j y hy), hm.low, λ k a hka hm' => ?_, hm.clean, hm.quiet⟩
 rcases h.all k a (Hi hu hka) hm' with ⟨j, y, hy, hkn⟩ | x
 ·by_cases hj : j = i
  ·subst hj
   obtain ⟨j', y', h1, h2, h3⟩ := hk k hkn
   exact .inl ⟨j', y', by rw [ef h1]; exact h2, h3⟩
  ·exact .inl ⟨j, y, by rw [ef hj]; exact hy, hkn.app u⟩
 ·exact .inr (Ns x)
theorem dA.aAD {x : Th} {c : Nat} {y : MemOp} (h : dA (only x) ch (some c) n t) (hy : y.g = 0) (mJ : y.act = .recvClosed c) (hc : c < n) : dA (only x) [] none n (t ++ #[y]) := by
 have hu : ∀ op ∈ #[y], op.act.touch? = none := λ op hop => by simp at hop; subst hop; rw [mJ]; rfl
 have hw : Wordless #[y] := λ op hop m hm => by simp at hop; subst hop; rw [mJ] at hm; cases hm
 have hm := h.mute hu (λ op hop => by simp at hop; subst hop; rw [mJ]; exact hc) hw
 refine ⟨hm.own, hm.read, λ c o hc => (by cases hc), hm.low, λ k a hka hmem => ?_, hm.clean, hm.quiet⟩
 rcases h.all k a (Hi hu hka) hmem with ⟨j, z, hz, hkn⟩ | ⟨c', p, h1, h2, h3⟩
 ·exact .inl ⟨j, z, hz, hkn.app _⟩
 ·cases h1
  exact .inl ⟨0, x, rfl, awq hm.quiet h2 hy mJ h3⟩
end
section
variable (P : Program) (B : Base) (main : Bool)
def Bw (c : Nat) (v : Value) (Next : aA → ak → Goroutine → Prop) (z : Value) (R : aA) (H : ak) (g : Goroutine) : Prop :=
 g.status = .running ∧ (∀ w, Fits B R H w → stepG P main g w = .comm (core g) #[scase c v z] true .send w #[]) ∧ Next R H (Conc.served (core g) undef)
def AtR (c : Nat) (fl : Bool) (tI : Value → aA → ak → Goroutine → Prop) (Nil : aA → ak → Goroutine → Prop) (z : Value) (R : aA) (H : ak) (g : Goroutine) : Prop :=
 g.status = .running ∧ (∀ w, Fits B R H w → stepG P main g w = .comm (core g) #[rcase c z] true (.recv fl) w #[]) ∧ (∀ v, tI v R H (Conc.served (core g) (recvd fl v true))) ∧ Nil R H (Conc.served (core g) (recvd fl z false))
def Vz (c : Nat) (R : aA) (H : ak) (g : Goroutine) : Prop :=
 g.status = .running ∧ mayWake P g = true ∧ ∃ g' n, (∀ w s r tm, Fits B R H w → w.heap[c]? = some (.chan 0 #[] false s r tm) → stepG P false g w = .go g' (w.shut c s r tm) #[⟨.obj c, false, true⟩, ⟨.obj c, true, true⟩]) ∧ QuitsIn P n g'
def VT (c : Nat) (v : Value) (Next : aA → ak → Goroutine → Prop) (R : aA) (H : ak) (g : Goroutine) : Prop := ∃ g0 z, Bw P B main c v Next z R H g0 ∧ g = parked (core g0) #[scase c v z] .send
def MH (c : Nat) (fl : Bool) (tI : Value → aA → ak → Goroutine → Prop) (Nil : aA → ak → Goroutine → Prop) (R : aA) (H : ak) (g : Goroutine) : Prop := ∃ g0 z, AtR P B main c fl tI Nil z R H g0 ∧ g = parked (core g0) #[rcase c z] (.recv fl)
end
section
variable (P : Program) (B : Base) (cf cd : Nat) (bW : aA → ak → Goroutine → Prop)
def Lv (_ : aA) (_ : ak) (g : Goroutine) : Prop := ∃ n, QuitsIn P n g
def vN (R : aA) (H : ak) (g : Goroutine) : Prop := ∃ z, Bw P B false cd (.bool true) (Lv P) z R H g
def W2 : aA → ak → Goroutine → Prop := Own P B false (vN P B cd)
def vM (v : Value) (R : aA) (H : ak) (g : Goroutine) : Prop := ∃ z, Bw P B false cf v (W2 P B cd) z R H g
def Mp (CK : aA → ak → Goroutine → Prop) (_ : Value) (R : aA) (H : ak) (g : Goroutine) : Prop := Own P B false CK R H g
def Tt (_ : aA) (_ : ak) (_ : Goroutine) : Prop := True
def CK : Nat → aA → ak → Goroutine → Prop
 | 0 => Vz P B cf
 | n + 1 => λ R H g => ∃ z, AtR P B false cd false (Mp P B (CK n)) Tt z R H g
def Iz (rem : List Value) (MK : List Value → aA → ak → Goroutine → Prop) (v : Value) (R : aA) (H : ak) (g : Goroutine) : Prop := ∀ rest, rem.Perm (v :: rest) → Own P B true (MK rest) R H g
def lg : Nat → List Value → aA → ak → Goroutine → Prop
 | 0, _ => λ R H g => ∃ z, AtR P B true cf true (λ _ => Tt) bW z R H g
 | n + 1, rem => λ R H g => ∃ z, AtR P B true cf true (Iz P B rem (lg n)) Tt z R H g
def oW : Nat → List Value → aA → ak → Goroutine → Prop
 | 0, sp => λ R H g => g.status = .running ∧ ∀ w, Fits B R H w → ∃ g' child, stepG P true g w = .spawn g' child w #[] ∧ Own P B false (CK P B cf cd sp.length) R [] child ∧ Own P B true (lg P B cf bW sp.length sp) R H g'
 | k + 1, sp => λ R H g => g.status = .running ∧ ∀ w, Fits B R H w → ∃ g' child v, stepG P true g w = .spawn g' child w #[] ∧ Own P B false (vM P B cf cd v) R [] child ∧ Own P B true (oW k (v :: sp)) R H g'
end
inductive Dt : Type 1
 | lv (n : Nat)
 | w1 (v : Value) (m : Ms)
 | w2 (m : Ms)
 | cl (k : Nat) (m : Ms)
 | ms (k : Nat) (sp : List Value) (m : Ms)
 | mr (rem : List Value) (m : Ms)
def Dt.nI : Dt → Ms
 | .lv n => some (AF n)
 | .w1 _ m | .w2 m | .cl _ m | .ms _ _ m | .mr _ m => m
def Dt.set : Dt → Ms → Dt
 | .lv n, _ => .lv n
 | .w1 v _, m => .w1 v m
 | .w2 _, m => .w2 m
 | .cl k _, m => .cl k m
 | .ms k sp _, m => .ms k sp m
 | .mr rem _, m => .mr rem m
def Dt.dB : Dt → Nat
 | .lv _ => 0
 | .w1 _ _ => 2
 | .w2 _ => 1
 | .cl k _ => k + 1
 | .ms k sp _ => 3 * k + 2 * (k + sp.length) + 3
 | .mr rem _ => rem.length + 1
def Dt.act : Dt → Nat
 | .w1 _ _ | .w2 _ => 1
 | _ => 0
def Dt.jF : Dt → Option Value
 | .w1 v _ => some v
 | _ => none
def vals (D : Nat → Dt) : Nat → List Value
 | 0 => []
 | n + 1 => match (D n).jF with | some v => v :: vals D n | none => vals D n
def cm (D : Nat → Dt) (i : Nat) (x : Dt) : Nat → Dt := λ j => if j = i then x else D j
theorem cC (D : Nat → Dt) (i : Nat) (x : Dt) : cm D i x i = x := by simp [cm]
theorem bM {D : Nat → Dt} {i j : Nat} {x : Dt} (h : j ≠ i) : cm D i x j = D j := by simp [cm, h]
theorem qY (D : Nat → Dt) (n : Nat) : vals D (n + 1) = (D n).jF.toList ++ vals D n := by
 simp only [vals]
 cases (D n).jF <;> rfl
theorem AU {D D' : Nat → Dt} : ∀ {n : Nat}, (∀ i, i < n → (D' i).jF = (D i).jF) → vals D' n = vals D n
 | 0, _ => rfl
 | n + 1, h => by rw [qY, qY, h n (by omega), AU (λ i hi => h i (by omega))]
theorem acr {D D' : Nat → Dt} {i : Nat} {v : Value} (hv : (D i).jF = some v) (h0 : (D' i).jF = none) (hne : ∀ j, j ≠ i → (D' j).jF = (D j).jF) : ∀ {n : Nat}, i < n → (vals D n).Perm (v :: vals D' n)
 | n + 1, h => by
  rcases Nat.lt_or_ge i n with hlt | hge
  ·have ih := acr hv h0 hne hlt
   rw [qY, qY, hne n (by omega)]
   cases (D n).jF with
   | none => exact ih
   | some u => exact (List.Perm.cons u ih).trans (List.Perm.swap _ _ _)
  ·obtain rfl : i = n := by omega
   rw [qY, qY, hv, h0, AU (D := D) (D' := D') λ j hj => hne j (by omega)]
   exact List.Perm.refl _
theorem aBX (d : Dt) : d.jF.toList.length ≤ d.act := by cases d <;> simp [Dt.jF, Dt.act]
theorem Us {D : Nat → Dt} : ∀ {n : Nat}, (vals D n).length ≤ cH n (λ i => (D i).act)
 | 0 => by simp [vals]
 | n + 1 => by
  have ih := Us (D := D) (n := n)
  have := aBX (D n)
  rw [qY, List.length_append]
  simp only [cH]
  omega
theorem acp {D : Nat → Dt} : ∀ {n : Nat}, (∀ i m, i < n → D i ≠ .w2 m) → (vals D n).length = cH n (λ i => (D i).act)
 | 0, _ => by simp [vals, cH]
 | n + 1, hw => by
  have ih := acp (D := D) (n := n) λ i m hi => hw i m (by omega)
  have : (D n).jF.toList.length = (D n).act := by
   cases h : D n with
   | w2 m => exact absurd h (hw n m (by omega))
   | _ => simp [Dt.jF, Dt.act]
  rw [qY, List.length_append]
  simp only [cH]
  omega
theorem Wh {D : Nat → Dt} : ∀ {n : Nat}, cH n (λ i => (D i).act) = 0 → ∀ i, i < n → (D i).act = 0
 | n + 1, h, i, hi => by
  simp only [cH] at h
  rcases Nat.lt_or_ge i n with hlt | hge
  ·exact Wh (by omega) i hlt
  ·obtain rfl : i = n := by omega
   omega
section
variable (P : Program) (B : Base) (cf cd : Nat) (bW : aA → ak → Goroutine → Prop)
def Eh (main : Bool) (K Pk : aA → ak → Goroutine → Prop) (m : Ms) (x : Option Th) (g : Goroutine) : Prop :=
 ∃ y : Th, x = some y ∧ ((∃ T, m = some T ∧ vO P B main K T y.R y.H g) ∨ (m = none ∧ Pk y.R y.H g))
def No (_ : aA) (_ : ak) (_ : Goroutine) : Prop := False
def PkC : Nat → aA → ak → Goroutine → Prop
 | 0 => No
 | n + 1 => MH P B false cd false (Mp P B (CK P B cf cd n)) Tt
def IB : Nat → List Value → aA → ak → Goroutine → Prop
 | 0, _ => MH P B true cf true (λ _ => Tt) bW
 | n + 1, rem => MH P B true cf true (Iz P B rem (lg P B cf bW n)) Tt
def kD (i : Nat) : Dt → Option Th → Goroutine → Prop
 | .lv n, x, g => x = none ∧ QuitsIn P n g ∧ 0 < i
 | .w1 v m, x, g => Eh P B false (vM P B cf cd v) (VT P B false cf v (W2 P B cd)) m x g ∧ 0 < i
 | .w2 m, x, g => Eh P B false (vN P B cd) (VT P B false cd (.bool true) (Lv P)) m x g ∧ 0 < i
 | .cl k m, x, g => Eh P B false (CK P B cf cd k) (PkC P B cf cd k) m x g ∧ 0 < i
 | .ms k sp m, x, g => Eh P B true (oW P B cf cd bW k sp) No m x g ∧ i = 0
 | .mr rem m, x, g => Eh P B true (lg P B cf bW rem.length rem) (IB P B cf bW rem.length rem) m x g ∧ i = 0
inductive Ph (cf : Nat) (n : Nat) (D : Nat → Dt) : Bool → Option Nat → Prop
 | kY {k sp m} : D 0 = .ms k sp m → (vals D n).Perm sp → (∀ i k m, D i ≠ .cl k m) → (∀ i m, D i ≠ .w2 m) → Ph cf n D false none
 | iS {rem m ic kc mc} : D 0 = .mr rem m → (vals D n).Perm rem → ic < n → D ic = .cl kc mc → (∀ j k m, D j = .cl k m → j = ic) → kc = cH n (λ i => (D i).act) →
   (m = none → ∀ i v, D i ≠ .w1 v none) → (mc = none → ∀ i, D i ≠ .w2 none) → Ph cf n D false none
 | closed {rem m} : D 0 = .mr rem m → (vals D n).Perm rem → (∀ i k m, D i ≠ .cl k m) → (∀ i, (D i).act = 0) → m ≠ none → Ph cf n D true (some cf)
structure PI (D : Nat → Dt) (th : Nat → Option Th) (cA : Bool) (cls : Option Nat) (s1 s2 : Nat) (bN bY : Bool) (gs : Array Goroutine) (w : World) (t : Trace) : Prop where
 ne : cf ≠ cd
 mem : eM B th [(cf, .chan 0 #[] cA s1 s1 bN), (cd, .chan 0 #[] false s2 s2 bY)] w
 tr : dA th [(cf, .chan 0 #[] cA s1 s1 bN), (cd, .chan 0 #[] false s2 s2 bY)] cls w.heap.size t
 fT : ∀ i g, gs[i]? = some g → kD P B cf cd bW i (D i) (th i) g
 out : ∀ i, gs.size ≤ i → th i = none ∧ D i = .lv 0
 ph : Ph cf gs.size D cA cls
 pos : 0 < gs.size
end
end Go.Lg
namespace Go.Lg
open Go.Conc
def mu (D : Nat → Dt) (n : Nat) : Nat × List Ms := (cH n (λ i => (D i).dB), (List.range n).map λ i => (D i).nI)
def tQ (a b : Nat × List Ms) : Prop := a.1 < b.1 ∨ (a.1 = b.1 ∧ One m7 a.2 b.2)
theorem tQ.wf : WellFounded tQ := by
 have key : ∀ p, ∀ l, Acc tQ (p, l) := by
  intro p
  induction p using Nat.strongRecOn with
  | ind p ihp =>
   intro l
   induction l using One.wf.induction with
   | _ l ihl =>
    refine ⟨_, λ y hy => ?_⟩
    obtain ⟨q, m⟩ := y
    rcases hy with h | ⟨h1, h2⟩
    ·exact ihp q h m
    ·simp only at h1; subst h1; exact ihl m h2
 exact ⟨λ ⟨p, l⟩ => key p l⟩
theorem AE {D : Nat → Dt} {n i : Nat} {x : Dt} {a b : Ms} (hi : i < n) (hb : (D i).nI = b) (ha : x.nI = a) (hl : m7 a b) (hp : x.dB = (D i).dB) : tQ (mu (cm D i x) n) (mu D n) := by
 refine .inr ⟨?_, ?_⟩
 ·show cH n (λ j => (cm D i x j).dB) = cH n (λ j => (D j).dB)
  have := xZ (f := λ j => (D j).dB) (g := λ j => (cm D i x j).dB) hi (λ k hk => by simp only [bM hk])
  simp only [cC] at this
  omega
 ·have e : (List.range n).map (λ j => (cm D i x j).nI) = ((List.range n).map λ j => (D j).nI).set i a := by
   apply List.ext_getElem?
   intro j
   rw [List.getElem?_set]
   by_cases hj : i = j
   ·subst hj; simp [hi, cC, ha]
   ·simp only [hj, if_false, List.getElem?_map]
    cases hr : (List.range n)[j]? with
    | none => rfl
    | some k =>
     have hk : k = j := by
      have := List.getElem?_eq_some_iff.1 hr
      obtain ⟨_, h2⟩ := this
      simpa using h2.symm
     subst hk
     simp [bM (Ne.symm hj)]
  show One m7 ((List.range n).map _) _
  rw [e]
  exact One.set (by simp [hi, hb]) hl
theorem G2 {D : Nat → Dt} {n i j : Nat} {x y : Dt} (hi : i < n) (hj : j < n) (hij : j ≠ i) (hp : x.dB + y.dB < (D i).dB + (D j).dB) : tQ (mu (cm (cm D j y) i x) n) (mu D n) := by
 refine .inl ?_
 show cH n (λ k => (cm (cm D j y) i x k).dB) < cH n (λ k => (D k).dB)
 have h1 := xZ (f := λ k => (cm D j y k).dB) (g := λ k => (cm (cm D j y) i x k).dB) hi (λ k hk => by simp only [bM hk])
 have h2 := xZ (f := λ k => (D k).dB) (g := λ k => (cm D j y k).dB) hj (λ k hk => by simp only [bM hk])
 simp only [cC, bM (Ne.symm hij)] at h1 h2
 omega
theorem aba {D : Nat → Dt} {n : Nat} {x y : Dt} (hn : 0 < n) (hp : x.dB + y.dB < (D 0).dB) : tQ (mu (cm (cm D n y) 0 x) (n + 1)) (mu D n) := by
 refine .inl ?_
 show cH (n + 1) (λ k => (cm (cm D n y) 0 x k).dB) < cH n (λ k => (D k).dB)
 have h1 := xZ (f := λ k => (D k).dB) (g := λ k => (cm D 0 x k).dB) hn (λ k hk => by simp only [bM hk])
 have h2 : cH n (λ k => (cm (cm D n y) 0 x k).dB) = cH n (λ k => (cm D 0 x k).dB) := xY λ k hk => by
  by_cases h0 : k = 0
  ·subst h0; rw [cC, cC]
  ·rw [bM h0, bM h0, bM (by omega)]
 simp only [cH, h2, bM (show n ≠ 0 by omega), cC] at h1 ⊢
 omega
theorem vO.pL {P : Program} {B : Base} {main : Bool} {K : aA → ak → Goroutine → Prop} {T : Tree} {R : aA} {H : ak} {g : Goroutine} (h : vO P B main K T R H g) (hs : ∀ R H g, K R H g → g.status = .running) : g.status = .running := by
 induction T generalizing R H g with
 | node ι f ih =>
  rcases h with h | ⟨h, _⟩ | ⟨R', H', i, _, h⟩
  ·exact hs _ _ _ h
  ·exact h
  ·exact ih i h
section
variable {P : Program} {B : Base} {cf cd : Nat} {bW : aA → ak → Goroutine → Prop} {main : Bool}
theorem vM.run {v : Value} {R : aA} {H : ak} {g : Goroutine} (h : vM P B cf cd v R H g) : g.status = .running := by obtain ⟨_, h⟩ := h; exact h.1
theorem vN.run {R : aA} {H : ak} {g : Goroutine} (h : vN P B cd R H g) : g.status = .running := by obtain ⟨_, h⟩ := h; exact h.1
theorem CK.run {k : Nat} {R : aA} {H : ak} {g : Goroutine} (h : CK P B cf cd k R H g) : g.status = .running := by
 cases k with
 | zero => exact h.1
 | succ k => obtain ⟨_, h⟩ := h; exact h.1
theorem oW.run {k : Nat} {sp : List Value} {R : aA} {H : ak} {g : Goroutine} (h : oW P B cf cd bW k sp R H g) : g.status = .running := by
 cases k <;> exact h.1
theorem lg.run {k : Nat} {rem : List Value} {R : aA} {H : ak} {g : Goroutine} (h : lg P B cf bW k rem R H g) : g.status = .running := by
 cases k <;> (obtain ⟨_, h⟩ := h; exact h.1)
theorem kD.look {i : Nat} {d : Dt} {x : Option Th} {g : Goroutine} (h : kD P B cf cd bW i d x g) :
  (g.status = .running ∧ ∃ T, d.nI = some T) ∨ (g.status = .finished) ∨
  (∃ v g0 z, d = .w1 v none ∧ g = parked (core g0) #[scase cf v z] .send) ∨
  (∃ g0 z, d = .w2 none ∧ g = parked (core g0) #[scase cd (.bool true) z] .send) ∨
  (∃ k g0 z, d = .cl (k + 1) none ∧ g = parked (core g0) #[rcase cd z] (.recv false)) ∨
  (∃ rem g0 z, d = .mr rem none ∧ g = parked (core g0) #[rcase cf z] (.recv true)) := by
 cases d with
 | lv n =>
  obtain ⟨_, h, _⟩ := h
  rcases h.status with h | h
  ·exact .inl ⟨h, _, rfl⟩
  ·exact .inr (.inl h)
 | w1 v m =>
  obtain ⟨⟨y, _, ⟨T, rfl, h⟩ | ⟨rfl, g0, z, _, h⟩⟩, _⟩ := h
  ·exact .inl ⟨h.pL λ _ _ _ => vM.run, _, rfl⟩
  ·exact .inr (.inr (.inl ⟨v, g0, z, rfl, h⟩))
 | w2 m =>
  obtain ⟨⟨y, _, ⟨T, rfl, h⟩ | ⟨rfl, g0, z, _, h⟩⟩, _⟩ := h
  ·exact .inl ⟨h.pL λ _ _ _ => vN.run, _, rfl⟩
  ·exact .inr (.inr (.inr (.inl ⟨g0, z, rfl, h⟩)))
 | cl k m =>
  obtain ⟨⟨y, _, ⟨T, rfl, h⟩ | ⟨rfl, h⟩⟩, _⟩ := h
  ·exact .inl ⟨h.pL λ _ _ _ => CK.run, _, rfl⟩
  ·cases k with
   | zero => exact h.elim
   | succ k => obtain ⟨g0, z, _, h⟩ := h; exact .inr (.inr (.inr (.inr (.inl ⟨k, g0, z, rfl, h⟩))))
 | ms k sp m =>
  obtain ⟨⟨y, _, ⟨T, rfl, h⟩ | ⟨rfl, h⟩⟩, _⟩ := h
  ·exact .inl ⟨h.pL λ _ _ _ => oW.run, _, rfl⟩
  ·exact h.elim
 | mr rem m =>
  obtain ⟨⟨y, _, ⟨T, rfl, h⟩ | ⟨rfl, h⟩⟩, _⟩ := h
  ·exact .inl ⟨h.pL λ _ _ _ => lg.run, _, rfl⟩
  ·have : ∃ g0 z, g = parked (core g0) #[rcase cf z] (.recv true) := by
    generalize rem.length = k at h
    cases k <;> (obtain ⟨g0, z, _, h⟩ := h; exact ⟨g0, z, h⟩)
   obtain ⟨g0, z, h⟩ := this
   exact .inr (.inr (.inr (.inr (.inr ⟨rem, g0, z, rfl, h⟩))))
theorem kD.offers {i : Nat} {d : Dt} {x : Option Th} {g : Goroutine} (h : kD P B cf cd bW i d x g) (_ : cf ≠ cd) {c : Nat} {send : Bool} {k : Nat} (hk : k ∈ offersAt g c send) :
  k = 0 ∧ ((c = cf ∧ send = true ∧ ∃ v g0 z, d = .w1 v none ∧ g = parked (core g0) #[scase cf v z] .send) ∨
  (c = cd ∧ send = true ∧ ∃ g0 z, d = .w2 none ∧ g = parked (core g0) #[scase cd (.bool true) z] .send) ∨
  (c = cd ∧ send = false ∧ ∃ k g0 z, d = .cl (k + 1) none ∧ g = parked (core g0) #[rcase cd z] (.recv false)) ∨
  (c = cf ∧ send = false ∧ ∃ rem g0 z, d = .mr rem none ∧ g = parked (core g0) #[rcase cf z] (.recv true))) := by
 rcases h.look with ⟨h, _⟩ | h | ⟨v, g0, z, h1, h2⟩ | ⟨g0, z, h1, h2⟩ | ⟨k', g0, z, h1, h2⟩ | ⟨rem, g0, z, h1, h2⟩
 ·rw [offersAt_of_not_blocked (by rw [h]; intro e; cases e)] at hk; cases hk
 ·rw [offersAt_of_not_blocked (by rw [h]; intro e; cases e)] at hk; cases hk
 all_goals (subst h2; cases send)
 ·rw [offersAt_parked_send'] at hk; cases hk
 ·rw [offersAt_parked_send] at hk
  split at hk
  ·simp at hk; rename_i e; exact ⟨hk, .inl ⟨e.symm, rfl, v, g0, z, h1, rfl⟩⟩
  ·cases hk
 ·rw [offersAt_parked_send'] at hk; cases hk
 ·rw [offersAt_parked_send] at hk
  split at hk
  ·simp at hk; rename_i e; exact ⟨hk, .inr (.inl ⟨e.symm, rfl, g0, z, h1, rfl⟩)⟩
  ·cases hk
 ·rw [offersAt_parked_recv] at hk
  split at hk
  ·simp at hk; rename_i e; exact ⟨hk, .inr (.inr (.inl ⟨e.symm, rfl, k', g0, z, h1, rfl⟩))⟩
  ·cases hk
 ·rw [offersAt_parked_recv'] at hk; cases hk
 ·rw [offersAt_parked_recv] at hk
  split at hk
  ·simp at hk; rename_i e; exact ⟨hk, .inr (.inr (.inr ⟨e.symm, rfl, rem, g0, z, h1, rfl⟩))⟩
  ·cases hk
 ·rw [offersAt_parked_recv'] at hk; cases hk
theorem kD.awake {i : Nat} {d : Dt} {x : Option Th} {g : Goroutine} (h : kD P B cf cd bW i d x g) : awake g := by
 rcases h.look with ⟨h, _⟩ | h | ⟨v, g0, z, h1, rfl⟩ | ⟨g0, z, h1, rfl⟩ | ⟨k', g0, z, h1, rfl⟩ | ⟨rem, g0, z, h1, rfl⟩
 ·exact awake_of (.inl h)
 ·exact awake_of (.inr (.inr h))
 all_goals exact awake_of (.inr (.inl rfl))
theorem kD.again {i : Nat} {d : Dt} {x : Option Th} {g a a' : Goroutine} {w : World} {s1 s2 : Nat} {bN bY : Bool} (h : kD P B cf cd bW i d x g) (h2 : w.heap[cd]? = some (.chan 0 #[] false s2 s2 bY))
  (h1 : w.heap[cf]? = some (.chan 0 #[] false s1 s1 bN) ∨ ((∀ v, d ≠ .w1 v none) ∧ ∀ rem, d ≠ .mr rem none)) : woken P a a' w g = g := by
 unfold woken
 split
 ·rcases h.look with ⟨h, _⟩ | h | ⟨v, g0, z, e, rfl⟩ | ⟨g0, z, e, rfl⟩ | ⟨k', g0, z, e, rfl⟩ | ⟨rem, g0, z, e, rfl⟩
  ·exact again_running _ (.inl h)
  ·exact again_running _ (.inr h)
  ·rcases h1 with h1 | h1
   ·exact again_parked_open rfl h1
   ·exact absurd e (h1.1 v)
  ·exact again_parked_open rfl h2
  ·exact again_parked_open rfl h2
  ·rcases h1 with h1 | h1
   ·exact again_parked_open rfl h1
   ·exact absurd e (h1.2 rem)
 ·rfl
end
end Go.Lg
namespace Go.Lg
open Go.Conc
def Q (d d' : Dt) : Prop := d' = d ∨ (∃ n n', d = .lv n ∧ d' = .lv n') ∨ (∃ T, d' = d.set (some T))
theorem Q.jF {d d' : Dt} (h : Q d d') : d'.jF = d.jF := by
 rcases h with rfl | ⟨n, n', rfl, rfl⟩ | ⟨T, rfl⟩
 ·rfl
 ·rfl
 ·cases d <;> rfl
theorem Q.act {d d' : Dt} (h : Q d d') : d'.act = d.act := by
 rcases h with rfl | ⟨n, n', rfl, rfl⟩ | ⟨T, rfl⟩
 ·rfl
 ·rfl
 ·cases d <;> rfl
theorem Q.cl {d d' : Dt} (h : Q d d') {k : Nat} {m' : Ms} (e : d' = .cl k m') : ∃ m, d = .cl k m := by
 rcases h with rfl | ⟨n, n', rfl, rfl⟩ | ⟨T, rfl⟩
 ·exact ⟨_, e⟩
 ·cases e
 ·cases d <;> simp [Dt.set] at e
  exact ⟨_, by rw [e.1]⟩
theorem Q.cl' {d d' : Dt} (h : Q d d') {k : Nat} {m : Ms} (e : d = .cl k m) : ∃ m', d' = .cl k m' ∧ (m' = m ∨ m' ≠ none) := by
 subst e
 rcases h with rfl | ⟨n, n', h1, h2⟩ | ⟨T, rfl⟩
 ·exact ⟨_, rfl, .inl rfl⟩
 ·cases h1
 ·exact ⟨_, rfl, .inr (by simp)⟩
theorem Q.ms' {d d' : Dt} (h : Q d d') {k : Nat} {sp : List Value} {m : Ms} (e : d = .ms k sp m) : ∃ m', d' = .ms k sp m' := by
 subst e
 rcases h with rfl | ⟨n, n', h1, h2⟩ | ⟨T, rfl⟩
 ·exact ⟨_, rfl⟩
 ·cases h1
 ·exact ⟨_, rfl⟩
theorem Q.mr' {d d' : Dt} (h : Q d d') {rem : List Value} {m : Ms} (e : d = .mr rem m) : ∃ m', d' = .mr rem m' ∧ (m' = m ∨ m' ≠ none) := by
 subst e
 rcases h with rfl | ⟨n, n', h1, h2⟩ | ⟨T, rfl⟩
 ·exact ⟨_, rfl, .inl rfl⟩
 ·cases h1
 ·exact ⟨_, rfl, .inr (by simp)⟩
theorem Q.w1 {d d' : Dt} (h : Q d d') {v : Value} (e : d' = .w1 v none) : d = .w1 v none := by
 rcases h with rfl | ⟨n, n', rfl, rfl⟩ | ⟨T, rfl⟩
 ·exact e
 ·cases e
 ·cases d <;> simp [Dt.set] at e
theorem Q.w2 {d d' : Dt} (h : Q d d') (e : d' = .w2 none) : d = .w2 none := by
 rcases h with rfl | ⟨n, n', rfl, rfl⟩ | ⟨T, rfl⟩
 ·exact e
 ·cases e
 ·cases d <;> simp [Dt.set] at e
theorem Q.w2' {d d' : Dt} (h : Q d d') {m : Ms} (e : d' = .w2 m) : ∃ m, d = .w2 m := by
 rcases h with rfl | ⟨n, n', rfl, rfl⟩ | ⟨T, rfl⟩
 ·exact ⟨_, e⟩
 ·cases e
 ·cases d <;> simp [Dt.set] at e
  exact ⟨_, rfl⟩
theorem Q.upd {D : Nat → Dt} {i : Nat} {x : Dt} (h : Q (D i) x) (j : Nat) : Q (D j) (cm D i x j) := by
 by_cases hj : j = i
 ·subst hj; rw [cC]; exact h
 ·rw [bM hj]; exact .inl rfl
theorem Ph.q {cf n : Nat} {D D' : Nat → Dt} {cA : Bool} {cls : Option Nat} (h : Ph cf n D cA cls) (hq : ∀ j, Q (D j) (D' j)) : Ph cf n D' cA cls := by
 have hv : vals D' n = vals D n := AU λ i _ => (hq i).jF
 have ha : cH n (λ i => (D' i).act) = cH n (λ i => (D i).act) := xY λ i _ => (hq i).act
 cases h with
 | kY h0 hp hc hw =>
  obtain ⟨m', nw⟩ := (hq 0).ms' h0
  exact .kY nw (hv ▸ hp) (λ i k m e => let ⟨_, e'⟩ := (hq i).cl e; hc i k _ e') (λ i m e => let ⟨_, e'⟩ := (hq i).w2' e; hw i _ e')
 | @iS rem m ic kc mc h0 hp hic hdc hun hk hw1 nD =>
  obtain ⟨m', nw, hm'⟩ := (hq 0).mr' h0
  obtain ⟨mc', akI, anJ⟩ := (hq ic).cl' hdc
  refine .iS nw (hv ▸ hp) hic akI (λ j k m e => let ⟨_, e'⟩ := (hq j).cl e; hun j k _ e') (by rw [ha]; exact hk) (λ e i v e' => ?_) (λ e i e' => ?_)
  ·rcases hm' with x | x
   ·exact hw1 (x ▸ e) i v ((hq i).w1 e')
   ·exact x e
  ·rcases anJ with x | x
   ·exact nD (x ▸ e) i ((hq i).w2 e')
   ·exact x e
 | closed h0 hp hc hac hm =>
  obtain ⟨m', nw, hm'⟩ := (hq 0).mr' h0
  refine .closed nw (hv ▸ hp) (λ i k m e => let ⟨_, e'⟩ := (hq i).cl e; hc i k _ e') (λ i => by rw [(hq i).act]; exact hac i) ?_
  rcases hm' with x | x
  ·rw [x]; exact hm
  ·exact x
section
variable {P : Program} {B : Base} {cf cd : Nat} {bW : aA → ak → Goroutine → Prop} {D : Nat → Dt} {th : Nat → Option Th} {cA : Bool} {cls : Option Nat} {s1 s2 : Nat} {bN bY : Bool} {gs : Array Goroutine} {w : World} {sl : Option (Nat × Nat)} {t : Trace}
theorem PI.at (h : PI P B cf cd bW D th cA cls s1 s2 bN bY gs w t) (d : Nat) : PI P B cf cd bW D th cA cls s1 s2 bN bY gs (w.at d) t :=
 ⟨h.ne, h.mem.at d, h.tr, h.fT, h.out, h.ph, h.pos⟩
theorem PI.kM (h : PI P B cf cd bW D th cA cls s1 s2 bN bY gs w t) : w.heap[cf]? = some (.chan 0 #[] cA s1 s1 bN) := h.mem.oa _ _ (by simp)
theorem PI.hcd (h : PI P B cf cd bW D th cA cls s1 s2 bN bY gs w t) : w.heap[cd]? = some (.chan 0 #[] false s2 s2 bY) := h.mem.oa _ _ (by simp)
theorem PI.azz (h : PI P B cf cd bW D th cA cls s1 s2 bN bY gs w t) {j : Nat} {x : Goroutine} (hj : gs[j]? = some x) : cA = false ∨ ((∀ v, D j ≠ .w1 v none) ∧ ∀ rem, D j ≠ .mr rem none) := by
 have hs := h.fT j x hj
 cases h.ph with
 | kY => exact .inl rfl
 | iS => exact .inl rfl
 | closed h0 hp hc hac hm =>
  refine .inr ⟨λ v e => ?_, λ rem e => ?_⟩
  ·have := hac j; rw [e] at this; cases this
  ·rw [e] at hs
   have : j = 0 := hs.2
   subst this
   rw [h0] at e; cases e; exact hm rfl
theorem PI.again (h : PI P B cf cd bW D th cA cls s1 s2 bN bY gs w t) {jj : Nat → Option Th} {w' : World} (hm : eM B jj [(cf, .chan 0 #[] cA s1 s1 bN), (cd, .chan 0 #[] false s2 s2 bY)] w')
  {j : Nat} {x a a' : Goroutine} (hj : gs[j]? = some x) : woken P a a' w' x = x := by
 refine (h.fT j x hj).again (hm.oa _ _ (by simp)) ?_ (s1 := s1) (s2 := s2) (bN := bN) (bY := bY)
 rcases h.azz hj with e | e
 ·subst e; exact .inl (hm.oa _ _ (by simp))
 ·exact .inr e
theorem pq {gs : Array Goroutine} {i : Nat} {g : Goroutine} (h : gs[i]? = some g) : i < gs.size := (Array.getElem?_eq_some_iff.1 h).1
theorem PI.one (h : PI P B cf cd bW D th cA cls s1 s2 bN bY gs w t) {i : Nat} (hi : i < gs.size) {gs' : Array Goroutine} {g' : Goroutine} {w' : World} {t' : Trace} {jj : Nat → Option Th} {x : Dt} {gQ : Bool} {cls' : Option Nat} {s1' s2' : Nat}
  (hz : gs'.size = gs.size) (hg : gs'[i]? = some g') (ho : ∀ j, j ≠ i → gs'[j]? = gs[j]?)
  (hm : eM B jj [(cf, .chan 0 #[] gQ s1' s1' bN), (cd, .chan 0 #[] false s2' s2' bY)] w') (ht : dA jj [(cf, .chan 0 #[] gQ s1' s1' bN), (cd, .chan 0 #[] false s2' s2' bY)] cls' w'.heap.size t')
  (uC : ∀ j, j ≠ i → jj j = th j) (hs : kD P B cf cd bW i x (jj i) g') (wF : Ph cf gs.size (cm D i x) gQ cls') :
  PI P B cf cd bW (cm D i x) jj gQ cls' s1' s2' bN bY gs' w' t' := by
 refine ⟨h.ne, hm, ht, λ j y hj => ?_, λ j hj => ?_, hz ▸ wF, hz ▸ h.pos⟩
 ·by_cases hji : j = i
  ·subst hji
   rw [hg] at hj; cases hj
   rw [cC]; exact hs
  ·rw [ho j hji] at hj
   rw [bM hji, uC j hji]; exact h.fT j y hj
 ·have hji : j ≠ i := by omega
  rw [bM hji, uC j hji]; exact h.out j (by omega)
theorem PI.two (h : PI P B cf cd bW D th cA cls s1 s2 bN bY gs w t) {i j : Nat} (hi : i < gs.size) (hj : j < gs.size) (hij : j ≠ i) {gi gj : Goroutine} {w' : World} {t' : Trace} {jj : Nat → Option Th} {x y : Dt} {gQ : Bool} {cls' : Option Nat} {s1' s2' : Nat}
  (hm : eM B jj [(cf, .chan 0 #[] gQ s1' s1' bN), (cd, .chan 0 #[] false s2' s2' bY)] w') (ht : dA jj [(cf, .chan 0 #[] gQ s1' s1' bN), (cd, .chan 0 #[] false s2' s2' bY)] cls' w'.heap.size t')
  (uC : ∀ k, k ≠ i → k ≠ j → jj k = th k) (hsi : kD P B cf cd bW i x (jj i) gi) (hsj : kD P B cf cd bW j y (jj j) gj) (wF : Ph cf gs.size (cm (cm D j y) i x) gQ cls') :
  PI P B cf cd bW (cm (cm D j y) i x) jj gQ cls' s1' s2' bN bY ((gs.setIfInBounds j gj).setIfInBounds i gi) w' t' := by
 refine ⟨h.ne, hm, ht, λ k z hk => ?_, λ k hk => ?_, by simpa using wF, by simpa using h.pos⟩
 ·by_cases hki : k = i
  ·subst hki
   rw [Array.getElem?_setIfInBounds_self_of_lt (by simpa using hi)] at hk; cases hk
   rw [cC]; exact hsi
  ·rw [Array.getElem?_setIfInBounds_ne (Ne.symm hki)] at hk
   rw [bM hki]
   by_cases hkj : k = j
   ·subst hkj
    rw [Array.getElem?_setIfInBounds_self_of_lt hj] at hk; cases hk
    rw [cC]; exact hsj
   ·rw [Array.getElem?_setIfInBounds_ne (Ne.symm hkj)] at hk
    rw [bM hkj, uC k hki hkj]; exact h.fT k z hk
 ·have hk' : gs.size ≤ k := by simpa using hk
  rw [bM (by omega), bM (by omega), uC k (by omega) (by omega)]; exact h.out k hk'
theorem PI.own (h : PI P B cf cd bW D th cA cls s1 s2 bN bY gs w t) {i : Nat} {g g' : Goroutine} {R R' : aA} {H H' : ak} {w' : World} {es : Array Event} {T : Tree} (hi : gs[i]? = some g) (uC : th i = some ⟨R, H⟩)
  (hst : stepG P (i == 0) g w = .go g' w' es) (hes : ∀ e ∈ es, gq R H w.heap.size w'.heap.size e) (hu : di B R H w R' H' w') (hs : kD P B cf cd bW i ((D i).set (some T)) (some ⟨R', H'⟩) g') :
  ∃ gs' ops, runT P (crowd gs w sl) i = (.next (crowd gs' w' sl), ops) ∧ gs'.size = gs.size ∧ PI P B cf cd bW (cm D i ((D i).set (some T))) (fU th i (some ⟨R', H'⟩)) cA cls s1 s2 bN bY gs' w' (t ++ ops) := by
 obtain ⟨hm, ht⟩ := KN h.mem h.tr uC hes hu g.frame.fn g.frame.place
 have hlt := pq hi
 refine ⟨_, _, runT_crowd_go (sl := sl) hi hst, by simp, h.one hlt (by simp) (Array.getElem?_setIfInBounds_self_of_lt (by simpa using hlt)) (λ j hj => ?_) hm ht (λ j hj => ef hj) (by rw [gJ]; exact hs) (h.ph.q λ j => Q.upd (.inr (.inr ⟨T, rfl⟩)) j)⟩
 rw [Array.getElem?_setIfInBounds_ne (Ne.symm hj), Array.getElem?_map]
 cases ki : gs[j]? with
 | none => rfl
 | some x => rw [Option.map_some, h.again hm ki]
theorem PI.quit (h : PI P B cf cd bW D th cA cls s1 s2 bN bY gs w t) {i n : Nat} {g g' : Goroutine} (hi : gs[i]? = some g) (hd : D i = .lv (n + 1)) (hst : ∀ w, stepG P false g w = .go g' w #[]) (hq : QuitsIn P n g') :
  ∃ gs', runT P (crowd gs w sl) i = (.next (crowd gs' w sl), #[]) ∧ gs'.size = gs.size ∧ PI P B cf cd bW (cm D i (.lv n)) th cA cls s1 s2 bN bY gs' w t := by
 have hlt := pq hi
 have hs := h.fT i g hi
 rw [hd] at hs
 obtain ⟨hn, _, hpos⟩ := hs
 have jU : (i == 0) = false := by simp; omega
 have hrun := runT_crowd_go (P := P) (sl := sl) (w := w) hi (by rw [jU]; exact hst w)
 rw [ofEvents_none] at hrun
 refine ⟨_, hrun, by simp, h.one hlt (by simp) (Array.getElem?_setIfInBounds_self_of_lt (by simpa using hlt)) (λ j hj => ?_) h.mem h.tr (λ j hj => rfl) ⟨hn, hq, hpos⟩ (h.ph.q λ j => Q.upd (.inr (.inl ⟨_, _, hd, rfl⟩)) j)⟩
 rw [Array.getElem?_setIfInBounds_ne (Ne.symm hj), Array.getElem?_map]
 cases ki : gs[j]? with
 | none => rfl
 | some x => rw [Option.map_some, h.again h.mem ki]
theorem PI.part (h : PI P B cf cd bW D th cA cls s1 s2 bN bY gs w t) {i c j k : Nat} {send : Bool} (hp : (j, k) ∈ partners (gs.setIfInBounds i Go.Conc.ph) c send) :
  j ≠ i ∧ k = 0 ∧ ∃ x, gs[j]? = some x ∧ ((c = cf ∧ send = true ∧ ∃ v g0 z, D j = .w1 v none ∧ x = parked (core g0) #[scase cf v z] .send) ∨
  (c = cd ∧ send = true ∧ ∃ g0 z, D j = .w2 none ∧ x = parked (core g0) #[scase cd (.bool true) z] .send) ∨
  (c = cd ∧ send = false ∧ ∃ k g0 z, D j = .cl (k + 1) none ∧ x = parked (core g0) #[rcase cd z] (.recv false)) ∨
  (c = cf ∧ send = false ∧ ∃ rem g0 z, D j = .mr rem none ∧ x = parked (core g0) #[rcase cf z] (.recv true))) := by
 obtain ⟨x, hx, hk⟩ := mem_partners.1 hp
 rcases getElem?_stand gs i j x hx with ⟨_, rfl⟩ | ⟨hji, hx⟩
 ·rw [offersAt_ph] at hk; cases hk
 ·obtain ⟨h0, hh⟩ := (h.fT j x hx).offers h.ne hk
  exact ⟨hji, h0, x, hx, hh⟩
theorem TE {a b c s cap n : Nat} {f1 f2 : FuncId} {p1 p2 : String} (hc : c < n) :
  (∀ op ∈ (#[⟨a, f1, p1, .send c s⟩, ⟨b, f2, p2, .recv c s cap⟩, ⟨a, f1, p1, .sendDone c s⟩, ⟨b, f2, p2, .recvDone c s⟩] : Trace), op.act.touch? = none) ∧
  (∀ op ∈ (#[⟨a, f1, p1, .send c s⟩, ⟨b, f2, p2, .recv c s cap⟩, ⟨a, f1, p1, .sendDone c s⟩, ⟨b, f2, p2, .recvDone c s⟩] : Trace), op.act.low n) ∧
  Wordless (#[⟨a, f1, p1, .send c s⟩, ⟨b, f2, p2, .recv c s cap⟩, ⟨a, f1, p1, .sendDone c s⟩, ⟨b, f2, p2, .recvDone c s⟩] : Trace) := by
 refine ⟨λ op hop => ?_, λ op hop => ?_, λ op hop m hm => ?_⟩
 all_goals (simp only [List.mem_toArray, List.mem_cons, List.not_mem_nil, or_false] at hop)
 ·rcases hop with rfl | rfl | rfl | rfl <;> rfl
 ·rcases hop with rfl | rfl | rfl | rfl <;> exact hc
 ·rcases hop with rfl | rfl | rfl | rfl <;> cases hm
theorem eM.Ua {s1' : Nat} (hne : cf ≠ cd) (h : eM B th [(cf, .chan 0 #[] cA s1 s1 bN), (cd, .chan 0 #[] false s2 s2 bY)] w) (gQ : Bool) :
  eM B th [(cf, .chan 0 #[] gQ s1' s1' bN), (cd, .chan 0 #[] false s2 s2 bY)] { w with heap := w.heap.setIfInBounds cf (.chan 0 #[] gQ s1' s1' bN) } :=
 h.abR (c := cf) (o := .chan 0 #[] cA s1 s1 bN) (by simp) λ x y hxy => by
  simp only [List.mem_cons, List.not_mem_nil, or_false, Prod.mk.injEq] at hxy ⊢
  rcases hxy with ⟨rfl, rfl⟩ | ⟨rfl, rfl⟩
  ·exact .inl ⟨rfl, rfl⟩
  ·exact .inr ⟨Ne.symm hne, .inr ⟨rfl, rfl⟩⟩
theorem eM.aA4 {s2' : Nat} (hne : cf ≠ cd) (h : eM B th [(cf, .chan 0 #[] cA s1 s1 bN), (cd, .chan 0 #[] false s2 s2 bY)] w) :
  eM B th [(cf, .chan 0 #[] cA s1 s1 bN), (cd, .chan 0 #[] false s2' s2' bY)] { w with heap := w.heap.setIfInBounds cd (.chan 0 #[] false s2' s2' bY) } :=
 h.abR (c := cd) (o := .chan 0 #[] false s2 s2 bY) (by simp) λ x y hxy => by
  simp only [List.mem_cons, List.not_mem_nil, or_false, Prod.mk.injEq] at hxy ⊢
  rcases hxy with ⟨rfl, rfl⟩ | ⟨rfl, rfl⟩
  ·exact .inr ⟨hne, .inl ⟨rfl, rfl⟩⟩
  ·exact .inl ⟨rfl, rfl⟩
theorem dA.I8 {n s1' s2' : Nat} {gQ : Bool} (h : dA th [(cf, .chan 0 #[] cA s1 s1 bN), (cd, .chan 0 #[] false s2 s2 bY)] cls n t) : dA th [(cf, .chan 0 #[] gQ s1' s1' bN), (cd, .chan 0 #[] false s2' s2' bY)] cls n t :=
 h.Xt λ x y hxy => by
  simp only [List.mem_cons, List.not_mem_nil, or_false, Prod.mk.injEq] at hxy
  rcases hxy with ⟨rfl, rfl⟩ | ⟨rfl, rfl⟩
  ·exact ⟨_, by simp; exact .inl rfl⟩
  ·exact ⟨_, List.mem_cons_of_mem _ (List.mem_singleton.2 rfl)⟩
end
end Go.Lg
namespace Go.Lg
open Go.Conc
theorem u6 {a b : Goroutine} {cs cs' : Array CommCase} {sh sh' : CommShape} (h : parked a cs sh = parked b cs' sh') : cs = cs' ∧ sh = sh' ∧ ∀ v, Conc.served a v = Conc.served b v := by
 obtain ⟨f, c, s, d, o⟩ := a
 obtain ⟨f', c', s', d', o'⟩ := b
 simp only [parked, Goroutine.mk.injEq, Option.some.injEq, Prod.mk.injEq] at h
 obtain ⟨rfl, rfl, _, rfl, rfl, rfl⟩ := h
 exact ⟨rfl, rfl, λ _ => rfl⟩
section
variable {P : Program} {B : Base} {cf cd : Nat} {bW : aA → ak → Goroutine → Prop} {D : Nat → Dt} {th : Nat → Option Th} {cA : Bool} {cls : Option Nat} {s1 s2 : Nat} {bN bY : Bool} {gs : Array Goroutine} {w : World} {sl : Option (Nat × Nat)} {t : Trace}
def Nx (P : Program) (B : Base) (cf cd : Nat) (bW : aA → ak → Goroutine → Prop) (D : Nat → Dt) (bN bY : Bool) (gs : Array Goroutine) (w : World) (sl : Option (Nat × Nat)) (t : Trace) (i : Nat) : Prop :=
 ∃ gs' w' ops D' jj gQ cls' s1' s2', runT P (crowd gs w sl) i = (.next (crowd gs' w' sl), ops) ∧ tQ (mu D' gs'.size) (mu D gs.size) ∧ PI P B cf cd bW D' jj gQ cls' s1' s2' bN bY gs' w' (t ++ ops)
theorem PI.AG (h : PI P B cf cd bW D th cA cls s1 s2 bN bY gs w t) {i : Nat} (ha : 0 < (D i).act ∨ (∃ k m, D i = .cl k m) ∨ (∃ k sp m, D i = .ms k sp m) ∧ i = 0) : cA = false ∧ cls = none := by
 cases h.ph with
 | kY => exact ⟨rfl, rfl⟩
 | iS => exact ⟨rfl, rfl⟩
 | closed h0 hp hc hac hm =>
  rcases ha with ha | ⟨k, m, e⟩ | ⟨⟨k, sp, m, e⟩, rfl⟩
  ·rw [hac i] at ha; cases ha
  ·exact absurd e (hc i k m)
  ·rw [h0] at e; cases e
theorem PI.there (h : PI P B cf cd bW D th cA cls s1 s2 bN bY gs w t) {i : Nat} (hd : ∀ n, D i ≠ .lv n) : ∃ g, gs[i]? = some g := by
 rcases Nat.lt_or_ge i gs.size with hlt | hge
 ·exact ⟨_, Array.getElem?_eq_getElem hlt⟩
 ·exact absurd (h.out i hge).2 (hd 0)
theorem PI.aby (h : PI P B cf cd bW D th cA cls s1 s2 bN bY gs w t) {i : Nat} {rem : List Value} (hd : D i = .mr rem none) :
  i = 0 ∧ ∃ g0 z y, gs[0]? = some (parked (core g0) #[rcase cf z] (.recv true)) ∧ th 0 = some y ∧ IB P B cf bW rem.length rem y.R y.H (parked (core g0) #[rcase cf z] (.recv true)) := by
 obtain ⟨g, hg⟩ := h.there (i := i) (by rw [hd]; intro n e; cases e)
 have hs := h.fT i g hg
 have hl := hs.look
 rw [hd] at hs hl
 obtain ⟨⟨y, hy, ⟨T, e, _⟩ | ⟨_, hp⟩⟩, rfl⟩ := hs
 ·cases e
 rcases hl with ⟨_, T, e⟩ | e | ⟨v, g0, z, e, _⟩ | ⟨g0, z, e, _⟩ | ⟨k, g0, z, e, _⟩ | ⟨mR, g0, z, e, rfl⟩
 ·cases e
 ·exfalso
  have : g.status = .blocked := by
   generalize rem.length = k at hp
   cases k <;> (obtain ⟨g0, z, _, rfl⟩ := hp; rfl)
  rw [this] at e; cases e
 ·cases e
 ·cases e
 ·cases e
 ·exact ⟨rfl, g0, z, y, hg, hy, hp⟩
theorem PI.TV (h : PI P B cf cd bW D th cA cls s1 s2 bN bY gs w t) {i k : Nat} (hd : D i = .cl k none) :
  ∃ k', k = k' + 1 ∧ 0 < i ∧ ∃ g0 z y, gs[i]? = some (parked (core g0) #[rcase cd z] (.recv false)) ∧ th i = some y ∧ AtR P B false cd false (Mp P B (CK P B cf cd k')) Tt z y.R y.H g0 := by
 obtain ⟨g, hg⟩ := h.there (i := i) (by rw [hd]; intro n e; cases e)
 have hs := h.fT i g hg
 rw [hd] at hs
 obtain ⟨⟨y, hy, ⟨T, e, _⟩ | ⟨_, hp⟩⟩, hpos⟩ := hs
 ·cases e
 cases k with
 | zero => exact hp.elim
 | succ k => obtain ⟨g0, z, ha, rfl⟩ := hp; exact ⟨k, rfl, hpos, g0, z, y, hg, hy, ha⟩
theorem PI.abz (h : PI P B cf cd bW D th cA cls s1 s2 bN bY gs w t) {i : Nat} {v : Value} (hd : D i = .w1 v none) :
  0 < i ∧ ∃ g0 z y, gs[i]? = some (parked (core g0) #[scase cf v z] .send) ∧ th i = some y ∧ Bw P B false cf v (W2 P B cd) z y.R y.H g0 := by
 obtain ⟨g, hg⟩ := h.there (i := i) (by rw [hd]; intro n e; cases e)
 have hs := h.fT i g hg
 rw [hd] at hs
 obtain ⟨⟨y, hy, ⟨T, e, _⟩ | ⟨_, g0, z, ha, rfl⟩⟩, hpos⟩ := hs
 ·cases e
 exact ⟨hpos, g0, z, y, hg, hy, ha⟩
theorem PI.abA (h : PI P B cf cd bW D th cA cls s1 s2 bN bY gs w t) {i : Nat} (hd : D i = .w2 none) :
  0 < i ∧ ∃ g0 z y, gs[i]? = some (parked (core g0) #[scase cd (.bool true) z] .send) ∧ th i = some y ∧ Bw P B false cd (.bool true) (Lv P) z y.R y.H g0 := by
 obtain ⟨g, hg⟩ := h.there (i := i) (by rw [hd]; intro n e; cases e)
 have hs := h.fT i g hg
 rw [hd] at hs
 obtain ⟨⟨y, hy, ⟨T, e, _⟩ | ⟨_, g0, z, ha, rfl⟩⟩, hpos⟩ := hs
 ·cases e
 exact ⟨hpos, g0, z, y, hg, hy, ha⟩
theorem KC {i j c : Nat} {x : Goroutine} {send : Bool} (hj : gs[j]? = some x) (hji : j ≠ i) (hk : 0 ∈ offersAt x c send) : partners (gs.setIfInBounds i Go.Conc.ph) c send ≠ [] := by
 intro e
 have : (j, 0) ∈ partners (gs.setIfInBounds i Go.Conc.ph) c send := mem_partners.2 ⟨x, stand_get hji hj, hk⟩
 rw [e] at this; cases this
theorem ta {n i : Nat} {x : Dt} (hx : x.jF = (D i).jF) : vals (cm D i x) n = vals D n := AU λ j _ => by
 by_cases hj : j = i
 ·subst hj; rw [cC, hx]
 ·rw [bM hj]
theorem tS {n i : Nat} {x : Dt} (hx : x.act = (D i).act) : cH n (λ j => (cm D i x j).act) = cH n (λ j => (D j).act) := xY λ j _ => by
 by_cases hj : j = i
 ·subst hj; rw [cC, hx]
 ·rw [bM hj]
theorem PI.aa5 (h : PI P B cf cd bW D th cA cls s1 s2 bN bY gs w t) {j : Nat} {v : Value} {m mm : Ms} {rem : List Value} {y y0 : Th} (hj : D j = .w1 v m) (h0 : D 0 = .mr rem mm) (zV : th j = some y) (qA : th 0 = some y0) {g0 gj : Goroutine}
  (hn : W2 P B cd y.R y.H gj) (hg : ∀ k, rem.length = k + 1 → Iz P B rem (lg P B cf bW k) v y0.R y0.H g0) {u : Trace} (hu : (∀ op ∈ u, op.act.touch? = none) ∧ (∀ op ∈ u, op.act.low w.heap.size) ∧ Wordless u) (d : Nat) :
  ∃ x0 xj, x0.dB + xj.dB < (D 0).dB + (D j).dB ∧ j ≠ 0 ∧ j < gs.size ∧
   PI P B cf cd bW (cm (cm D j xj) 0 x0) th cA cls (s1 + 1) s2 bN bY ((gs.setIfInBounds j gj).setIfInBounds 0 g0) ((w.at d).setChan cf 0 #[] false (s1 + 1) (s1 + 1) bN) (t ++ u) ∧
   PI P B cf cd bW (cm (cm D 0 x0) j xj) th cA cls (s1 + 1) s2 bN bY ((gs.setIfInBounds 0 g0).setIfInBounds j gj) ((w.at d).setChan cf 0 #[] false (s1 + 1) (s1 + 1) bN) (t ++ u) := by
 obtain ⟨rfl, rfl⟩ := h.AG (i := j) (.inl (by rw [hj]; exact Nat.one_pos))
 obtain ⟨x, hx⟩ := h.there (i := j) (by rw [hj]; intro n e; cases e)
 have hlt := pq hx
 have hj0 : j ≠ 0 := by intro e; subst e; rw [h0] at hj; cases hj
 cases h.ph with
 | kY nw => rw [h0] at nw; cases nw
 | @iS mR m' ic kc mc nw hp hic hdc hun hk hw1 nD =>
  rw [h0] at nw; cases nw
  obtain ⟨T2, YW⟩ := hn
  have hv := acr (D := D) (D' := cm D j (.w2 (some T2))) (i := j) (v := v) (by rw [hj]; rfl) (by rw [cC]; rfl) (λ k hk => by rw [bM hk]) hlt
  have Zw := hp.symm.trans hv
  have hlen := Zw.length_eq
  simp only [List.length_cons] at hlen
  obtain ⟨T0, B8⟩ := hg _ hlen _ Zw
  have Zb : ic ≠ j := by intro e; subst e; rw [hj] at hdc; cases hdc
  have JQ : ic ≠ 0 := by intro e; subst e; rw [h0] at hdc; cases hdc
  refine ⟨.mr (vals (cm D j (.w2 (some T2))) gs.size) (some T0), .w2 (some T2), by rw [h0, hj]; simp only [Dt.dB]; omega, hj0, hlt, ?_, ?_⟩
  ·have hm := (h.mem.at d).Ua (s1' := s1 + 1) h.ne false
   refine h.two h.pos hlt hj0 hm (show dA _ _ _ _ (t ++ u) from ?_) (λ _ _ _ => rfl) ⟨⟨y0, qA, .inl ⟨T0, rfl, B8⟩⟩, rfl⟩ ⟨⟨y, zV, .inl ⟨T2, rfl, YW⟩⟩, by omega⟩ ?_
   ·have := (h.tr.mute hu.1 hu.2.1 hu.2.2).I8 (s1' := s1 + 1) (s2' := s2) (gQ := false)
    simpa [World.setChan, World.at] using this
   ·refine .iS (ic := ic) (kc := kc) (mc := mc) (cC _ _ _) ?_ hic (by rw [bM JQ, bM Zb]; exact hdc) (λ k k' m e => ?_) ?_ (λ e => by cases e) (λ e k e' => ?_)
    ·rw [ta (by rw [bM (Ne.symm hj0), h0]; rfl)]
    ·by_cases jV : k = 0
     ·subst jV; rw [cC] at e; cases e
     ·rw [bM jV] at e
      by_cases hkj : k = j
      ·subst hkj; rw [cC] at e; cases e
      ·rw [bM hkj] at e; exact hun k k' m e
    ·rw [tS (by rw [bM (Ne.symm hj0), h0]; rfl), tS (by rw [hj]; rfl)]; exact hk
    ·by_cases jV : k = 0
     ·subst jV; rw [cC] at e'; cases e'
     ·rw [bM jV] at e'
      by_cases hkj : k = j
      ·subst hkj; rw [cC] at e'; cases e'
      ·rw [bM hkj] at e'; exact nD e k e'
  ·have hm := (h.mem.at d).Ua (s1' := s1 + 1) h.ne false
   refine h.two hlt h.pos (Ne.symm hj0) hm (show dA _ _ _ _ (t ++ u) from ?_) (λ _ _ _ => rfl) ⟨⟨y, zV, .inl ⟨T2, rfl, YW⟩⟩, by omega⟩ ⟨⟨y0, qA, .inl ⟨T0, rfl, B8⟩⟩, rfl⟩ ?_
   ·have := (h.tr.mute hu.1 hu.2.1 hu.2.2).I8 (s1' := s1 + 1) (s2' := s2) (gQ := false)
    simpa [World.setChan, World.at] using this
   ·have ec : cm (cm D 0 (.mr (vals (cm D j (.w2 (some T2))) gs.size) (some T0))) j (.w2 (some T2)) = cm (cm D j (.w2 (some T2))) 0 (.mr (vals (cm D j (.w2 (some T2))) gs.size) (some T0)) := by
     funext k
     by_cases jV : k = 0
     ·subst jV; rw [bM (Ne.symm hj0), cC, cC]
     ·rw [bM jV (D := cm D j _)]
      by_cases hkj : k = j
      ·subst hkj; rw [cC, cC]
      ·rw [bM hkj, bM jV, bM hkj]
    rw [ec]
    refine .iS (ic := ic) (kc := kc) (mc := mc) (cC _ _ _) ?_ hic (by rw [bM JQ, bM Zb]; exact hdc) (λ k k' m e => ?_) ?_ (λ e => by cases e) (λ e k e' => ?_)
    ·rw [ta (by rw [bM (Ne.symm hj0), h0]; rfl)]
    ·by_cases jV : k = 0
     ·subst jV; rw [cC] at e; cases e
     ·rw [bM jV] at e
      by_cases hkj : k = j
      ·subst hkj; rw [cC] at e; cases e
      ·rw [bM hkj] at e; exact hun k k' m e
    ·rw [tS (by rw [bM (Ne.symm hj0), h0]; rfl), tS (by rw [hj]; rfl)]; exact hk
    ·by_cases jV : k = 0
     ·subst jV; rw [cC] at e'; cases e'
     ·rw [bM jV] at e'
      by_cases hkj : k = j
      ·subst hkj; rw [cC] at e'; cases e'
      ·rw [bM hkj] at e'; exact nD e k e'
theorem PI.aa6 (h : PI P B cf cd bW D th cA cls s1 s2 bN bY gs w t) {j ic k : Nat} {m mc : Ms} {y yc : Th} (hj : D j = .w2 m) (hc : D ic = .cl (k + 1) mc) (zV : th j = some y) (SP : th ic = some yc) {gc gj : Goroutine}
  (hn : Lv P y.R y.H gj) (hg : Own P B false (CK P B cf cd k) yc.R yc.H gc) {f1 f2 : FuncId} {p1 p2 : String} (d : Nat) :
  ∃ xc xj, xc.dB + xj.dB < (D ic).dB + (D j).dB ∧ j ≠ ic ∧ j < gs.size ∧ ic < gs.size ∧
   PI P B cf cd bW (cm (cm D j xj) ic xc) (fU th j none) cA cls s1 (s2 + 1) bN bY ((gs.setIfInBounds j gj).setIfInBounds ic gc) ((w.at d).setChan cd 0 #[] false (s2 + 1) (s2 + 1) bY) (t ++ #[⟨j, f1, p1, .send cd s2⟩, ⟨ic, f2, p2, .recv cd s2 0⟩, ⟨j, f1, p1, .sendDone cd s2⟩, ⟨ic, f2, p2, .recvDone cd s2⟩]) ∧
   PI P B cf cd bW (cm (cm D ic xc) j xj) (fU th j none) cA cls s1 (s2 + 1) bN bY ((gs.setIfInBounds ic gc).setIfInBounds j gj) ((w.at d).setChan cd 0 #[] false (s2 + 1) (s2 + 1) bY) (t ++ #[⟨j, f1, p1, .send cd s2⟩, ⟨ic, f2, p2, .recv cd s2 0⟩, ⟨j, f1, p1, .sendDone cd s2⟩, ⟨ic, f2, p2, .recvDone cd s2⟩]) := by
 obtain ⟨rfl, rfl⟩ := h.AG (i := j) (.inl (by rw [hj]; exact Nat.one_pos))
 obtain ⟨x, hx⟩ := h.there (i := j) (by rw [hj]; intro n e; cases e)
 obtain ⟨xc, hxc⟩ := h.there (i := ic) (by rw [hc]; intro n e; cases e)
 have hlt := pq hx
 have Fb := pq hxc
 have wA : j ≠ ic := by intro e; subst e; rw [hc] at hj; cases hj
 have hsj := h.fT j x hx
 rw [hj] at hsj
 have Zy := hsj.2
 have J3 := h.fT ic xc hxc
 rw [hc] at J3
 have Zx := J3.2
 cases h.ph with
 | kY nw hp gp hw => exact absurd hj (hw j m)
 | @iS rem m' ic' kc mc' h0 hp hic hdc hun hk hw1 nD =>
  obtain rfl := hun ic _ _ hc
  rw [hc] at hdc; cases hdc
  obtain ⟨n, hq⟩ := hn
  obtain ⟨T, hT⟩ := hg
  have hu := TE (a := j) (b := ic) (c := cd) (s := s2) (cap := 0) (n := w.heap.size) (f1 := f1) (f2 := f2) (p1 := p1) (p2 := p2) (gD h.hcd)
  have htr : dA (fU th j none) [(cf, .chan 0 #[] false s1 s1 bN), (cd, .chan 0 #[] false (s2 + 1) (s2 + 1) bY)] none w.heap.size (t ++ #[⟨j, f1, p1, .send cd s2⟩, ⟨ic, f2, p2, .recv cd s2 0⟩, ⟨j, f1, p1, .sendDone cd s2⟩, ⟨ic, f2, p2, .recvDone cd s2⟩]) := by
   refine (h.tr.azw (i := j) hu.1 hu.2.1 hu.2.2 λ q hq => ⟨ic, yc, Ne.symm wA, SP, ?_⟩).I8
   exact awr (c := cd) (s := s2) (h.tr.quiet.append hu.2.2) (p := t.size) (q := t.size + 3) (Nat.le_refl _) (by simp; rfl) rfl rfl (by simp; rfl) rfl rfl hq
  have hm := ((h.mem.at d).aA4 (s2' := s2 + 1) h.ne).drop (i := j)
  have wF : ∀ D', (∀ k', k' ≠ ic → k' ≠ j → D' k' = D k') → D' ic = .cl k (some T) → D' j = .lv n → Ph cf gs.size D' false none := by
   intro D' hD Js Jt
   have hv : vals D' gs.size = vals D gs.size := AU λ i _ => by
    by_cases h1 : i = ic
    ·subst h1; rw [Js, hc]; rfl
    ·by_cases h2 : i = j
     ·subst h2; rw [Jt, hj]; rfl
     ·rw [hD i h1 h2]
   have ha : cH gs.size (λ i => (D' i).act) + 1 = cH gs.size (λ i => (D i).act) := by
    have := xZ (f := λ i => (D i).act) (g := λ i => (D' i).act) hlt (λ i hi => by
     by_cases h1 : i = ic
     ·subst h1; simp only [Js, hc]; rfl
     ·simp only [hD i h1 hi])
    have e1 : (Dt.lv n).act = 0 := rfl
    have e2 : (Dt.w2 m).act = 1 := rfl
    simp only [Jt, hj, e1, e2] at this
    omega
   refine .iS (ic := ic) (kc := k) (mc := some T) (by rw [hD 0 (by omega) (by omega)]; exact h0) (hv ▸ hp) hic Js (λ i k' m e => ?_) (by omega) (λ e i v e' => ?_) (λ e => by cases e)
   ·by_cases h1 : i = ic
    ·exact h1
    ·by_cases h2 : i = j
     ·subst h2; rw [Jt] at e; cases e
     ·rw [hD i h1 h2] at e; exact hun i _ _ e
   ·by_cases h1 : i = ic
    ·subst h1; rw [Js] at e'; cases e'
    ·by_cases h2 : i = j
     ·subst h2; rw [Jt] at e'; cases e'
     ·rw [hD i h1 h2] at e'; exact hw1 e i v e'
  refine ⟨.cl k (some T), .lv n, by rw [hj, hc]; simp only [Dt.dB]; omega, wA, hlt, Fb, ?_, ?_⟩
  ·refine h.two Fb hlt wA hm (show dA _ _ _ _ _ from by simpa [World.setChan, World.at] using htr) (λ i h1 h2 => ef h2) ⟨⟨yc, by rw [ef (Ne.symm wA)]; exact SP, .inl ⟨T, rfl, hT⟩⟩, Zx⟩ ⟨gJ _ _ _, hq, Zy⟩ ?_
   exact wF _ (λ i h1 h2 => by rw [bM h1, bM h2]) (cC _ _ _) (by rw [bM wA, cC])
  ·refine h.two hlt Fb (Ne.symm wA) hm (show dA _ _ _ _ _ from by simpa [World.setChan, World.at] using htr) (λ i h1 h2 => ef h1) ⟨gJ _ _ _, hq, Zy⟩ ⟨⟨yc, by rw [ef (Ne.symm wA)]; exact SP, .inl ⟨T, rfl, hT⟩⟩, Zx⟩ ?_
   exact wF _ (λ i h1 h2 => by rw [bM h2, bM h1]) (by rw [bM (Ne.symm wA), cC]) (cC _ _ _)
end
end Go.Lg
namespace Go.Lg
open Go.Conc
theorem dA.azv {th : Nat → Option Th} {ch : ak} {n i c : Nat} {t : Trace} {y : MemOp} (h : dA th ch none n t) (hy : y.g = i) (mJ : y.act = .close c) (hc : c < n) : dA (fU th i none) ch (some c) n (t ++ #[y]) := by
 have hu : ∀ op ∈ #[y], op.act.touch? = none := λ op hop => by simp at hop; subst hop; rw [mJ]; rfl
 have hw : Wordless #[y] := λ op hop m hm => by simp at hop; subst hop; rw [mJ] at hm; cases hm
 have hm := h.mute hu (λ op hop => by simp at hop; subst hop; rw [mJ]; exact hc) hw
 have key : ∀ j z, fU th i none j = some z → th j = some z := λ j z hz => by
  by_cases hj : j = i
  ·subst hj; rw [gJ] at hz; cases hz
  ·rwa [ef hj] at hz
 refine ⟨λ j z hz => hm.own j z (key j z hz), λ j z hz => hm.read j z (key j z hz), λ c o hc j z hz => hm.de c o hc j z (key j z hz), hm.low, λ k a hka hm' => ?_, hm.clean, hm.quiet⟩
 rcases h.all k a (Hi hu hka) hm' with ⟨j, z, hz, hkn⟩ | ⟨c', p, h1, _⟩
 ·by_cases hj : j = i
  ·subst hj
   have e2 : (t ++ #[y])[t.size]? = some y := by simp
   exact .inr ⟨c, t.size, rfl, by rw [act?_of e2, mJ], .inr (hkn.hb_new (Nat.le_refl _) e2 hy)⟩
  ·exact .inl ⟨j, z, by rw [ef hj]; exact hz, hkn.app _⟩
 ·cases h1
theorem aBM {th : Nat → Option Th} {i : Nat} {x : Th} (h : th i = some x) : fU th i (some x) = th := by
 funext j
 by_cases hj : j = i
 ·subst hj; rw [gJ, h]
 ·rw [ef hj]
section
variable {P : Program} {B : Base} {cf cd : Nat} {bW : aA → ak → Goroutine → Prop} {D : Nat → Dt} {th : Nat → Option Th} {cA : Bool} {cls : Option Nat} {s1 s2 : Nat} {bN bY : Bool} {gs : Array Goroutine} {w : World} {sl : Option (Nat × Nat)} {t : Trace} {g : Goroutine} {y : Th}
theorem PI.aBx (h : PI P B cf cd bW D th cA cls s1 s2 bN bY gs w t) {i : Nat} {v : Value} {T : Tree} (hi : gs[i]? = some g) (hd : D i = .w1 v (some T)) (hpos : 0 < i) (hy : th i = some y) (hk : vM P B cf cd v y.R y.H g) : Nx P B cf cd bW D bN bY gs w sl t i := by
 obtain ⟨rfl, rfl⟩ := h.AG (i := i) (.inl (by rw [hd]; exact Nat.one_pos))
 obtain ⟨z, hrun, hst, hnext⟩ := hk
 have jU : (i == 0) = false := by simp; omega
 have mD : stepG P (i == 0) g w = .comm (core g) #[scase cf v z] true .send w #[] := by rw [jU]; exact hst w (h.mem.fits i y hy)
 have hlt := pq hi
 by_cases hp : partners (gs.setIfInBounds i Go.Conc.ph) cf false = []
 ·have hr := crowd_waits (sl := sl) hi mD (λ cc oe => by simp at oe; subst oe; exact ways_send_none h.kM (by simp) hp)
  rw [ofEvents_none] at hr
  refine ⟨_, _, _, cm D i (.w1 v none), th, false, none, s1, s2, hr, ?_, ?_⟩
  ·simpa using AE (x := .w1 v none) hlt (by rw [hd]; rfl) rfl .none (by rw [hd]; rfl)
  ·refine h.one hlt (by simp) (Array.getElem?_setIfInBounds_self_of_lt hlt) (λ j hj => Array.getElem?_setIfInBounds_ne (Ne.symm hj)) h.mem (by simpa using h.tr) (λ _ _ => rfl) ⟨⟨y, hy, .inr ⟨rfl, g, z, ⟨hrun, hst, hnext⟩, rfl⟩⟩, hpos⟩ ?_
   have ev : vals (cm D i (.w1 v none)) gs.size = vals D gs.size := ta (by rw [hd]; rfl)
   have ea : cH gs.size (λ j => (cm D i (.w1 v none) j).act) = cH gs.size (λ j => (D j).act) := tS (by rw [hd]; rfl)
   cases h.ph with
   | kY h0 gz gp hw =>
    refine .kY (by rw [bM (by omega)]; exact h0) (ev ▸ gz) (λ j k m e => ?_) (λ j m e => ?_)
    ·by_cases hj : j = i
     ·subst hj; rw [cC] at e; cases e
     ·rw [bM hj] at e; exact gp j k m e
    ·by_cases hj : j = i
     ·subst hj; rw [cC] at e; cases e
     ·rw [bM hj] at e; exact hw j m e
   | @iS rem m ic kc mc h0 gz hic hdc hun hkc hw1 nD =>
    refine .iS (ic := ic) (by rw [bM (by omega)]; exact h0) (ev ▸ gz) hic (by rw [bM (by intro e; subst e; rw [hd] at hdc; cases hdc)]; exact hdc) (λ j k m e => ?_) (by rw [ea]; exact hkc) (λ e => ?_) (λ e j e' => ?_)
    ·by_cases hj : j = i
     ·subst hj; rw [cC] at e; cases e
     ·rw [bM hj] at e; exact hun j k m e
    ·subst e
     obtain ⟨_, g0, z', y0, zc, _⟩ := h.aby h0
     exact absurd hp (KC zc (by omega) (by rw [offersAt_parked_recv]; simp))
    ·by_cases hj : j = i
     ·subst hj; rw [cC] at e'; cases e'
     ·rw [bM hj] at e'; exact nD e j e'
 ·obtain ⟨j, gj, zj, shj, d, hji, ki, hr⟩ := crowd_send_meets_some (sl := sl) hi mD h.kM hp (λ j k hjk => by
   obtain ⟨h1, h2, x, h3, h4⟩ := h.part hjk
   rcases h4 with ⟨_, h4, _⟩ | ⟨_, h4, _⟩ | ⟨h4, _⟩ | ⟨_, _, rem, g0, z0, _, rfl⟩
   ·cases h4
   ·cases h4
   ·exact absurd h4 h.ne
   ·exact ⟨h2, h1, _, _, _, h3⟩)
  obtain ⟨_, zm⟩ := (h.fT j _ ki).offers h.ne (c := cf) (send := false) (k := 0) (by rw [offersAt_parked_recv]; simp)
  rcases zm with ⟨_, h4, _⟩ | ⟨_, h4, _⟩ | ⟨h4, _⟩ | ⟨_, _, rem, g0, z0, ql, he⟩
  ·cases h4
  ·cases h4
  ·exact absurd h4 h.ne
  obtain ⟨_, hsh, Qi⟩ := u6 he
  subst hsh
  obtain ⟨rfl, v9, Mc, y0, qn, qA, hpk⟩ := h.aby ql
  rw [ki] at qn
  obtain ⟨_, _, zq⟩ := u6 (Option.some.inj qn)
  rw [finishComm_recv, finishComm_send, ofEvents_none, zq] at hr
  have PR := h.aa5 (j := i) (v := v) hd ql hy qA (gj := Conc.served (core g) undef) (g0 := Conc.served (core v9) (recvd true v true)) hnext (λ k hlen => by
   have : IB P B cf bW (k + 1) rem y0.R y0.H (parked (core v9) #[rcase cf Mc] (.recv true)) := hlen ▸ hpk
   obtain ⟨g1, z1, ha, e1⟩ := this
   obtain ⟨_, _, r8⟩ := u6 e1
   rw [r8]; exact ha.2.2.1 v) (TE (a := i) (b := 0) (s := s1) (cap := 0) (f1 := (core g).frame.fn) (f2 := gj.frame.fn) (p1 := (core g).frame.place) (p2 := gj.frame.place) (gD h.kM)) d
  obtain ⟨x0, xj, P9, _, _, _, hP⟩ := PR
  refine ⟨_, _, _, _, _, _, _, _, _, hr, ?_, by simpa using hP⟩
  simpa using G2 (x := xj) (y := x0) hlt h.pos hji (by omega)
theorem PI.aBy (h : PI P B cf cd bW D th cA cls s1 s2 bN bY gs w t) {i : Nat} {T : Tree} (hi : gs[i]? = some g) (hd : D i = .w2 (some T)) (hpos : 0 < i) (hy : th i = some y) (hk : vN P B cd y.R y.H g) : Nx P B cf cd bW D bN bY gs w sl t i := by
 obtain ⟨rfl, rfl⟩ := h.AG (i := i) (.inl (by rw [hd]; exact Nat.one_pos))
 obtain ⟨z, hrun, hst, hnext⟩ := hk
 have jU : (i == 0) = false := by simp; omega
 have mD : stepG P (i == 0) g w = .comm (core g) #[scase cd (.bool true) z] true .send w #[] := by rw [jU]; exact hst w (h.mem.fits i y hy)
 have hlt := pq hi
 by_cases hp : partners (gs.setIfInBounds i Go.Conc.ph) cd false = []
 ·have hr := crowd_waits (sl := sl) hi mD (λ cc oe => by simp at oe; subst oe; exact ways_send_none h.hcd (by simp) hp)
  rw [ofEvents_none] at hr
  refine ⟨_, _, _, cm D i (.w2 none), th, false, none, s1, s2, hr, ?_, ?_⟩
  ·simpa using AE (x := .w2 none) hlt (by rw [hd]; rfl) rfl .none (by rw [hd]; rfl)
  ·refine h.one hlt (by simp) (Array.getElem?_setIfInBounds_self_of_lt hlt) (λ j hj => Array.getElem?_setIfInBounds_ne (Ne.symm hj)) h.mem (by simpa using h.tr) (λ _ _ => rfl) ⟨⟨y, hy, .inr ⟨rfl, g, z, ⟨hrun, hst, hnext⟩, rfl⟩⟩, hpos⟩ ?_
   have ev : vals (cm D i (.w2 none)) gs.size = vals D gs.size := ta (by rw [hd]; rfl)
   have ea : cH gs.size (λ j => (cm D i (.w2 none) j).act) = cH gs.size (λ j => (D j).act) := tS (by rw [hd]; rfl)
   cases h.ph with
   | kY h0 gz gp hw => exact absurd hd (hw i _)
   | @iS rem m ic kc mc h0 gz hic hdc hun hkc hw1 nD =>
    refine .iS (ic := ic) (by rw [bM (by omega)]; exact h0) (ev ▸ gz) hic (by rw [bM (by intro e; subst e; rw [hd] at hdc; cases hdc)]; exact hdc) (λ j k m e => ?_) (by rw [ea]; exact hkc) (λ e j v e' => ?_) (λ e => ?_)
    ·by_cases hj : j = i
     ·subst hj; rw [cC] at e; cases e
     ·rw [bM hj] at e; exact hun j k m e
    ·by_cases hj : j = i
     ·subst hj; rw [cC] at e'; cases e'
     ·rw [bM hj] at e'; exact hw1 e j v e'
    ·subst e
     obtain ⟨_, _, _, g0, z', y0, zc, _⟩ := h.TV hdc
     exact absurd hp (KC zc (by intro e; subst e; rw [hd] at hdc; cases hdc) (by rw [offersAt_parked_recv]; simp))
 ·obtain ⟨j, gj, zj, shj, d, hji, ki, hr⟩ := crowd_send_meets_some (sl := sl) hi mD h.hcd hp (λ j k hjk => by
   obtain ⟨h1, h2, x, h3, h4⟩ := h.part hjk
   rcases h4 with ⟨_, h4, _⟩ | ⟨_, h4, _⟩ | ⟨_, _, rem, g0, z0, _, rfl⟩ | ⟨h4, _⟩
   ·cases h4
   ·cases h4
   ·exact ⟨h2, h1, _, _, _, h3⟩
   ·exact absurd h4.symm h.ne)
  obtain ⟨_, zm⟩ := (h.fT j _ ki).offers h.ne (c := cd) (send := false) (k := 0) (by rw [offersAt_parked_recv]; simp)
  rcases zm with ⟨_, h4, _⟩ | ⟨_, h4, _⟩ | ⟨_, _, k', g0, z0, ql, he⟩ | ⟨h4, _⟩
  ·cases h4
  ·cases h4
  rotate_left
  ·exact absurd h4.symm h.ne
  obtain ⟨_, hsh, Qi⟩ := u6 he
  subst hsh
  obtain ⟨k'', aLK, _, v9, Mc, y0, qn, qA, ha⟩ := h.TV ql
  obtain rfl : k' = k'' := by omega
  rw [ki] at qn
  obtain ⟨_, _, zq⟩ := u6 (Option.some.inj qn)
  rw [finishComm_recv, finishComm_send, ofEvents_none, zq] at hr
  obtain ⟨xc, xj, P9, _, _, Fb, _, hP⟩ := h.aa6 (j := i) hd ql hy qA (gj := Conc.served (core g) undef) (gc := Conc.served (core v9) (recvd false (.bool true) true)) hnext (ha.2.2.1 _) (f1 := (core g).frame.fn) (f2 := gj.frame.fn) (p1 := (core g).frame.place) (p2 := gj.frame.place) d
  refine ⟨_, _, _, _, _, _, _, _, _, hr, ?_, by simpa using hP⟩
  simpa using G2 (x := xj) (y := xc) hlt Fb hji (by omega)
theorem PI.aBs (h : PI P B cf cd bW D th cA cls s1 s2 bN bY gs w t) {i k : Nat} {T : Tree} (hi : gs[i]? = some g) (hd : D i = .cl (k + 1) (some T)) (hpos : 0 < i) (hy : th i = some y) (hk : CK P B cf cd (k + 1) y.R y.H g) : Nx P B cf cd bW D bN bY gs w sl t i := by
 obtain ⟨rfl, rfl⟩ := h.AG (i := i) (.inr (.inl ⟨_, _, hd⟩))
 obtain ⟨z, hrun, hst, Za, zf⟩ := hk
 have jU : (i == 0) = false := by simp; omega
 have mD : stepG P (i == 0) g w = .comm (core g) #[rcase cd z] true (.recv false) w #[] := by rw [jU]; exact hst w (h.mem.fits i y hy)
 have hlt := pq hi
 by_cases hp : partners (gs.setIfInBounds i Go.Conc.ph) cd true = []
 ·have hr := crowd_waits (sl := sl) hi mD (λ cc oe => by simp at oe; subst oe; exact ways_recv_none h.hcd hp)
  rw [ofEvents_none] at hr
  refine ⟨_, _, _, cm D i (.cl (k + 1) none), th, false, none, s1, s2, hr, ?_, ?_⟩
  ·simpa using AE (x := .cl (k + 1) none) hlt (by rw [hd]; rfl) rfl .none (by rw [hd]; rfl)
  ·refine h.one hlt (by simp) (Array.getElem?_setIfInBounds_self_of_lt hlt) (λ j hj => Array.getElem?_setIfInBounds_ne (Ne.symm hj)) h.mem (by simpa using h.tr) (λ _ _ => rfl) ⟨⟨y, hy, .inr ⟨rfl, g, z, ⟨hrun, hst, Za, zf⟩, rfl⟩⟩, hpos⟩ ?_
   have ev : vals (cm D i (.cl (k + 1) none)) gs.size = vals D gs.size := ta (by rw [hd]; rfl)
   have ea : cH gs.size (λ j => (cm D i (.cl (k + 1) none) j).act) = cH gs.size (λ j => (D j).act) := tS (by rw [hd]; rfl)
   cases h.ph with
   | kY h0 gz gp hw => exact absurd hd (gp i _ _)
   | @iS rem m ic kc mc h0 gz hic hdc hun hkc hw1 nD =>
    obtain rfl := hun i _ _ hd
    rw [hd] at hdc; cases hdc
    refine .iS (ic := i) (by rw [bM (by omega)]; exact h0) (ev ▸ gz) hic (cC _ _ _) (λ j k' m e => ?_) (by rw [ea]; exact hkc) (λ e j v e' => ?_) (λ e j e' => ?_)
    ·by_cases hj : j = i
     ·exact hj
     ·rw [bM hj] at e; exact hun j k' m e
    ·by_cases hj : j = i
     ·subst hj; rw [cC] at e'; cases e'
     ·rw [bM hj] at e'; exact hw1 e j v e'
    ·by_cases hj : j = i
     ·subst hj; rw [cC] at e'; cases e'
     ·rw [bM hj] at e'
      obtain ⟨_, g0, z', y0, zc, _⟩ := h.abA e'
      exact absurd hp (KC zc hj (by rw [offersAt_parked_send]; simp))
 ·obtain ⟨j, gj, vj, zj, shj, d, hji, ki, hr⟩ := crowd_recv_meets_some (sl := sl) hi mD h.hcd hp (λ j k hjk => by
   obtain ⟨h1, h2, x, h3, h4⟩ := h.part hjk
   rcases h4 with ⟨h4, _⟩ | ⟨_, _, g0, z0, _, rfl⟩ | ⟨_, h4, _⟩ | ⟨h4, _⟩
   ·exact absurd h4.symm h.ne
   ·exact ⟨h2, h1, _, _, _, _, h3⟩
   ·cases h4
   ·exact absurd h4.symm h.ne)
  obtain ⟨_, zm⟩ := (h.fT j _ ki).offers h.ne (c := cd) (send := true) (k := 0) (by rw [offersAt_parked_send]; simp)
  rcases zm with ⟨h4, _⟩ | ⟨_, _, g0, z0, ql, he⟩ | ⟨_, h4, _⟩ | ⟨h4, _⟩
  ·exact absurd h4.symm h.ne
  rotate_left
  ·cases h4
  ·exact absurd h4.symm h.ne
  obtain ⟨_, hsh, Qi⟩ := u6 he
  subst hsh
  obtain ⟨_, v9, Mc, yj, qn, zV, ha⟩ := h.abA ql
  rw [ki] at qn
  obtain ⟨_, _, zq⟩ := u6 (Option.some.inj qn)
  rw [finishComm_recv, finishComm_send, ofEvents_none, zq] at hr
  obtain ⟨xc, xj, P9, _, PO, _, hP, _⟩ := h.aa6 (j := j) ql hd zV hy (gj := Conc.served (core v9) undef) (gc := Conc.served (core g) (recvd false vj true)) ha.2.2 (Za _) (f1 := gj.frame.fn) (f2 := (core g).frame.fn) (p1 := gj.frame.place) (p2 := (core g).frame.place) d
  refine ⟨_, _, _, _, _, _, _, _, _, hr, ?_, by simpa using hP⟩
  simpa using G2 (x := xc) (y := xj) hlt PO hji (by omega)
theorem PI.aBt (h : PI P B cf cd bW D th cA cls s1 s2 bN bY gs w t) {i : Nat} {T : Tree} (hi : gs[i]? = some g) (hd : D i = .cl 0 (some T)) (hpos : 0 < i) (hy : th i = some y) (hk : CK P B cf cd 0 y.R y.H g) : Nx P B cf cd bW D bN bY gs w sl t i := by
 obtain ⟨rfl, rfl⟩ := h.AG (i := i) (.inr (.inl ⟨_, _, hd⟩))
 obtain ⟨hrun, hmw, g', n, hst, hq⟩ := hk
 have jU : (i == 0) = false := by simp; omega
 have hlt := pq hi
 have mD := hst w s1 s1 bN (h.mem.fits i y hy) h.kM
 have hr := runT_crowd_go (P := P) (sl := sl) hi (by rw [jU]; exact mD)
 cases h.ph with
 | kY h0 gz gp hw => exact absurd hd (gp i _ _)
 | @iS rem m ic kc mc h0 gz hic hdc hun hkc hw1 nD =>
  obtain rfl := hun i _ _ hd
  rw [hd] at hdc; cases hdc
  have hz := Wh hkc.symm
  have hac : ∀ j, (D j).act = 0 := λ j => by
   rcases Nat.lt_or_ge j gs.size with hj | hj
   ·exact hz j hj
   ·rw [(h.out j hj).2]; rfl
  obtain ⟨x0, qv⟩ := h.there (i := 0) (by rw [h0]; intro n e; cases e)
  have hs0 := h.fT 0 x0 qv
  rw [h0] at hs0
  have hlen : rem.length = 0 := by
   have h1 := gz.length_eq
   have h2 := Us (D := D) (n := gs.size)
   omega
  have hc0 : (w.shut cf s1 s1 bN).heap[cf]? = some (.chan 0 #[] true s1 s1 bN) := by
   have := gD h.kM
   simp [World.shut, this]
  obtain ⟨T0, aoY⟩ : ∃ T0, kD P B cf cd bW 0 (.mr rem (some T0)) (th 0) (woken P g g' (w.shut cf s1 s1 bN) x0) := by
   obtain ⟨⟨y0, qA, ⟨T0, rfl, h1⟩ | ⟨rfl, h1⟩⟩, _⟩ := hs0
   ·refine ⟨T0, ⟨y0, qA, .inl ⟨T0, rfl, ?_⟩⟩, rfl⟩
    unfold woken
    split
    ·rw [again_running _ (.inl (h1.pL λ _ _ _ => lg.run))]; exact h1
    ·exact h1
   ·refine ⟨.node Empty Empty.elim, ⟨y0, qA, .inl ⟨_, rfl, .inl ?_⟩⟩, rfl⟩
    rw [hlen] at h1 ⊢
    obtain ⟨g0, z, ha, rfl⟩ := h1
    have hg' : g'.status = .running ∨ g'.status = .finished := hq.status
    have hw : woken P g g' (w.shut cf s1 s1 bN) (parked (core g0) #[rcase cf z] (.recv true)) = { parked (core g0) #[rcase cf z] (.recv true) with status := .running } := by
     unfold woken
     rw [if_pos]
     ·exact again_parked_shut rfl hc0
     ·rcases hg' with e | e <;> simp [hmw, e]
    rw [hw]
    have ajn : ∀ v, Conc.served (core { parked (core g0) #[rcase cf z] (.recv true) with status := .running }) v = Conc.served (core g0) v := λ v => rfl
    refine ⟨z, rfl, λ w hw => ?_, λ v => ?_, ?_⟩
    ·exact (stepG_same rfl rfl rfl w).trans (ha.2.1 w hw)
    ·exact trivial
    ·rw [ajn]; exact ha.2.2.2
  have ajj : (gs.map (woken P g g' (w.shut cf s1 s1 bN))).setIfInBounds i g' = (gs.setIfInBounds 0 (woken P g g' (w.shut cf s1 s1 bN) x0)).setIfInBounds i g' := by
   apply Array.ext_getElem?
   intro k
   by_cases hki : k = i
   ·subst hki
    rw [Array.getElem?_setIfInBounds_self_of_lt (by simpa using hlt), Array.getElem?_setIfInBounds_self_of_lt (by simpa using hlt)]
   ·rw [Array.getElem?_setIfInBounds_ne (Ne.symm hki), Array.getElem?_setIfInBounds_ne (Ne.symm hki), Array.getElem?_map]
    by_cases jV : k = 0
    ·subst jV
     rw [Array.getElem?_setIfInBounds_self_of_lt h.pos, qv]; rfl
    ·rw [Array.getElem?_setIfInBounds_ne (Ne.symm jV)]
     cases Y9 : gs[k]? with
     | none => rfl
     | some x =>
      rw [Option.map_some]
      congr 1
      have hcd : (w.shut cf s1 s1 bN).heap[cd]? = some (.chan 0 #[] false s2 s2 bY) := by
       rw [← h.hcd]
       exact Array.getElem?_setIfInBounds_ne h.ne
      refine (h.fT k x Y9).again hcd (.inr ⟨λ v e => ?_, λ rem e => ?_⟩) (s1 := s1) (bN := bN)
      ·have := hac k; rw [e] at this; cases this
      ·have ZE := h.fT k x Y9
       rw [e] at ZE
       exact jV ZE.2
  rw [ajj] at hr
  refine ⟨_, _, _, cm (cm D 0 (.mr rem (some T0))) i (.lv n), fU th i none, true, some cf, s1, s2, hr, ?_, ?_⟩
  ·simpa using G2 (x := .lv n) (y := .mr rem (some T0)) hlt h.pos (by omega) (by rw [hd, h0]; simp only [Dt.dB]; omega)
  ·have hm := (h.mem.Ua (s1' := s1) h.ne true).drop (i := i)
   have Zf : cf < w.heap.size := gD h.kM
   have ht1 := dA.app (u := #[(⟨i, g.frame.fn, g.frame.place, .access ⟨.obj cf, false, true⟩⟩ : MemOp)]) h.mem rfl h.tr hy (R' := y.R) (H' := y.H) (n' := w.heap.size) (by simp)
    (λ op hop a ha => by
     simp at hop; subst hop
     simp [MemAct.touch?] at ha; subst ha
     exact ⟨cf, rfl, .inr (.inr (.inr ⟨rfl, _, List.mem_cons_self⟩))⟩)
    (λ op hop => by simp at hop; subst hop; exact Zf) (λ op hop m hm => by simp at hop; subst hop; cases hm) (Nat.le_refl _) (λ b o x => .inl x) (λ b o x => .inl ⟨o, x⟩)
   rw [aBM hy] at ht1
   have ht2 := (ht1.azv (y := ⟨i, g.frame.fn, g.frame.place, .close cf⟩) rfl rfl Zf).I8 (s1' := s1) (s2' := s2) (gQ := true)
   have an3 : t ++ MemOp.ofEvents i g.frame.fn g.frame.place #[⟨.obj cf, false, true⟩, ⟨.obj cf, true, true⟩] = (t ++ #[(⟨i, g.frame.fn, g.frame.place, .access ⟨.obj cf, false, true⟩⟩ : MemOp)]) ++ #[⟨i, g.frame.fn, g.frame.place, .close cf⟩] := by
    rw [ofEvents_eq, Array.append_assoc]; congr 1; simp [MemAct.ofEvent]
   rw [an3]
   refine h.two hlt h.pos (by omega) hm (by simpa [World.shut] using ht2) (λ k h1 h2 => ef h1) ⟨gJ _ _ _, hq, hpos⟩ (by rw [ef (by omega)]; exact aoY) ?_
   have Fl : rem = [] := List.length_eq_zero_iff.1 hlen
   refine .closed (rem := rem) (m := some T0) (by rw [bM (by omega), cC]) ?_ (λ j k m e => ?_) (λ j => ?_) (by simp)
   ·rw [ta (by rw [bM (by omega), hd]; rfl), ta (by rw [h0]; rfl)]; exact gz
   ·by_cases hj : j = i
    ·subst hj; rw [cC] at e; cases e
    ·rw [bM hj] at e
     by_cases hj0 : j = 0
     ·subst hj0; rw [cC] at e; cases e
     ·rw [bM hj0] at e; exact hj (hun j k m e)
   ·by_cases hj : j = i
    ·subst hj; rw [cC]; rfl
    ·rw [bM hj]
     by_cases hj0 : j = 0
     ·subst hj0; rw [cC]; rfl
     ·rw [bM hj0]; exact hac j
end
end Go.Lg
namespace Go.Lg
open Go.Conc
section
variable {P : Program} {B : Base} {cf cd : Nat} {bW : aA → ak → Goroutine → Prop} {D : Nat → Dt} {th : Nat → Option Th} {cA : Bool} {cls : Option Nat} {s1 s2 : Nat} {bN bY : Bool} {gs : Array Goroutine} {w : World} {sl : Option (Nat × Nat)} {t : Trace} {g : Goroutine} {y : Th}
theorem PI.add (h : PI P B cf cd bW D th cA cls s1 s2 bN bY gs w t) {g' child : Goroutine} {x z : Dt} {f1 f2 : FuncId} {p1 p2 : String} (hy : th 0 = some y) (hsx : kD P B cf cd bW 0 x (some y) g') (hsz : kD P B cf cd bW gs.size z (some ⟨y.R, []⟩) child)
  (wF : Ph cf (gs.size + 1) (cm (cm D gs.size z) 0 x) cA cls) :
  PI P B cf cd bW (cm (cm D gs.size z) 0 x) (fU th gs.size (some ⟨y.R, []⟩)) cA cls s1 s2 bN bY ((gs.setIfInBounds 0 g').push child) w (t ++ #[⟨0, f1, p1, .go gs.size⟩, ⟨gs.size, f2, p2, .start⟩]) := by
 have hn := h.out gs.size (Nat.le_refl _)
 have Yv : (0 : Nat) ≠ gs.size := by have := h.pos; omega
 have hu : ∀ op ∈ (#[⟨0, f1, p1, .go gs.size⟩, ⟨gs.size, f2, p2, .start⟩] : Trace), op.act.touch? = none := λ op hop => by
  simp only [List.mem_toArray, List.mem_cons, List.not_mem_nil, or_false] at hop
  rcases hop with rfl | rfl <;> rfl
 have hl : ∀ op ∈ (#[⟨0, f1, p1, .go gs.size⟩, ⟨gs.size, f2, p2, .start⟩] : Trace), op.act.low w.heap.size := λ op hop => by
  simp only [List.mem_toArray, List.mem_cons, List.not_mem_nil, or_false] at hop
  rcases hop with rfl | rfl <;> trivial
 have hw : Wordless (#[⟨0, f1, p1, .go gs.size⟩, ⟨gs.size, f2, p2, .start⟩] : Trace) := λ op hop m hm => by
  simp only [List.mem_toArray, List.mem_cons, List.not_mem_nil, or_false] at hop
  rcases hop with rfl | rfl <;> cases hm
 refine ⟨h.ne, h.mem.add hy (λ _ _ e => e), h.tr.azu hu hl hw hy (λ _ _ e => e) hn.1 (λ k hk => aws (h.tr.quiet.append hw) rfl rfl rfl rfl hk), λ j v hj => ?_, λ j hj => ?_, by simpa using wF, by simp⟩
 ·rw [Array.getElem?_push] at hj
  split at hj
  ·rename_i e
   have e : j = gs.size := by simpa using e
   cases hj; subst e
   rw [bM (Ne.symm Yv), cC, gJ]; exact hsz
  ·rename_i e
   have e : j ≠ gs.size := by simpa using e
   by_cases hj0 : j = 0
   ·subst hj0
    rw [Array.getElem?_setIfInBounds_self_of_lt h.pos] at hj; cases hj
    rw [cC, ef Yv, hy]; exact hsx
   ·rw [Array.getElem?_setIfInBounds_ne (Ne.symm hj0)] at hj
    rw [bM hj0, bM e, ef e]; exact h.fT j v hj
 ·have hj' : gs.size + 1 ≤ j := by simpa using hj
  rw [bM (by omega), bM (by omega), ef (by omega)]; exact h.out j (by omega)
theorem PI.aBw (h : PI P B cf cd bW D th cA cls s1 s2 bN bY gs w t) {k : Nat} {sp : List Value} {T : Tree} (hi : gs[0]? = some g) (hd : D 0 = .ms k sp (some T)) (hy : th 0 = some y) (hk : oW P B cf cd bW k sp y.R y.H g) : Nx P B cf cd bW D bN bY gs w sl t 0 := by
 obtain ⟨rfl, rfl⟩ := h.AG (i := 0) (.inr (.inr ⟨⟨_, _, _, hd⟩, rfl⟩))
 have hpos := h.pos
 cases h.ph with
 | iS h0 => rw [hd] at h0; cases h0
 | kY h0 gz gp hw =>
  rw [hd] at h0; cases h0
  cases k with
  | succ k =>
   obtain ⟨hrun, hst⟩ := hk
   obtain ⟨g', child, v, hsp, ⟨T1, OT⟩, T0, B8⟩ := hst w (h.mem.fits 0 y hy)
   have hr := runT_crowd_spawn (sl := sl) hi (show stepG P (0 == 0) g w = _ from hsp)
   rw [ofEvents_none] at hr
   refine ⟨_, _, _, _, _, false, none, s1, s2, hr, ?_, h.add (x := .ms k (v :: sp) (some T0)) (z := .w1 v (some T1)) hy ⟨⟨y, rfl, .inl ⟨T0, rfl, B8⟩⟩, rfl⟩ ⟨⟨_, rfl, .inl ⟨T1, rfl, OT⟩⟩, hpos⟩ ?_⟩
   ·simpa using aba (x := .ms k (v :: sp) (some T0)) (y := .w1 v (some T1)) hpos (by rw [hd]; simp only [Dt.dB, List.length_cons]; omega)
   ·refine .kY (cC _ _ _) ?_ (λ j k' m e => ?_) (λ j m e => ?_)
    ·rw [ta (by rw [bM (by omega), hd]; rfl), qY, cC, AU (D := D) (λ j hj => by rw [bM (by omega)])]
     exact List.Perm.cons v gz
    ·by_cases hj0 : j = 0
     ·subst hj0; rw [cC] at e; cases e
     ·rw [bM hj0] at e
      by_cases hjn : j = gs.size
      ·subst hjn; rw [cC] at e; cases e
      ·rw [bM hjn] at e; exact gp j k' m e
    ·by_cases hj0 : j = 0
     ·subst hj0; rw [cC] at e; cases e
     ·rw [bM hj0] at e
      by_cases hjn : j = gs.size
      ·subst hjn; rw [cC] at e; cases e
      ·rw [bM hjn] at e; exact hw j m e
  | zero =>
   obtain ⟨hrun, hst⟩ := hk
   obtain ⟨g', child, hsp, ⟨T1, OT⟩, T0, B8⟩ := hst w (h.mem.fits 0 y hy)
   have hr := runT_crowd_spawn (sl := sl) hi (show stepG P (0 == 0) g w = _ from hsp)
   rw [ofEvents_none] at hr
   refine ⟨_, _, _, _, _, false, none, s1, s2, hr, ?_, h.add (x := .mr sp (some T0)) (z := .cl sp.length (some T1)) hy ⟨⟨y, rfl, .inl ⟨T0, rfl, B8⟩⟩, rfl⟩ ⟨⟨_, rfl, .inl ⟨T1, rfl, OT⟩⟩, hpos⟩ ?_⟩
   ·simpa using aba (x := .mr sp (some T0)) (y := .cl sp.length (some T1)) hpos (by rw [hd]; simp only [Dt.dB]; omega)
   ·have ev : vals (cm (cm D gs.size (.cl sp.length (some T1))) 0 (.mr sp (some T0))) (gs.size + 1) = vals D gs.size := by
     rw [ta (by rw [bM (by omega), hd]; rfl), qY, cC, AU (D := D) (λ j hj => by rw [bM (by omega)])]
     rfl
    refine .iS (ic := gs.size) (kc := sp.length) (mc := some T1) (cC _ _ _) (by rw [ev]; exact gz) (by omega) (by rw [bM (by omega), cC]) (λ j k' m e => ?_) ?_ (λ e => by cases e) (λ e => by cases e)
    ·by_cases hj0 : j = 0
     ·subst hj0; rw [cC] at e; cases e
     ·rw [bM hj0] at e
      by_cases hjn : j = gs.size
      ·exact hjn
      ·rw [bM hjn] at e; exact absurd e (gp j k' m)
    ·rw [tS (by rw [bM (by omega), hd]; rfl)]
     have e1 := acp (D := D) (n := gs.size) (λ i m _ => hw i m)
     have e2 := gz.length_eq
     have e3 : cH gs.size (λ j => (cm D gs.size (.cl sp.length (some T1)) j).act) = cH gs.size (λ j => (D j).act) := xY λ j hj => by rw [bM (by omega)]
     have e4 : (cm D gs.size (.cl sp.length (some T1)) gs.size).act = 0 := by rw [cC]; rfl
     simp only [cH, e3, e4]
     omega
theorem azG (h : PI P B cf cd bW D th cA cls s1 s2 bN bY gs w t) {i : Nat} (hz : ∀ j, (D j).act = 0) : partners (gs.setIfInBounds i Go.Conc.ph) cf true = [] := by
 apply List.eq_nil_iff_forall_not_mem.2
 rintro ⟨j, k⟩ hm
 obtain ⟨_, _, x, _, h4⟩ := h.part hm
 rcases h4 with ⟨_, _, v, g0, z, e, _⟩ | ⟨h4, _⟩ | ⟨_, h4, _⟩ | ⟨_, h4, _⟩
 ·have := hz j; rw [e] at this; cases this
 ·exact h.ne h4
 ·cases h4
 ·cases h4
theorem PI.aBv (h : PI P B cf cd bW D th false none s1 s2 bN bY gs w t) {rem : List Value} {T : Tree} (hi : gs[0]? = some g) (hd : D 0 = .mr rem (some T)) (hy : th 0 = some y) (hk : lg P B cf bW rem.length rem y.R y.H g) : Nx P B cf cd bW D bN bY gs w sl t 0 := by
 have hpos := h.pos
 obtain ⟨z, tI, Nil, hk', hpk⟩ : ∃ z tI Nil, AtR P B true cf true tI Nil z y.R y.H g ∧ ((∀ k, rem.length = k + 1 → ∀ v, Iz P B rem (lg P B cf bW k) v y.R y.H (Conc.served (core g) (recvd true v true))) ∧ IB P B cf bW rem.length rem y.R y.H (parked (core g) #[rcase cf z] (.recv true))) := by
  generalize rem.length = n at hk
  cases n with
  | zero => obtain ⟨z, hk⟩ := hk; exact ⟨z, _, _, hk, λ k e => (by cases e), g, z, hk, rfl⟩
  | succ n => obtain ⟨z, hk⟩ := hk; exact ⟨z, _, _, hk, λ k e v => (by cases e; exact hk.2.2.1 v), g, z, hk, rfl⟩
 have hst : stepG P (0 == 0) g w = .comm (core g) #[rcase cf z] true (.recv true) w #[] := hk'.2.1 w (h.mem.fits 0 y hy)
 by_cases hp : partners (gs.setIfInBounds 0 Go.Conc.ph) cf true = []
 ·have hr := crowd_waits (sl := sl) hi hst (λ cc oe => by simp at oe; subst oe; exact ways_recv_none h.kM hp)
  rw [ofEvents_none] at hr
  refine ⟨_, _, _, cm D 0 (.mr rem none), th, false, none, s1, s2, hr, ?_, ?_⟩
  ·simpa using AE (x := .mr rem none) hpos (by rw [hd]; rfl) rfl .none (by rw [hd]; rfl)
  ·refine h.one hpos (by simp) (Array.getElem?_setIfInBounds_self_of_lt hpos) (λ j hj => Array.getElem?_setIfInBounds_ne (Ne.symm hj)) h.mem (by simpa using h.tr) (λ _ _ => rfl) ⟨⟨y, hy, .inr ⟨rfl, hpk.2⟩⟩, rfl⟩ ?_
   have ev : vals (cm D 0 (.mr rem none)) gs.size = vals D gs.size := ta (by rw [hd]; rfl)
   have ea : cH gs.size (λ j => (cm D 0 (.mr rem none) j).act) = cH gs.size (λ j => (D j).act) := tS (by rw [hd]; rfl)
   cases h.ph with
   | kY h0 gz gp hw => rw [hd] at h0; cases h0
   | @iS mR m ic kc mc h0 gz hic hdc hun hkc hw1 nD =>
    rw [hd] at h0; cases h0
    have JQ : ic ≠ 0 := by intro e; subst e; rw [hd] at hdc; cases hdc
    refine .iS (ic := ic) (cC _ _ _) (ev ▸ gz) hic (by rw [bM JQ]; exact hdc) (λ j k' m e => ?_) (by rw [ea]; exact hkc) (λ e j v e' => ?_) (λ e j e' => ?_)
    ·by_cases hj : j = 0
     ·subst hj; rw [cC] at e; cases e
     ·rw [bM hj] at e; exact hun j k' m e
    ·by_cases hj : j = 0
     ·subst hj; rw [cC] at e'; cases e'
     ·rw [bM hj] at e'
      obtain ⟨_, g0, z', y0, zc, _⟩ := h.abz e'
      exact absurd hp (KC zc hj (by rw [offersAt_parked_send]; simp))
    ·by_cases hj : j = 0
     ·subst hj; rw [cC] at e'; cases e'
     ·rw [bM hj] at e'; exact nD e j e'
 ·obtain ⟨j, gj, vj, zj, shj, d, hji, ki, hr⟩ := crowd_recv_meets_some (sl := sl) hi hst h.kM hp (λ j k hjk => by
   obtain ⟨h1, h2, x, h3, h4⟩ := h.part hjk
   rcases h4 with ⟨_, _, v, g0, z0, _, rfl⟩ | ⟨h4, _⟩ | ⟨_, h4, _⟩ | ⟨_, h4, _⟩
   ·exact ⟨h2, h1, _, _, _, _, h3⟩
   ·exact absurd h4 h.ne
   ·cases h4
   ·cases h4)
  obtain ⟨_, zm⟩ := (h.fT j _ ki).offers h.ne (c := cf) (send := true) (k := 0) (by rw [offersAt_parked_send]; simp)
  rcases zm with ⟨_, _, v, g0, z0, ql, he⟩ | ⟨h4, _⟩ | ⟨_, h4, _⟩ | ⟨_, h4, _⟩
  rotate_left
  ·exact absurd h4 h.ne
  ·cases h4
  ·cases h4
  obtain ⟨hcs, hsh, Qi⟩ := u6 he
  subst hsh
  have hv : vj = v := by
   have : scase cf vj zj = scase cf v z0 := by simpa using hcs
   simp only [scase, CommCase.mk.injEq, Option.some.injEq] at this
   exact this.2.1
  subst hv
  obtain ⟨_, v9, Mc, yj, qn, zV, ha⟩ := h.abz ql
  rw [ki] at qn
  obtain ⟨_, _, zq⟩ := u6 (Option.some.inj qn)
  rw [finishComm_recv, finishComm_send, ofEvents_none, zq] at hr
  have PR := h.aa5 (j := j) (v := vj) ql hd zV hy (gj := Conc.served (core v9) undef) (g0 := Conc.served (core g) (recvd true vj true)) ha.2.2 (λ k hlen => hpk.1 k hlen vj) (TE (a := j) (b := 0) (s := s1) (cap := 0) (f1 := gj.frame.fn) (f2 := (core g).frame.fn) (p1 := gj.frame.place) (p2 := (core g).frame.place) (gD h.kM)) d
  obtain ⟨x0, xj, P9, _, PO, hP, _⟩ := PR
  refine ⟨_, _, _, _, _, _, _, _, _, hr, ?_, by simpa using hP⟩
  simpa using G2 (x := x0) (y := xj) hpos PO hji (by omega)
theorem PI.aBu (h : PI P B cf cd bW D th true cls s1 s2 bN bY gs w t) {rem : List Value} {T : Tree} (hi : gs[0]? = some g) (hd : D 0 = .mr rem (some T)) (hy : th 0 = some y) (hk : lg P B cf bW rem.length rem y.R y.H g) :
  ∃ gs' g' ops q, runT P (crowd gs w sl) 0 = (.next (crowd gs' w sl), ops) ∧ gs'[0]? = some g' ∧ bW y.R y.H g' ∧ Alone P B y.R y.H gs' w (t ++ ops) q := by
 have hpos := h.pos
 have kM := h.kM
 cases h.ph with
 | @closed mR m h0 gz gp hac hm =>
  rw [hd] at h0; cases h0
  have hlen : rem.length = 0 := by
   have h1 := gz.length_eq
   have h2 := Us (D := D) (n := gs.size)
   have h3 : cH gs.size (λ i => (D i).act) = 0 := by
    have e : cH gs.size (λ i => (D i).act) = cH gs.size (λ _ => 0) := xY λ i _ => hac i
    rw [e]
    have : ∀ n, cH n (λ _ => 0) = 0 := by intro n; induction n with | zero => rfl | succ n ih => simp only [cH, ih]
    exact this _
   omega
  rw [hlen] at hk
  obtain ⟨z, hrun, hst, _, zf⟩ := hk
  have hr := crowd_recv_closed (sl := sl) hi (show stepG P (0 == 0) g w = _ from hst w (h.mem.fits 0 y hy)) kM (azG h hac)
  rw [finishComm_recv, ofEvents_none] at hr
  have hlv : ∀ i, i ≠ 0 → th i = none ∧ ∃ n, D i = .lv n ∧ ∀ x, gs[i]? = some x → QuitsIn P n x := by
   intro i jU
   rcases Nat.lt_or_ge i gs.size with hlt | hge
   ·have hx := Array.getElem?_eq_getElem hlt
    have hs := h.fT i _ hx
    cases je : D i with
    | lv n => rw [je] at hs; exact ⟨hs.1, n, rfl, λ x hx' => by rw [hx] at hx'; cases hx'; exact hs.2.1⟩
    | w1 v m => have := hac i; rw [je] at this; cases this
    | w2 m => have := hac i; rw [je] at this; cases this
    | cl k m => exact absurd je (gp i k m)
    | ms k sp m => rw [je] at hs; exact absurd hs.2 jU
    | mr r m => rw [je] at hs; exact absurd hs.2 jU
   ·obtain ⟨h1, h2⟩ := h.out i hge
    exact ⟨h1, 0, h2, λ x hx => by rw [Array.getElem?_eq_none hge] at hx; cases hx⟩
  have uC : th = only y := by
   funext i
   unfold only
   split
   ·rename_i e; subst e; exact hy
   ·rename_i e; exact (hlv i e).1
  have hm' := h.mem
  have ht' := h.tr
  rw [uC] at hm' ht'
  refine ⟨_, _, _, λ i => match D i with | .lv n => n | _ => 0, hr, Array.getElem?_setIfInBounds_self_of_lt hpos, zf, ⟨hm'.fits, hm'.apart, λ c o hc => (by cases hc), λ c o hc => (by cases hc)⟩, ?_, λ i x jU hx => ?_⟩
  ·exact (ht'.aAD (y := ⟨0, (core g).frame.fn, (core g).frame.place, .recvClosed cf⟩) rfl rfl (gD kM)).Xt (λ _ _ hc => by cases hc)
  ·rw [Array.getElem?_setIfInBounds_ne (by omega)] at hx
   obtain ⟨_, n, e, hq⟩ := hlv i (by omega)
   simp only [e]
   exact hq x hx
theorem PI.abW (h : PI P B cf cd bW D th cA cls s1 s2 bN bY gs w t) : ∃ (i : Nat) (g : Goroutine), gs[i]? = some g ∧ g.status = .running := by
 have key : ∀ i, (∀ n, D i ≠ .lv n) → (D i).nI ≠ none → ∃ (i : Nat) (g : Goroutine), gs[i]? = some g ∧ g.status = .running := by
  intro i hl hm
  obtain ⟨g, hg⟩ := h.there hl
  refine ⟨i, g, hg, ?_⟩
  have hs := h.fT i g hg
  cases je : D i with
  | lv n => exact absurd je (hl n)
  | w1 v m =>
   rw [je] at hs hm
   obtain ⟨⟨y, _, ⟨T, rfl, h⟩ | ⟨rfl, _⟩⟩, _⟩ := hs
   ·exact h.pL λ _ _ _ => vM.run
   ·exact absurd rfl hm
  | w2 m =>
   rw [je] at hs hm
   obtain ⟨⟨y, _, ⟨T, rfl, h⟩ | ⟨rfl, _⟩⟩, _⟩ := hs
   ·exact h.pL λ _ _ _ => vN.run
   ·exact absurd rfl hm
  | cl k m =>
   rw [je] at hs hm
   obtain ⟨⟨y, _, ⟨T, rfl, h⟩ | ⟨rfl, _⟩⟩, _⟩ := hs
   ·exact h.pL λ _ _ _ => CK.run
   ·exact absurd rfl hm
  | ms k sp m =>
   rw [je] at hs hm
   obtain ⟨⟨y, _, ⟨T, rfl, h⟩ | ⟨rfl, _⟩⟩, _⟩ := hs
   ·exact h.pL λ _ _ _ => oW.run
   ·exact absurd rfl hm
  | mr r m =>
   rw [je] at hs hm
   obtain ⟨⟨y, _, ⟨T, rfl, h⟩ | ⟨rfl, _⟩⟩, _⟩ := hs
   ·exact h.pL λ _ _ _ => lg.run
   ·exact absurd rfl hm
 cases h.ph with
 | @kY k sp m h0 gz gp hw =>
  obtain ⟨g, hg⟩ := h.there (i := 0) (by rw [h0]; intro n e; cases e)
  have hs := h.fT 0 g hg
  rw [h0] at hs
  obtain ⟨⟨y, _, ⟨T, rfl, h⟩ | ⟨rfl, h⟩⟩, _⟩ := hs
  ·exact ⟨0, g, hg, h.pL λ _ _ _ => oW.run⟩
  ·exact h.elim
 | closed h0 gz gp hac hm => exact key 0 (by rw [h0]; intro n e; cases e) (by rw [h0]; exact hm)
 | @iS rem m ic kc mc h0 gz hic hdc hun hkc hw1 nD =>
  cases m with
  | some T => exact key 0 (by rw [h0]; intro n e; cases e) (by rw [h0]; simp [Dt.nI])
  | none =>
   cases mc with
   | some T => exact key ic (by rw [hdc]; intro n e; cases e) (by rw [hdc]; simp [Dt.nI])
   | none =>
    obtain ⟨k', hk', _⟩ := h.TV hdc
    have : ∃ i, i < gs.size ∧ 0 < (D i).act := by
     apply Classical.byContradiction
     intro hn
     have hz : ∀ i, i < gs.size → (D i).act = 0 := λ i hi => by
      have : ¬ 0 < (D i).act := λ hx => hn ⟨i, hi, hx⟩
      omega
     have e : cH gs.size (λ i => (D i).act) = cH gs.size (λ _ => 0) := xY λ i hi => hz i hi
     have nw : ∀ n, cH n (λ _ => 0) = 0 := by intro n; induction n with | zero => rfl | succ n ih => simp only [cH, ih]
     rw [e, nw] at hkc
     omega
    obtain ⟨i, hi, hact⟩ := this
    cases je : D i with
    | w1 v m =>
     cases m with
     | some T => exact key i (by rw [je]; intro n e; cases e) (by rw [je]; simp [Dt.nI])
     | none => exact absurd je (hw1 rfl i v)
    | w2 m =>
     cases m with
     | some T => exact key i (by rw [je]; intro n e; cases e) (by rw [je]; simp [Dt.nI])
     | none => exact absurd je (nD rfl i)
    | _ => rw [je] at hact; simp [Dt.act] at hact
end
section
variable {P : Program} {B : Base} {Post : Value → World → Prop} {cf cd : Nat} {bN bY : Bool}
theorem abQ {d : Dt} {T T' : Tree} (h : d.nI = some T) (hl : ∀ n, d ≠ .lv n) : (d.set (some T')).nI = some T' ∧ (d.set (some T')).dB = d.dB := by
 cases d <;> first | exact absurd rfl (hl _) | exact ⟨rfl, rfl⟩
theorem PI.aAm : ∀ (μ : Nat × List Ms) (gs : Array Goroutine) (w : World) (sl : Option (Nat × Nat)) (t : Trace) (D : Nat → Dt) (th : Nat → Option Th) (cA : Bool) (cls : Option Nat) (s1 s2 : Nat),
  PI P B cf cd (MJ P B Post) D th cA cls s1 s2 bN bY gs w t → mu D gs.size = μ → ∀ i g, gs[i]? = some g → g.status = .running → ∀ m0, stepT P m0 = runT P (crowd gs w sl) i → iY P Post m0 t := by
 intro μ
 induction μ using tQ.wf.induction with
 | _ μ ih =>
  intro gs w sl t D th cA cls s1 s2 h hμ i g hi hrun m0 hm0
  subst hμ
  have next : ∀ (gs' : Array Goroutine) (w' : World) (sl' : Option (Nat × Nat)) (t' : Trace) (D' : Nat → Dt) (jj : Nat → Option Th) (gQ : Bool) (cls' : Option Nat) (s1' s2' : Nat), PI P B cf cd (MJ P B Post) D' jj gQ cls' s1' s2' bN bY gs' w' t' →
    tQ (mu D' gs'.size) (mu D gs.size) → iY P Post (crowd gs' w' sl') t' := by
   intro gs' w' sl' t' D' jj gQ cls' s1' s2' h' hl
   obtain ⟨j, gj, d, Ub, hj, Qg, hst⟩ := crowd_pick (P := P) (gs := gs') (w := w') (sl := sl') (λ x hx => by
    obtain ⟨k, hk, rfl⟩ := Array.mem_iff_getElem.1 hx
    exact (h'.fT k _ (Array.getElem?_eq_getElem hk)).awake) h'.abW
   exact ih _ hl gs' (w'.at d) Ub t' D' jj gQ cls' s1' s2' (h'.at d) rfl j gj hj Qg _ hst
  have nx : Nx P B cf cd (MJ P B Post) D bN bY gs w sl t i → iY P Post m0 t := by
   rintro ⟨gs', w', ops, D', jj, gQ, cls', s1', s2', hr, hl, h'⟩
   exact iY.step (hm0.trans hr) (next _ _ _ _ _ _ _ _ _ _ h' hl)
  have hs := h.fT i g hi
  have hlt := pq hi
  have go : ∀ (main : Bool) (K : aA → ak → Goroutine → Prop) (y : Th) (T : Tree), main = (i == 0) → (∀ n, D i ≠ .lv n) → (D i).nI = some T → th i = some y → vO P B main K T y.R y.H g →
    (∀ T' (y' : Th) g', vO P B main K T' y'.R y'.H g' → kD P B cf cd (MJ P B Post) i ((D i).set (some T')) (some y') g') → (K y.R y.H g → iY P Post m0 t) → iY P Post m0 t := by
   rintro main K ⟨R, H⟩ ⟨ι, f⟩ hmain hnl JU hy hown ZD hstop
   rcases hown with hk | ⟨_, hst⟩ | ⟨R', H', k, hgh, hk⟩
   ·exact hstop hk
   ·obtain ⟨g', w', es, R', H', k, h1, h2, h3, h4⟩ := hst w (h.mem.fits i _ hy)
    obtain ⟨gs', ops, hr, hsz, hP⟩ := h.own (sl := sl) (T := f k) hi hy (hmain ▸ h1) h2 h3 (ZD (f k) ⟨R', H'⟩ g' h4)
    obtain ⟨e1, e2⟩ := abQ (T' := f k) JU hnl
    exact iY.step (hm0.trans hr) (next _ _ _ _ _ _ _ _ _ _ hP (by rw [hsz]; exact AE hlt JU e1 (.some (.mk f k)) e2))
   ·obtain ⟨hm, ht⟩ := Ys h.mem h.tr hy (hgh w (h.mem.fits i _ hy))
    obtain ⟨e1, e2⟩ := abQ (T' := f k) JU hnl
    refine ih _ (AE hlt JU e1 (.some (.mk f k)) e2) gs w sl t _ _ cA cls s1 s2 (h.one (w' := w) hlt rfl hi (λ _ _ => rfl) hm ht (λ j hj => ef hj) (by rw [gJ]; exact ZD (f k) ⟨R', H'⟩ g hk) (h.ph.q λ j => Q.upd (.inr (.inr ⟨f k, rfl⟩)) j)) rfl i g hi hrun m0 hm0
  cases hd : D i with
  | lv n =>
   rw [hd] at hs
   obtain ⟨_, hq, _⟩ := hs
   cases n with
   | zero => rw [show g.status = .finished from hq] at hrun; cases hrun
   | succ n =>
    rcases hq with e | ⟨_, g', hst, hq⟩
    ·rw [e] at hrun; cases hrun
    ·obtain ⟨gs', hr, hsz, hP⟩ := h.quit (sl := sl) hi hd hst hq
     refine iY.step (hm0.trans hr) (next _ _ _ _ _ _ _ _ _ _ (by simpa using hP) ?_)
     rw [hsz]
     exact AE (a := some (AF n)) (b := some (AF (n + 1))) hlt (by rw [hd]; rfl) rfl (azx n) (by rw [hd]; rfl)
  | w1 v m =>
   rw [hd] at hs
   obtain ⟨⟨y, hy, ⟨T, rfl, ho⟩ | ⟨rfl, g0, z, _, rfl⟩⟩, hpos⟩ := hs
   ·exact go false _ y T (by simp; omega) (by rw [hd]; intro n e; cases e) (by rw [hd]; rfl) hy ho (λ T' y' g' ho' => by rw [hd]; exact ⟨⟨y', rfl, .inl ⟨T', rfl, ho'⟩⟩, hpos⟩) (λ hk => nx (h.aBx hi hd hpos hy hk))
   ·cases hrun
  | w2 m =>
   rw [hd] at hs
   obtain ⟨⟨y, hy, ⟨T, rfl, ho⟩ | ⟨rfl, g0, z, _, rfl⟩⟩, hpos⟩ := hs
   ·exact go false _ y T (by simp; omega) (by rw [hd]; intro n e; cases e) (by rw [hd]; rfl) hy ho (λ T' y' g' ho' => by rw [hd]; exact ⟨⟨y', rfl, .inl ⟨T', rfl, ho'⟩⟩, hpos⟩) (λ hk => nx (h.aBy hi hd hpos hy hk))
   ·cases hrun
  | cl k m =>
   rw [hd] at hs
   obtain ⟨⟨y, hy, ⟨T, rfl, ho⟩ | ⟨rfl, hpk⟩⟩, hpos⟩ := hs
   ·refine go false _ y T (by simp; omega) (by rw [hd]; intro n e; cases e) (by rw [hd]; rfl) hy ho (λ T' y' g' ho' => by rw [hd]; exact ⟨⟨y', rfl, .inl ⟨T', rfl, ho'⟩⟩, hpos⟩) (λ hk => ?_)
    cases k with
    | zero => exact nx (h.aBt hi hd hpos hy hk)
    | succ k => exact nx (h.aBs hi hd hpos hy hk)
   ·cases k with
    | zero => exact hpk.elim
    | succ k => obtain ⟨g0, z, _, rfl⟩ := hpk; cases hrun
  | ms k sp m =>
   rw [hd] at hs
   obtain ⟨⟨y, hy, ⟨T, rfl, ho⟩ | ⟨rfl, hpk⟩⟩, rfl⟩ := hs
   ·exact go true _ y T rfl (by rw [hd]; intro n e; cases e) (by rw [hd]; rfl) hy ho (λ T' y' g' ho' => by rw [hd]; exact ⟨⟨y', rfl, .inl ⟨T', rfl, ho'⟩⟩, rfl⟩) (λ hk => nx (h.aBw hi hd hy hk))
   ·exact hpk.elim
  | mr rem m =>
   rw [hd] at hs
   obtain ⟨⟨y, hy, ⟨T, rfl, ho⟩ | ⟨rfl, hpk⟩⟩, rfl⟩ := hs
   ·refine go true _ y T rfl (by rw [hd]; intro n e; cases e) (by rw [hd]; rfl) hy ho (λ T' y' g' ho' => by rw [hd]; exact ⟨⟨y', rfl, .inl ⟨T', rfl, ho'⟩⟩, rfl⟩) (λ hk => ?_)
    cases cA with
    | false =>
     obtain rfl : cls = none := by
      cases h.ph with
      | kY => rfl
      | iS => rfl
     exact nx (h.aBv hi hd hy hk)
    | true =>
     obtain ⟨gs', g', ops, q, hr, hg', hJ, hA⟩ := h.aBu (sl := sl) hi hd hy hk
     exact iY.step (hm0.trans hr) (hJ gs' w sl _ q hg' hA)
   ·generalize rem.length = n at hpk
    cases n <;> (obtain ⟨g0, z, _, rfl⟩ := hpk; cases hrun)
theorem PI.runs {gs : Array Goroutine} {w : World} {sl : Option (Nat × Nat)} {t : Trace} {D : Nat → Dt} {th : Nat → Option Th} {cA : Bool} {cls : Option Nat} {s1 s2 : Nat} (h : PI P B cf cd (MJ P B Post) D th cA cls s1 s2 bN bY gs w t) : iY P Post (crowd gs w sl) t := by
 obtain ⟨j, gj, d, Ub, hj, Qg, hst⟩ := crowd_pick (P := P) (gs := gs) (w := w) (sl := sl) (λ x hx => by
  obtain ⟨k, hk, rfl⟩ := Array.mem_iff_getElem.1 hx
  exact (h.fT k _ (Array.getElem?_eq_getElem hk)).awake) h.abW
 exact PI.aAm _ gs (w.at d) Ub t D th cA cls s1 s2 (h.at d) rfl j gj hj Qg _ hst
end
end Go.Lg
