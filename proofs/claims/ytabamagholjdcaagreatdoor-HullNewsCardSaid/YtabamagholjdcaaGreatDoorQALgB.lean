/- The machine of the workers of hull.reckon: it runs to its end. Conditions: none. -/
import Derived.Test.YtabamagholjdcaaGreatDoorQALgA
import Derived.Conc.CrowdComm
namespace Go.Lg
open Go.Conc
inductive Tree : Type 1
 | node (ι : Type) (f : ι → Tree) : Tree
inductive EO : Tree → Tree → Prop
 | mk {ι : Type} (f : ι → Tree) (i : ι) : EO (f i) (.node ι f)
theorem EO.acc (t : Tree) : Acc EO t := by
 induction t with
 | node ι f ih => exact ⟨_, λ y h => by cases h; exact ih _⟩
abbrev Ms := Option Tree
inductive mZ : Ms → Ms → Prop
 | some {a b : Tree} : EO a b → mZ (some a) (some b)
 | none {b : Tree} : mZ none (some b)
theorem mZ.Xw : Acc mZ (Option.none : Ms) := ⟨_, λ y h => by cases h⟩
theorem mZ.acc (m : Ms) : Acc mZ m := by
 cases m with
 | none => exact mZ.Xw
 | some t =>
  have := EO.acc t
  induction this with
  | intro t _ ih =>
   refine ⟨_, λ y h => ?_⟩
   cases h with
   | some h => exact ih _ h
   | none => exact mZ.Xw
inductive One {α : Type 1} (r : α → α → Prop) : List α → List α → Prop
 | head {a b : α} {l : List α} : r a b → One r (a :: l) (b :: l)
 | tail {a : α} {l l' : List α} : One r l l' → One r (a :: l) (a :: l')
theorem One.acc {α : Type 1} {r : α → α → Prop} (h : ∀ a, Acc r a) : ∀ l : List α, Acc (One r) l
 | [] => ⟨_, λ y h => by cases h⟩
 | b :: l => by
  have hb := h b
  have hl := One.acc h l
  induction hb generalizing l with
  | intro b _ ihb =>
   induction hl with
   | intro l hl' ihl =>
    refine ⟨_, λ y hy => ?_⟩
    cases hy with
    | head hr => exact ihb _ hr _ ⟨_, hl'⟩
    | tail ho => exact ihl _ ho
theorem One.wf : WellFounded (One mZ) := ⟨One.acc mZ.acc⟩
theorem One.set {α : Type 1} {r : α → α → Prop} : ∀ {l : List α} {i : Nat} {a b : α}, l[i]? = some b → r a b → One r (l.set i a) l
 | [], _, _, _, h, _ => by cases h
 | x :: l, 0, a, b, h, hr => by cases h; exact .head hr
 | x :: l, i + 1, a, b, h, hr => .tail (One.set (by simpa using h) hr)
def A3 : Nat → Tree
 | 0 => .node Empty Empty.elim
 | n + 1 => .node Unit λ _ => A3 n
theorem ax6 (n : Nat) : mZ (some (A3 n)) (some (A3 (n + 1))) := .some (.mk (λ _ : Unit => A3 n) ())
section
variable (P : Program) (B : Base) (main : Bool) (K : aI → au → Goroutine → Prop)
def wE : Tree → aI → au → Goroutine → Prop
 | .node _ f => λ R H g => K R H g ∨
  (g.status = .running ∧ ∀ w, Fits B R H w → ∃ g' w' es R' H' i, stepG P main g w = .go g' w' es ∧ (∀ e ∈ es, gf R H w.heap.size w'.heap.size e) ∧ dF B R H w R' H' w' ∧ wE (f i) R' H' g') ∨
  (∃ R' H' i, (∀ w, Fits B R H w → dF B R H w R' H' w) ∧ wE (f i) R' H' g)
def Own (R : aI) (H : au) (g : Goroutine) : Prop := ∃ T, wE P B main K T R H g
theorem Own.stop {R : aI} {H : au} {g : Goroutine} (h : K R H g) : Own P B main K R H g := ⟨.node Empty Empty.elim, .inl h⟩
open Classical in
def qU : Jd P B main where
 J := Own P B main K
 step := by
  intro R H g hs h
  refine ⟨.node { x : aI × au × Goroutine // Own P B main K x.1 x.2.1 x.2.2 } (λ x => x.2.choose), .inr (.inl ⟨hs, λ w hw => ?_⟩)⟩
  obtain ⟨g', w', es, R', H', h1, h2, h3, h4⟩ := h w hw
  exact ⟨g', w', es, R', H', ⟨(R', H', g'), h4⟩, h1, h2, h3, Exists.choose_spec h4⟩
 ghost := by
  intro R H R' H' g hg h
  exact ⟨.node Unit (λ _ => h.choose), .inr (.inr ⟨R', H', (), hg, h.choose_spec⟩)⟩
end
theorem nn {α : Type} {a : Option α} {u : α} {C : Prop} (h : a = none) (h' : a = some u) : C := by rw [h] at h'; cases h'
structure Th where
 R : aI
 H : au
def fP (th : Nat → Option Th) (i : Nat) (x : Option Th) : Nat → Option Th := λ j => if j = i then x else th j
theorem gB (th : Nat → Option Th) (i : Nat) (x : Option Th) : fP th i x i = x := by simp [fP]
theorem eF {th : Nat → Option Th} {i j : Nat} {x : Option Th} (h : j ≠ i) : fP th i x j = th j := by simp [fP, h]
structure eS (B : Base) (th : Nat → Option Th) (ch : au) (w : World) : Prop where
 fits : ∀ i x, th i = some x → Fits B x.R x.H w
 apart : ∀ i j x y, i ≠ j → th i = some x → th j = some y → ∀ b o, (b, o) ∈ x.H → y.R b = none ∧ ∀ o', (b, o') ∉ y.H
 oc : ∀ c o, (c, o) ∈ ch → w.heap[c]? = some o
 ng : ∀ c o, (c, o) ∈ ch → ∀ i x, th i = some x → x.R c = none ∧ ∀ o', (c, o') ∉ x.H
theorem Fits.at {B : Base} {R : aI} {H : au} {w : World} (h : Fits B R H w) (d : Nat) : Fits B R H (w.at d) := ⟨h.r, h.h, h.nd, h.dj, h.os, h.tape, h.out⟩
theorem eS.at {B : Base} {th : Nat → Option Th} {ch : au} {w : World} (h : eS B th ch w) (d : Nat) : eS B th ch (w.at d) :=
 ⟨λ i x hx => (h.fits i x hx).at d, h.apart, h.oc, h.ng⟩
section
variable {B : Base} {th : Nat → Option Th} {ch : au} {w w' : World} {i : Nat} {R R' : aI} {H H' : au}
theorem eS.upd (h : eS B th ch w) (hi : th i = some ⟨R, H⟩) (hu : dF B R H w R' H' w') : eS B (fP th i (some ⟨R', H'⟩)) ch w' := by
 have Az {j : Nat} {y : Th} (hy : th j = some y) : (∀ b o, y.R b = some o → b < w.heap.size) ∧ (∀ b o, (b, o) ∈ y.H → b < w.heap.size) :=
  ⟨λ b o x => gy ((h.fits j y hy).r b o x), λ b o x => gy ((h.fits j y hy).h b o x)⟩
 refine ⟨λ j y hy => ?_, λ j k x y hjk hx hy b o hb => ?_, λ c o hc => ?_, λ c o hc j y hy => ?_⟩
 ·by_cases hj : j = i
  ·subst hj; rw [gB] at hy; cases hy; exact hu.fits
  ·rw [eF hj] at hy
   have hf := h.fits j y hy
   have hl := Az hy
   refine ⟨λ b o x => ?_, λ b o x => ?_, hf.nd, hf.dj, hu.fits.os, hu.fits.tape, hu.fits.out⟩
   ·rw [hu.same b (hl.1 b o x) λ o' ho' => nn (h.apart i j _ _ (Ne.symm hj) hi hy b o' ho').1 x]
    exact hf.r b o x
   ·rw [hu.same b (hl.2 b o x) λ o' ho' => (h.apart i j _ _ (Ne.symm hj) hi hy b o' ho').2 o x]
    exact hf.h b o x
 ·by_cases hj : j = i
  ·subst hj
   rw [gB] at hx; cases hx
   rw [eF (Ne.symm hjk)] at hy
   rcases hu.vg b o hb with ⟨o', ho'⟩ | hge
   ·exact h.apart j k _ _ hjk hi hy b o' ho'
   ·refine ⟨?_, λ o' ho' => ?_⟩
    ·cases hR : y.R b with
     | none => rfl
     | some u => have := (Az hy).1 b u hR; omega
    ·have := (Az hy).2 b o' ho'; omega
  ·rw [eF hj] at hx
   by_cases hk : k = i
   ·subst hk
    rw [gB] at hy; cases hy
    have hlt := (Az hx).2 b o hb
    have hap := h.apart j k _ _ hjk hx hi b o hb
    refine ⟨?_, λ o' ho' => ?_⟩
    ·cases hR : R' b with
     | none => simp [hR]
     | some u =>
      rcases hu.newR b u hR with x | ⟨o', x⟩ | x
      ·exact nn hap.1 x
      ·exact absurd x (hap.2 o')
      ·omega
    ·rcases hu.vg b o' ho' with ⟨u, x⟩ | x
     ·exact hap.2 u x
     ·omega
   ·rw [eF hk] at hy
    exact h.apart j k _ _ hjk hx hy b o hb
 ·have hlt := gy (h.oc c o hc)
  rw [hu.same c hlt λ o' ho' => (h.ng c o hc i _ hi).2 o' ho']
  exact h.oc c o hc
 ·by_cases hj : j = i
  ·subst hj
   rw [gB] at hy; cases hy
   have hlt := gy (h.oc c o hc)
   have hap := h.ng c o hc j _ hi
   refine ⟨?_, λ o' ho' => ?_⟩
   ·cases hR : R' c with
    | none => simp [hR]
    | some u =>
     rcases hu.newR c u hR with x | ⟨o', x⟩ | x
     ·exact nn hap.1 x
     ·exact absurd x (hap.2 o')
     ·omega
   ·rcases hu.vg c o' ho' with ⟨u, x⟩ | x
    ·exact hap.2 u x
    ·omega
  ·rw [eF hj] at hy
   exact h.ng c o hc j y hy
theorem eS.drop (h : eS B th ch w) : eS B (fP th i none) ch w := by
 have key : ∀ j y, fP th i none j = some y → th j = some y := λ j y hy => by
  by_cases hj : j = i
  ·subst hj; rw [gB] at hy; cases hy
  ·rwa [eF hj] at hy
 exact ⟨λ j y hy => h.fits j y (key j y hy), λ j k x y hjk hx hy => h.apart j k x y hjk (key j x hx) (key k y hy), h.oc, λ c o hc j y hy => h.ng c o hc j y (key j y hy)⟩
theorem eS.add {c : Nat} (h : eS B th ch w) (hi : th i = some ⟨R, H⟩) (hR : aN R' R) : eS B (fP th c (some ⟨R', []⟩)) ch w := by
 refine ⟨λ j y hy => ?_, λ j k x y hjk hx hy b o hb => ?_, h.oc, λ a o ha j y hy => ?_⟩
 ·by_cases hj : j = c
  ·subst hj; rw [gB] at hy; cases hy
   have hf := h.fits i _ hi
   exact ⟨λ b o x => hf.r b o (hR b o x), λ b o x => (by cases x), List.nodup_nil, λ b o x => (by cases x), hf.os, hf.tape, hf.out⟩
  ·rw [eF hj] at hy; exact h.fits j y hy
 ·by_cases hj : j = c
  ·subst hj; rw [gB] at hx; cases hx; cases hb
  ·rw [eF hj] at hx
   by_cases hk : k = c
   ·subst hk
    rw [gB] at hy; cases hy
    refine ⟨?_, λ o' x => by cases x⟩
    cases Fs : R' b with
    | none => simp [Fs]
    | some u =>
     have ZG := hR b u Fs
     by_cases hji : j = i
     ·subst hji
      rw [hi] at hx; cases hx
      exact nn ((h.fits j _ hi).dj b o hb) ZG
     ·exact nn (h.apart j i _ _ hji hx hi b o hb).1 ZG
   ·rw [eF hk] at hy; exact h.apart j k x y hjk hx hy b o hb
 ·by_cases hj : j = c
  ·subst hj; rw [gB] at hy; cases hy
   refine ⟨?_, λ o' x => by cases x⟩
   cases Fs : R' a with
   | none => simp [Fs]
   | some u => exact nn (h.ng a o ha i _ hi).1 (hR a u Fs)
  ·rw [eF hj] at hy; exact h.ng a o ha j y hy
end
end Go.Lg
namespace Go.Lg
open Go.Conc
abbrev Kn (t : Trace) (g i : Nat) : Prop := Go.Conc.Knows t g i
def blk : Loc → Option Nat
 | .cell a => some a.block
 | .obj r => some r
 | _ => none
structure dI (th : Nat → Option Th) (ch : au) (cls : Option Nat) (n : Nat) (t : Trace) : Prop where
 own : ∀ i x, th i = some x → ∀ b o, (b, o) ∈ x.H → ∀ k a, touchAt t k = some a → blk a.loc = some b → Kn t i k
 read : ∀ i x, th i = some x → ∀ b o, x.R b = some o → ∀ k a, touchAt t k = some a → blk a.loc = some b → a.write = true → Kn t i k
 dg : ∀ c o, (c, o) ∈ ch → ∀ i x, th i = some x → ∀ k a, touchAt t k = some a → blk a.loc = some c → a.kind = .atomic ∨ Kn t i k
 low : ∀ op ∈ t, op.act.low n
 all : ∀ k a, touchAt t k = some a → a.loc.isMemory = true → (∃ i x, th i = some x ∧ Kn t i k) ∨ (∃ c p, cls = some c ∧ t.act? p = some (.close c) ∧ Before t k p)
 clean : ∀ said, ¬ Race said t
 quiet : Wordless t
theorem az8 {x : MemAct} {a : Touch} {n b : Nat} (h : x.low n) (ht : x.touch? = some a) (hb : blk a.loc = some b) : b < n := by
 cases x with
 | access e =>
  simp only [MemAct.touch?, Option.some.injEq] at ht
  subst ht
  obtain ⟨loc, wr, sy⟩ := e
  cases loc <;> simp [blk] at hb <;> subst hb <;> exact h
 | mark m =>
  cases m <;> simp only [MemAct.touch?, Option.some.injEq, reduceCtorEq] at ht
  all_goals (subst ht; simp [blk] at hb; subst hb; exact h)
 | _ => simp [MemAct.touch?] at ht
def WV (ch : au) (R : aI) (H : au) (n : Nat) (a : Touch) : Prop :=
 ∃ b, blk a.loc = some b ∧ ((a.write = false ∧ ∃ o, R b = some o) ∨ (∃ o, (b, o) ∈ H) ∨ n ≤ b ∨ (a.kind = .atomic ∧ ∃ o, (b, o) ∈ ch))
theorem qS {t u : Trace} {k : Nat} {a : Touch} (h : touchAt (t ++ u) k = some a) : (k < t.size ∧ touchAt t k = some a) ∨ (∃ op, (t ++ u)[k]? = some op ∧ op ∈ u ∧ op.act.touch? = some a) := by
 obtain ⟨x, hx, xB⟩ := touch_of h
 rcases getElem?_append_cases hx with ⟨hk, hx'⟩ | ⟨_, hxu⟩
 ·exact .inl ⟨hk, by rw [touchAt_of hx']; exact xB⟩
 ·exact .inr ⟨x, hx, hxu, xB⟩
theorem TY {t : Trace} {k b n : Nat} {a : Touch} (hl : ∀ op ∈ t, op.act.low n) (h : touchAt t k = some a) (hb : blk a.loc = some b) : b < n := by
 obtain ⟨x, hx, xB⟩ := touch_of h
 exact az8 (hl x (mem_of_getElem? hx)) xB hb
section
variable {B : Base} {th : Nat → Option Th} {ch : au} {cls : Option Nat} {w : World} {n n' i : Nat} {R R' : aI} {H H' : au} {t u : Trace}
theorem Pe {k : Nat} (h : ∃ c p, cls = some c ∧ t.act? p = some (.close c) ∧ Before t k p) : ∃ c p, cls = some c ∧ (t ++ u).act? p = some (.close c) ∧ Before (t ++ u) k p := by
 obtain ⟨c, p, h1, h2, h3⟩ := h
 exact ⟨c, p, h1, by rw [act?_old (lt_of_act? h2)]; exact h2, h3.app u⟩
theorem dI.app (hM : eS B th ch w) (hn : w.heap.size = n) (h : dI th ch cls n t) (hi : th i = some ⟨R, H⟩) (hu : ∀ op ∈ u, op.g = i)
  (ht : ∀ op ∈ u, ∀ a, op.act.touch? = some a → WV ch R H n a) (hl : ∀ op ∈ u, op.act.low n') (hw : Wordless u) (hnn : n ≤ n')
  (hR : ∀ b o, R' b = some o → R b = some o ∨ (∃ o', (b, o') ∈ H) ∨ n ≤ b) (hH : ∀ b o, (b, o) ∈ H' → (∃ o', (b, o') ∈ H) ∨ n ≤ b) :
  dI (fP th i (some ⟨R', H'⟩)) ch cls n' (t ++ u) := by
 have Az {j : Nat} {y : Th} (hy : th j = some y) : (∀ b o, y.R b = some o → b < n) ∧ (∀ b o, (b, o) ∈ y.H → b < n) :=
  ⟨λ b o x => hn ▸ gy ((hM.fits j y hy).r b o x), λ b o x => hn ▸ gy ((hM.fits j y hy).h b o x)⟩
 have awC : ∀ c o, (c, o) ∈ ch → c < n := λ c o hc => hn ▸ gy (hM.oc c o hc)
 have Lo : ∀ k op, (t ++ u)[k]? = some op → op ∈ u → Kn (t ++ u) i k := λ k op h1 h2 => by
  have := knows_own h1; rwa [hu op h2] at this
 refine ⟨λ j y hy b o hb k a hk hab => ?_, λ j y hy b o hb k a hk hab sG => ?_, λ c o hc j y hy k a hk hab => ?_, λ op hop => ?_, λ k a hk hm => ?_, λ said => ?_, h.quiet.append hw⟩
 ·by_cases hj : j = i
  ·subst hj; rw [gB] at hy; cases hy
   rcases qS hk with ⟨_, hk'⟩ | ⟨op, h1, h2, _⟩
   ·rcases hH b o hb with ⟨o', ho'⟩ | hge
    ·exact (h.own j _ hi b o' ho' k a hk' hab).app u
    ·have := TY h.low hk' hab; omega
   ·exact Lo k op h1 h2
  ·rw [eF hj] at hy
   rcases qS hk with ⟨_, hk'⟩ | ⟨op, h1, h2, h3⟩
   ·exact (h.own j y hy b o hb k a hk' hab).app u
   ·obtain ⟨b', hb', hc⟩ := ht op h2 a h3
    rw [hab] at hb'; cases hb'
    have hap := hM.apart j i _ _ hj hy hi b o hb
    rcases hc with ⟨_, o', x⟩ | ⟨o', x⟩ | x | ⟨_, o', x⟩
    ·exact nn hap.1 x
    ·exact absurd x (hap.2 o')
    ·have := (Az hy).2 b o hb; omega
    ·exact absurd hb ((hM.ng b o' x j y hy).2 o)
 ·by_cases hj : j = i
  ·subst hj; rw [gB] at hy; cases hy
   rcases qS hk with ⟨_, hk'⟩ | ⟨op, h1, h2, _⟩
   ·rcases hR b o hb with x | ⟨o', x⟩ | x
    ·exact (h.read j _ hi b o x k a hk' hab sG).app u
    ·exact (h.own j _ hi b o' x k a hk' hab).app u
    ·have := TY h.low hk' hab; omega
   ·exact Lo k op h1 h2
  ·rw [eF hj] at hy
   rcases qS hk with ⟨_, hk'⟩ | ⟨op, h1, h2, h3⟩
   ·exact (h.read j y hy b o hb k a hk' hab sG).app u
   ·obtain ⟨b', hb', hc⟩ := ht op h2 a h3
    rw [hab] at hb'; cases hb'
    rcases hc with ⟨x, _⟩ | ⟨o', x⟩ | x | ⟨_, o', x⟩
    ·rw [sG] at x; cases x
    ·exact nn (hM.apart i j _ _ (Ne.symm hj) hi hy b o' x).1 hb
    ·have := (Az hy).1 b o hb; omega
    ·exact nn (hM.ng b o' x j y hy).1 hb
 ·by_cases hj : j = i
  ·subst hj
   rcases qS hk with ⟨_, hk'⟩ | ⟨op, h1, h2, _⟩
   ·exact (h.dg c o hc j _ hi k a hk' hab).imp id (·.app u)
   ·exact .inr (Lo k op h1 h2)
  ·rw [eF hj] at hy
   rcases qS hk with ⟨_, hk'⟩ | ⟨op, h1, h2, h3⟩
   ·exact (h.dg c o hc j y hy k a hk' hab).imp id (·.app u)
   ·obtain ⟨b', hb', mq⟩ := ht op h2 a h3
    rw [hab] at hb'; cases hb'
    rcases mq with ⟨_, o', x⟩ | ⟨o', x⟩ | x | ⟨x, _⟩
    ·exact nn (hM.ng c o hc i _ hi).1 x
    ·exact absurd x ((hM.ng c o hc i _ hi).2 o')
    ·have := awC c o hc; omega
    ·exact .inl x
 ·rcases Array.mem_append.1 hop with x | x
  ·exact MemAct.low_mono hnn (h.low op x)
  ·exact hl op x
 ·rcases qS hk with ⟨_, hk'⟩ | ⟨op, h1, h2, _⟩
  ·rcases h.all k a hk' hm with ⟨j, y, hy, hkn⟩ | fW
   ·by_cases hj : j = i
    ·subst hj; exact .inl ⟨j, _, gB _ _ _, hkn.app u⟩
    ·exact .inl ⟨j, y, by rw [eF hj]; exact hy, hkn.app u⟩
   ·exact .inr (Pe fW)
  ·exact .inl ⟨i, _, gB _ _ _, Lo k op h1 h2⟩
 ·refine noRace_append (h.clean said) hu λ k a hk op hop b hb hc => ?_
  obtain ⟨aoz, hmem, sG, hpl⟩ := hc
  obtain ⟨bb, hbb, hcs⟩ := ht op hop b hb
  have hab : blk a.loc = some bb := by rw [aoz]; exact hbb
  rcases hcs with ⟨x, o, ho⟩ | ⟨o, x⟩ | x | ⟨x, o, ho⟩
  ·have FH : a.write = true := by
    rcases sG with y | y
    ·exact y
    ·rw [x] at y; cases y
   exact h.read i _ hi bb o ho k a hk hab FH
  ·exact h.own i _ hi bb o x k a hk hab
  ·have := TY h.low hk hab; omega
  ·rcases h.dg bb o ho i _ hi k a hk hab with y | y
   ·rcases hpl with z | z | ⟨_, z, _⟩
    ·rw [y] at z; cases z
    ·rw [x] at z; cases z
    ·rw [y] at z; cases z
   ·exact y
theorem ax9 {said : Bool} (h : ¬ Race said t) (hu : ∀ op ∈ u, op.act.touch? = none) : ¬ Race said (t ++ u) := by
 rintro ⟨i, j, hij, ⟨a, b, ha, hb, hc⟩, n1, n2⟩
 rcases qS (u := u) (a := a) (k := i) ha with ⟨hi, ha'⟩ | ⟨op, _, h2, h3⟩
 ·rcases qS (u := u) (a := b) (k := j) hb with ⟨hj, hb'⟩ | ⟨op, _, h2, h3⟩
  ·exact h ⟨i, j, hij, ⟨a, b, ha', hb', hc⟩, λ e => n1 (hb_app u e), λ e => n2 (hb_app u e)⟩
  ·rw [hu op h2] at h3; cases h3
 ·rw [hu op h2] at h3; cases h3
theorem dI.mute (h : dI th ch cls n t) (hu : ∀ op ∈ u, op.act.touch? = none) (hl : ∀ op ∈ u, op.act.low n) (hw : Wordless u) : dI th ch cls n (t ++ u) := by
 have old : ∀ {k a}, touchAt (t ++ u) k = some a → touchAt t k = some a := λ {k a} hk => by
  rcases qS hk with ⟨_, x⟩ | ⟨op, _, h2, h3⟩
  ·exact x
  ·rw [hu op h2] at h3; cases h3
 exact ⟨λ j y hy b o hb k a hk hab => (h.own j y hy b o hb k a (old hk) hab).app u, λ j y hy b o hb k a hk hab sG => (h.read j y hy b o hb k a (old hk) hab sG).app u,
  λ c o hc j y hy k a hk hab => (h.dg c o hc j y hy k a (old hk) hab).imp id (·.app u), λ op hop => (Array.mem_append.1 hop).elim (h.low op) (hl op),
  λ k a hk hm => (h.all k a (old hk) hm).imp (λ ⟨j, y, hy, hkn⟩ => ⟨j, y, hy, hkn.app u⟩) Pe, λ said => ax9 (h.clean said) hu, h.quiet.append hw⟩
theorem avW {g c : Nat} {x y : MemOp} (hw : Wordless (t ++ #[x, y])) (hx : x.g = g) (xB : x.act = .go c) (hy : y.g = c) (mI : y.act = .start) {k : Nat} (h : Kn t g k) : Kn (t ++ #[x, y]) c k := by
 have e1 : (t ++ #[x, y])[t.size]? = some x := by simp
 have e2 : (t ++ #[x, y])[t.size + 1]? = some y := by simp
 have h1 := Go.Conc.Knows.hb_new h (Nat.le_refl _) e1 hx
 exact ⟨t.size + 1, y, e2, hy, .inr (h1.trans (.single (.inr ⟨.spawn (child := c) (by rw [act?_of e1, xB]) (by rw [act?_of e2, mI]) (by simp [Trace.g?, hy]), hw.heard e1, hw.heard e2⟩)))⟩
theorem avV {a b c s p q : Nat} {x y : MemOp} (hw : Wordless (t ++ u)) (hp : t.size ≤ p) (h1 : (t ++ u)[p]? = some x) (hx : x.g = a) (xB : x.act = .send c s) (h2 : (t ++ u)[q]? = some y) (hy : y.g = b) (mI : y.act = .recvDone c s) {k : Nat} (h : Kn t a k) : Kn (t ++ u) b k := by
 have e := Go.Conc.Knows.hb_new h hp h1 hx
 exact ⟨q, y, h2, hy, .inr (e.trans (.single (.inr ⟨.handOver (c := c) (k := s) (by rw [act?_of h1, xB]) (by rw [act?_of h2, mI]), hw.heard h1, hw.heard h2⟩)))⟩
theorem avU {b c p : Nat} {y : MemOp} (hw : Wordless (t ++ #[y])) (hp : t.act? p = some (.close c)) (hy : y.g = b) (mI : y.act = .recvClosed c) {k : Nat} (h : Before t k p) : Kn (t ++ #[y]) b k := by
 have e2 : (t ++ #[y])[t.size]? = some y := by simp
 obtain ⟨x, hx, _⟩ := Option.map_eq_some_iff.1 hp
 have hx' : (t ++ #[y])[p]? = some x := by rw [getElem?_append_old (lt_size_of_getElem? hx)]; exact hx
 exact ⟨t.size, y, e2, hy, .inr ((h.app #[y]).hb (.single (.inr ⟨.closed (c := c) (by rw [act?_old (lt_of_act? hp)]; exact hp) (by rw [act?_of e2, mI]), hw.heard hx', hw.heard e2⟩)))⟩
end
end Go.Lg
namespace Go.Lg
open Go.Conc
def cI : Nat → (Nat → Nat) → Nat
 | 0, _ => 0
 | j + 1, f => cI j f + f j
theorem x5 {f g : Nat → Nat} : ∀ {j : Nat}, (∀ i, i < j → f i = g i) → cI j f = cI j g
 | 0, _ => rfl
 | j + 1, h => by rw [cI, cI, x5 (λ i hi => h i (by omega)), h j (by omega)]
theorem x6 {f g : Nat → Nat} {i : Nat} : ∀ {j : Nat}, i < j → (∀ k, k ≠ i → g k = f k) → cI j g + f i = cI j f + g i
 | j + 1, h, hg => by
  rcases Nat.lt_or_ge i j with hlt | hge
  ·have := x6 hlt hg
   simp only [cI, hg j (by omega)]
   omega
  ·obtain rfl : i = j := by omega
   simp only [cI]
   rw [x5 (g := f) (λ a ha => hg a (by omega))]
   omega
section
variable (P : Program) (Post : Value → World → Prop)
def iM (m : Machine) (t : Trace) : Prop := ∃ N last o w' t', runNT P (N + 1) m t = (.ended o w', t') ∧ runN P N m = .next last ∧ step P last = .ended o w' ∧ Good P Post last o w' t'
variable {P Post}
theorem iM.step {m m' : Machine} {t : Trace} {ops : Array MemOp} (hs : stepT P m = (.next m', ops)) (h : iM P Post m' (t ++ ops)) : iM P Post m t := by
 obtain ⟨N, last, o, w', t', h1, h2, h3, h4⟩ := h
 exact ⟨N + 1, last, o, w', t', by rw [runNT_succ_next hs]; exact h1, by rw [runN_succ_next hs]; exact h2, h3, h4⟩
theorem iM.end {m : Machine} {t : Trace} {o : Outcome} {w' : World} {ops : Array MemOp} (hs : stepT P m = (.ended o w', ops)) (h : Good P Post m o w' (t ++ ops)) : iM P Post m t :=
 ⟨0, m, o, w', t ++ ops, by simp [runNT, hs], rfl, by simp [Go.step, hs], h⟩
end
theorem Ll {g : Nat} {fn : FuncId} {pos : String} {es : Array Event} {op : MemOp} (h : op ∈ MemOp.ofEvents g fn pos es) : ∃ e ∈ es, op = { g, fn, pos, act := .ofEvent e } := by
 rw [ofEvents_eq] at h
 obtain ⟨e, he, rfl⟩ := Array.mem_map.1 h
 exact ⟨e, he, rfl⟩
section
variable {R : aI} {H : au} {n m : Nat} {e : Event} {ch : au}
theorem ai8 {a : Touch} (h : gf R H n m e) (ht : (MemAct.ofEvent e).touch? = some a) : WV ch R H n a := by
 obtain ⟨loc, wr, sy⟩ := e
 have key : ∀ b, zc R H n wr b → ((wr = false ∧ ∃ o, R b = some o) ∨ (∃ o, (b, o) ∈ H) ∨ n ≤ b) := λ b hb => by
  rcases hb with ⟨h1, h2⟩ | h2 | h2
  ·exact .inl ⟨h1, Option.isSome_iff_exists.1 h2⟩
  ·exact .inr (.inl h2)
  ·exact .inr (.inr h2)
 cases loc with
 | cell a' =>
  obtain ⟨h1, _, h3⟩ := h
  simp only at h1; subst h1
  have e1 : MemAct.ofEvent ⟨.cell a', wr, false⟩ = .access ⟨.cell a', wr, false⟩ := by cases wr <;> rfl
  rw [e1] at ht
  simp only [MemAct.touch?, Option.some.injEq] at ht
  subst ht
  refine ⟨a'.block, rfl, ?_⟩
  rcases key _ h3 with x | x | x
  ·exact .inl x
  ·exact .inr (.inl x)
  ·exact .inr (.inr (.inl x))
 | obj b =>
  obtain ⟨h1, _, h3⟩ := h
  simp only at h1; subst h1
  have e1 : MemAct.ofEvent ⟨.obj b, wr, false⟩ = .access ⟨.obj b, wr, false⟩ := by cases wr <;> rfl
  rw [e1] at ht
  simp only [MemAct.touch?, Option.some.injEq] at ht
  subst ht
  refine ⟨b, rfl, ?_⟩
  rcases key _ h3 with x | x | x
  ·exact .inl x
  ·exact .inr (.inl x)
  ·exact .inr (.inr (.inl x))
 | mark mk =>
  cases mk <;> simp [gf] at h
  cases wr <;> cases sy <;> simp [MemAct.ofEvent, MemAct.touch?] at ht
 | _ => simp [gf] at h
theorem ai7 (h : gf R H n m e) : (MemAct.ofEvent e).low m := by
 obtain ⟨loc, wr, sy⟩ := e
 cases loc with
 | cell a' =>
  obtain ⟨h1, h2, _⟩ := h
  simp only at h1; subst h1
  cases wr <;> exact h2
 | obj b =>
  obtain ⟨h1, h2, _⟩ := h
  simp only at h1; subst h1
  cases wr <;> exact h2
 | mark mk =>
  cases mk <;> simp [gf] at h
  cases wr <;> cases sy <;> trivial
 | _ => simp [gf] at h
theorem ai9 (h : gf R H n m e) : ∀ mk, MemAct.ofEvent e = .mark mk → Neutral mk := by
 obtain ⟨loc, wr, sy⟩ := e
 intro mk hm
 cases loc with
 | cell a' => obtain ⟨h1, _⟩ := h; simp only at h1; subst h1; cases wr <;> cases hm
 | obj b => obtain ⟨h1, _⟩ := h; simp only at h1; subst h1; cases wr <;> cases hm
 | mark mk' =>
  cases mk' <;> simp [gf] at h
  cases wr <;> cases sy <;> (cases hm; rfl)
 | _ => simp [gf] at h
end
section
variable {B : Base} {th : Nat → Option Th} {ch : au} {cls : Option Nat} {w w' : World} {i : Nat} {R R' : aI} {H H' : au} {t : Trace}
theorem Lz (hM : eS B th ch w) (h : dI th ch cls w.heap.size t) (hi : th i = some ⟨R, H⟩) {es : Array Event} (hes : ∀ e ∈ es, gf R H w.heap.size w'.heap.size e) (hu : dF B R H w R' H' w') (fn : FuncId) (pos : String) :
  eS B (fP th i (some ⟨R', H'⟩)) ch w' ∧ dI (fP th i (some ⟨R', H'⟩)) ch cls w'.heap.size (t ++ MemOp.ofEvents i fn pos es) := by
 refine ⟨hM.upd hi hu, dI.app hM rfl h hi ?_ ?_ ?_ ?_ hu.size hu.newR hu.vg⟩
 ·intro op hop; obtain ⟨e, _, rfl⟩ := Ll hop; rfl
 ·intro op hop a ha; obtain ⟨e, he, rfl⟩ := Ll hop; exact ai8 (hes e he) ha
 ·intro op hop; obtain ⟨e, he, rfl⟩ := Ll hop; exact ai7 (hes e he)
 ·intro op hop mk hm; obtain ⟨e, he, rfl⟩ := Ll hop; exact ai9 (hes e he) mk hm
theorem Zi (hM : eS B th ch w) (h : dI th ch cls w.heap.size t) (hi : th i = some ⟨R, H⟩) (hu : dF B R H w R' H' w) :
  eS B (fP th i (some ⟨R', H'⟩)) ch w ∧ dI (fP th i (some ⟨R', H'⟩)) ch cls w.heap.size t := by
 have := Lz (w' := w) (es := #[]) hM h hi (by simp) hu 0 ""
 rw [ofEvents_none, Array.append_empty] at this
 exact this
end
def only (x : Th) : Nat → Option Th := λ i => if i = 0 then some x else none
theorem Ux (x y : Th) : fP (only x) 0 (some y) = only y := by funext i; unfold fP only; split <;> rfl
structure Alone (P : Program) (B : Base) (R : aI) (H : au) (gs : Array Goroutine) (w : World) (t : Trace) (q : Nat → Nat) : Prop where
 mem : eS B (only ⟨R, H⟩) [] w
 tr : dI (only ⟨R, H⟩) [] none w.heap.size t
 lv : ∀ i g, 0 < i → gs[i]? = some g → QuitsIn P (q i) g
section
variable (P : Program) (B : Base) (Post : Value → World → Prop)
def MJ (R : aI) (H : au) (g : Goroutine) : Prop := ∀ gs w sl t q, gs[0]? = some g → Alone P B R H gs w t q → iM P Post (crowd gs w sl) t
end
section
variable {P : Program} {B : Base} {Post : Value → World → Prop} {R : aI} {H : au} {g : Goroutine}
theorem Alone.fits {gs : Array Goroutine} {w : World} {t : Trace} {q : Nat → Nat} (h : Alone P B R H gs w t q) : Fits B R H w := h.mem.fits 0 ⟨R, H⟩ rfl
theorem Alone.at {gs : Array Goroutine} {w : World} {t : Trace} {q : Nat → Nat} (h : Alone P B R H gs w t q) (d : Nat) : Alone P B R H gs (w.at d) t q := ⟨h.mem.at d, h.tr, h.lv⟩
theorem adr {g g' b : Goroutine} {w' : World} {k : Nat} (hB : QuitsIn P k b) : woken P g g' w' b = b := by
 unfold woken
 split
 ·exact again_running _ hB.status
 ·rfl
theorem MJ.pick (hs : g.status = .running)
  (h : ∀ gs w sl sl' d t q, gs[0]? = some g → Alone P B R H gs (w.at d) t q → stepT P (crowd gs w sl) = runT P (crowd gs (w.at d) sl') 0 → iM P Post (crowd gs w sl) t) : MJ P B Post R H g := by
 have key : ∀ M gs w sl t q, cI gs.size q ≤ M → gs[0]? = some g → Alone P B R H gs w t q → iM P Post (crowd gs w sl) t := by
  intro M
  induction M with
  | zero =>
   intro gs w sl t q hM h0 hA
   have FH : ∀ x ∈ gs, awake x := by
    intro x hx
    obtain ⟨i, hi, rfl⟩ := Array.mem_iff_getElem.1 hx
    rcases Nat.eq_zero_or_pos i with rfl | hpos
    ·have : gs[0] = g := by simpa [Array.getElem?_eq_getElem hi] using h0
     rw [this]; exact awake_of (.inl hs)
    ·exact awake_of ((hA.lv i _ hpos (Array.getElem?_eq_getElem hi)).status.elim .inl λ x => .inr (.inr x))
   obtain ⟨i, x, d, sl', hi, hx, hst⟩ := crowd_pick (P := P) (w := w) (sl := sl) FH ⟨0, g, h0, hs⟩
   rcases Nat.eq_zero_or_pos i with rfl | hpos
   ·exact h gs w sl sl' d t q h0 (hA.at d) hst
   ·have hq := hA.lv i x hpos hi
    have hlt : i < gs.size := (Array.getElem?_eq_some_iff.1 hi).1
    have hq0 : q i = 0 := by
     have := x6 (f := q) (g := λ k => if k = i then q i + 0 else q k) hlt (λ k hk => by simp [hk])
     have h2 : ∀ (j : Nat), i < j → q i ≤ cI j q := by
      intro j hj
      induction j with
      | zero => omega
      | succ j ih =>
       rcases Nat.lt_or_ge i j with hlt | hge
       ·have := ih hlt; simp only [cI]; omega
       ·obtain rfl : i = j := by omega
        simp only [cI]; omega
     have := h2 gs.size hlt
     omega
    rw [hq0] at hq
    rw [show x.status = .finished from hq] at hx; cases hx
  | succ M ih =>
   intro gs w sl t q hM h0 hA
   have FH : ∀ x ∈ gs, awake x := by
    intro x hx
    obtain ⟨i, hi, rfl⟩ := Array.mem_iff_getElem.1 hx
    rcases Nat.eq_zero_or_pos i with rfl | hpos
    ·have : gs[0] = g := by simpa [Array.getElem?_eq_getElem hi] using h0
     rw [this]; exact awake_of (.inl hs)
    ·exact awake_of ((hA.lv i _ hpos (Array.getElem?_eq_getElem hi)).status.elim .inl λ x => .inr (.inr x))
   obtain ⟨i, x, d, sl', hi, hx, hst⟩ := crowd_pick (P := P) (w := w) (sl := sl) FH ⟨0, g, h0, hs⟩
   rcases Nat.eq_zero_or_pos i with rfl | hpos
   ·exact h gs w sl sl' d t q h0 (hA.at d) hst
   ·have hq := hA.lv i x hpos hi
    have kD : (i == 0) = false := by simp; omega
    have hlt : i < gs.size := (Array.getElem?_eq_some_iff.1 hi).1
    cases hqi : q i with
    | zero => rw [hqi] at hq; rw [show x.status = .finished from hq] at hx; cases hx
    | succ k =>
     rw [hqi] at hq
     rcases hq with hf | ⟨_, x', arK, hq'⟩
     ·rw [hf] at hx; cases hx
     have Cu := runT_crowd_go (P := P) (sl := sl') (i := i) hi (by rw [kD]; exact arK (w.at d))
     rw [ofEvents_none] at Cu
     refine iM.step (hst.trans Cu) ?_
     rw [Array.append_empty]
     have hsz : ((gs.map (woken P x x' (w.at d))).setIfInBounds i x').size = gs.size := by simp
     have hsum := x6 (f := q) (g := λ j => if j = i then k else q j) hlt (λ j hj => by simp [hj])
     simp only [if_true, hqi] at hsum
     refine ih _ _ _ _ (λ j => if j = i then k else q j) (by rw [hsz]; omega) ?_ ⟨(hA.at d).mem, hA.tr, λ j y hj hy => ?_⟩
     ·have hne : i ≠ 0 := by omega
      rw [Array.getElem?_setIfInBounds_ne hne, Array.getElem?_map, h0]
      simp [woken_run hs]
     ·by_cases hji : i = j
      ·subst hji
       rw [Array.getElem?_setIfInBounds_self_of_lt (by simpa using hlt)] at hy
       obtain rfl := Option.some.inj hy
       simpa using hq'
      ·rw [Array.getElem?_setIfInBounds_ne hji, Array.getElem?_map] at hy
       obtain ⟨z, hz, rfl⟩ := Option.map_eq_some_iff.1 hy
       have hqj := hA.lv j z hj hz
       rw [adr hqj]
       simpa [Ne.symm hji] using hqj
 exact λ gs w sl t q h0 hA => key _ gs w sl t q (Nat.le_refl _) h0 hA
theorem MJ.step (hs : g.status = .running) (h : ∀ w, Fits B R H w → ∃ g' w' es R' H', stepG P true g w = .go g' w' es ∧ (∀ e ∈ es, gf R H w.heap.size w'.heap.size e) ∧ dF B R H w R' H' w' ∧ MJ P B Post R' H' g') : MJ P B Post R H g := by
 refine MJ.pick hs λ gs w sl sl' d t q h0 hA hst => ?_
 obtain ⟨g', w', es, R', H', h1, h2, h3, h4⟩ := h _ hA.fits
 have Cu := runT_crowd_go (P := P) (sl := sl') (i := 0) h0 (show stepG P (0 == 0) g (w.at d) = _ from h1)
 refine iM.step (hst.trans Cu) ?_
 have hlt : 0 < gs.size := (Array.getElem?_eq_some_iff.1 h0).1
 have hst := Lz hA.mem hA.tr (i := 0) rfl h2 h3 g.frame.fn g.frame.place
 rw [Ux] at hst
 refine h4 _ _ _ _ q (by simp [hlt]) ⟨hst.1, hst.2, λ j x hj hx => ?_⟩
 have hne : 0 ≠ j := by omega
 rw [Array.getElem?_setIfInBounds_ne hne, Array.getElem?_map] at hx
 obtain ⟨y, hy, rfl⟩ := Option.map_eq_some_iff.1 hx
 have hq := hA.lv j y hj hy
 rw [adr hq]
 exact hq
theorem MJ.ghost {R' : aI} {H' : au} (hg : ∀ w, Fits B R H w → dF B R H w R' H' w) (h : MJ P B Post R' H' g) : MJ P B Post R H g := by
 intro gs w sl t q h0 hA
 have hst := Zi hA.mem hA.tr (i := 0) rfl (hg w hA.fits)
 rw [Ux] at hst
 exact h gs w sl t q h0 ⟨hst.1, hst.2, hA.lv⟩
def Hv (P : Program) (B : Base) (Post : Value → World → Prop) : Jd P B true := ⟨MJ P B Post, MJ.step, MJ.ghost⟩
theorem handed {n : Nat} {t : Trace} (h : dI (only ⟨R, H⟩) [] none n t) : t.HandedOver := by
 intro i x hx hne hc
 obtain ⟨a, ha, hm, _⟩ := hc
 rcases h.all i a ha hm with ⟨j, y, hy, hk⟩ | ⟨c, p, fW, _⟩
 ·have hj : j = 0 := by
   unfold only at hy
   split at hy
   ·assumption
   ·cases hy
  subst hj
  obtain ⟨q, z, h1, h2, h3⟩ := hk
  refine ⟨q, by simp [Trace.g?, h1, h2], ?_⟩
  rcases h3 with rfl | h3
  ·rw [show t.g? i = some z.g by simp [Trace.g?, h1], h2] at hx
   exact absurd (Option.some.inj hx).symm hne
  ·exact h3
 ·cases fW
end
end Go.Lg
namespace Go.Lg
open Go.Conc
section
variable {B : Base} {th : Nat → Option Th} {ch ch' : au} {cls : Option Nat} {w : World} {n i : Nat} {R R' : aI} {H : au} {t u : Trace}
theorem eS.acp (h : eS B th ch w) {c : Nat} {o o' : Obj} (hc : (c, o) ∈ ch) (hch : ∀ x y, (x, y) ∈ ch' → (x = c ∧ y = o') ∨ (x ≠ c ∧ (x, y) ∈ ch)) : eS B th ch' { w with heap := w.heap.setIfInBounds c o' } := by
 have hlt := gy (h.oc c o hc)
 have ne : ∀ b, b ≠ c → (w.heap.setIfInBounds c o')[b]? = w.heap[b]? := λ b hb => Array.getElem?_setIfInBounds_ne (Ne.symm hb)
 refine ⟨λ j x hx => ?_, h.apart, λ x y hxy => ?_, λ x y hxy j z hz => ?_⟩
 ·have hf := h.fits j x hx
  have ZO := h.ng c o hc j x hx
  refine ⟨λ b v hb => ?_, λ b v hb => ?_, hf.nd, hf.dj, hf.os, hf.tape, hf.out⟩
  ·show (w.heap.setIfInBounds c o')[b]? = _
   rw [ne b (λ e => by subst e; exact nn ZO.1 hb)]; exact hf.r b v hb
  ·show (w.heap.setIfInBounds c o')[b]? = _
   rw [ne b (λ e => by subst e; exact ZO.2 v hb)]; exact hf.h b v hb
 ·show (w.heap.setIfInBounds c o')[x]? = _
  rcases hch x y hxy with ⟨rfl, rfl⟩ | ⟨hne, hm⟩
  ·rw [Array.getElem?_setIfInBounds_self_of_lt hlt]
  ·rw [ne x hne]; exact h.oc x y hm
 ·rcases hch x y hxy with ⟨rfl, rfl⟩ | ⟨_, hm⟩
  ·exact h.ng x o hc j z hz
  ·exact h.ng x y hm j z hz
theorem dI.YA (h : dI th ch cls n t) (hch : ∀ x y, (x, y) ∈ ch' → ∃ y', (x, y') ∈ ch) : dI th ch' cls n t :=
 ⟨h.own, h.read, λ c o hc => (h.dg c _ (hch c o hc).choose_spec), h.low, h.all, h.clean, h.quiet⟩
theorem HO (hu : ∀ op ∈ u, op.act.touch? = none) {k : Nat} {a : Touch} (h : touchAt (t ++ u) k = some a) : touchAt t k = some a := by
 rcases qS h with ⟨_, x⟩ | ⟨op, _, h2, h3⟩
 ·exact x
 ·rw [hu op h2] at h3; cases h3
theorem dI.ax3 (h : dI th ch cls n t) (hu : ∀ op ∈ u, op.act.touch? = none) (hl : ∀ op ∈ u, op.act.low n) (hw : Wordless u) {c : Nat} (hi : th i = some ⟨R, H⟩) (hR : aN R' R) (hc : th c = none) (hk : ∀ k, Kn t i k → Kn (t ++ u) c k) :
  dI (fP th c (some ⟨R', []⟩)) ch cls n (t ++ u) := by
 have hm := h.mute hu hl hw
 refine ⟨λ j y hy b o hb k a hka hab => ?_, λ j y hy b o hb k a hka hab sG => ?_, λ d o hd j y hy k a hka hab => ?_, hm.low, λ k a hka hm' => ?_, hm.clean, hm.quiet⟩
 ·by_cases hj : j = c
  ·subst hj; rw [gB] at hy; cases hy; cases hb
  ·rw [eF hj] at hy; exact hm.own j y hy b o hb k a hka hab
 ·by_cases hj : j = c
  ·subst hj; rw [gB] at hy; cases hy
   exact hk k (h.read i _ hi b o (hR b o hb) k a (HO hu hka) hab sG)
  ·rw [eF hj] at hy; exact hm.read j y hy b o hb k a hka hab sG
 ·by_cases hj : j = c
  ·subst hj; rw [gB] at hy; cases hy
   exact (h.dg d o hd i _ hi k a (HO hu hka) hab).imp id (hk k)
  ·rw [eF hj] at hy; exact hm.dg d o hd j y hy k a hka hab
 ·refine (hm.all k a hka hm').imp (λ ⟨j, y, hy, hkn⟩ => ⟨j, y, ?_, hkn⟩) id
  rw [eF (λ e => by subst e; rw [hc] at hy; cases hy)]; exact hy
theorem dI.ax5 (h : dI th ch cls n t) (hu : ∀ op ∈ u, op.act.touch? = none) (hl : ∀ op ∈ u, op.act.low n) (hw : Wordless u) (hk : ∀ k, Kn t i k → ∃ j y, j ≠ i ∧ th j = some y ∧ Kn (t ++ u) j k) :
  dI (fP th i none) ch cls n (t ++ u) := by
 have hm := h.mute hu hl hw
 have key : ∀ j y, fP th i none j = some y → th j = some y := λ j y hy => by
  by_cases hj : j = i
  ·subst hj; rw [gB] at hy; cases hy
  ·rwa [eF hj] at hy
 refine ⟨λ j y hy => hm.own j y (key j y hy), λ j y hy => hm.read j y (key j y hy), λ c o hc j y hy => hm.dg c o hc j y (key j y hy), hm.low, λ k a hka hm' => ?_, hm.clean, hm.quiet⟩
 rcases h.all k a (HO hu hka) hm' with ⟨j, y, hy, hkn⟩ | x
 ·by_cases hj : j = i
  ·subst hj
   obtain ⟨j', y', h1, h2, h3⟩ := hk k hkn
   exact .inl ⟨j', y', by rw [eF h1]; exact h2, h3⟩
  ·exact .inl ⟨j, y, by rw [eF hj]; exact hy, hkn.app u⟩
 ·exact .inr (Pe x)
theorem dI.aza {x : Th} {c : Nat} {y : MemOp} (h : dI (only x) ch (some c) n t) (hy : y.g = 0) (mI : y.act = .recvClosed c) (hc : c < n) : dI (only x) [] none n (t ++ #[y]) := by
 have hu : ∀ op ∈ #[y], op.act.touch? = none := λ op hop => by simp at hop; subst hop; rw [mI]; rfl
 have hw : Wordless #[y] := λ op hop m hm => by simp at hop; subst hop; rw [mI] at hm; cases hm
 have hm := h.mute hu (λ op hop => by simp at hop; subst hop; rw [mI]; exact hc) hw
 refine ⟨hm.own, hm.read, λ c o hc => (by cases hc), hm.low, λ k a hka hmem => ?_, hm.clean, hm.quiet⟩
 rcases h.all k a (HO hu hka) hmem with ⟨j, z, hz, hkn⟩ | ⟨c', p, h1, h2, h3⟩
 ·exact .inl ⟨j, z, hz, hkn.app _⟩
 ·cases h1
  exact .inl ⟨0, x, rfl, avU hm.quiet h2 hy mI h3⟩
end
section
variable (P : Program) (B : Base) (main : Bool)
def BN (c : Nat) (v : Value) (Next : aI → au → Goroutine → Prop) (z : Value) (R : aI) (H : au) (g : Goroutine) : Prop :=
 g.status = .running ∧ (∀ w, Fits B R H w → stepG P main g w = .comm (core g) #[scase c v z] true .send w #[]) ∧ Next R H (Conc.served (core g) undef)
def AtR (c : Nat) (fl : Bool) (tX : Value → aI → au → Goroutine → Prop) (Nil : aI → au → Goroutine → Prop) (z : Value) (R : aI) (H : au) (g : Goroutine) : Prop :=
 g.status = .running ∧ (∀ w, Fits B R H w → stepG P main g w = .comm (core g) #[rcase c z] true (.recv fl) w #[]) ∧ (∀ v, tX v R H (Conc.served (core g) (recvd fl v true))) ∧ Nil R H (Conc.served (core g) (recvd fl z false))
def Wy (c : Nat) (R : aI) (H : au) (g : Goroutine) : Prop :=
 g.status = .running ∧ mayWake P g = true ∧ ∃ g' n, (∀ w s r tm, Fits B R H w → w.heap[c]? = some (.chan 0 #[] false s r tm) → stepG P false g w = .go g' (w.shut c s r tm) #[⟨.obj c, false, true⟩, ⟨.obj c, true, true⟩]) ∧ QuitsIn P n g'
def WW (c : Nat) (v : Value) (Next : aI → au → Goroutine → Prop) (R : aI) (H : au) (g : Goroutine) : Prop := ∃ g0 z, BN P B main c v Next z R H g0 ∧ g = parked (core g0) #[scase c v z] .send
def OC (c : Nat) (fl : Bool) (tX : Value → aI → au → Goroutine → Prop) (Nil : aI → au → Goroutine → Prop) (R : aI) (H : au) (g : Goroutine) : Prop := ∃ g0 z, AtR P B main c fl tX Nil z R H g0 ∧ g = parked (core g0) #[rcase c z] (.recv fl)
end
section
variable (P : Program) (B : Base) (cf cd : Nat) (bM : aI → au → Goroutine → Prop)
def Lv (_ : aI) (_ : au) (g : Goroutine) : Prop := ∃ n, QuitsIn P n g
def wD (R : aI) (H : au) (g : Goroutine) : Prop := ∃ z, BN P B false cd (.bool true) (Lv P) z R H g
def W2 : aI → au → Goroutine → Prop := Own P B false (wD P B cd)
def wC (v : Value) (R : aI) (H : au) (g : Goroutine) : Prop := ∃ z, BN P B false cf v (W2 P B cd) z R H g
def N4 (CK : aI → au → Goroutine → Prop) (_ : Value) (R : aI) (H : au) (g : Goroutine) : Prop := Own P B false CK R H g
def Tt (_ : aI) (_ : au) (_ : Goroutine) : Prop := True
def CK : Nat → aI → au → Goroutine → Prop
 | 0 => Wy P B cf
 | n + 1 => λ R H g => ∃ z, AtR P B false cd false (N4 P B (CK n)) Tt z R H g
def Je (rem : List Value) (MK : List Value → aI → au → Goroutine → Prop) (v : Value) (R : aI) (H : au) (g : Goroutine) : Prop := ∀ rest, rem.Perm (v :: rest) → Own P B true (MK rest) R H g
def kW : Nat → List Value → aI → au → Goroutine → Prop
 | 0, _ => λ R H g => ∃ z, AtR P B true cf true (λ _ => Tt) bM z R H g
 | n + 1, rem => λ R H g => ∃ z, AtR P B true cf true (Je P B rem (kW n)) Tt z R H g
def o4 : Nat → List Value → aI → au → Goroutine → Prop
 | 0, sp => λ R H g => g.status = .running ∧ ∀ w, Fits B R H w → ∃ g' child, stepG P true g w = .spawn g' child w #[] ∧ Own P B false (CK P B cf cd sp.length) R [] child ∧ Own P B true (kW P B cf bM sp.length sp) R H g'
 | k + 1, sp => λ R H g => g.status = .running ∧ ∀ w, Fits B R H w → ∃ g' child v, stepG P true g w = .spawn g' child w #[] ∧ Own P B false (wC P B cf cd v) R [] child ∧ Own P B true (o4 k (v :: sp)) R H g'
end
inductive Dt : Type 1
 | lv (n : Nat)
 | w1 (v : Value) (m : Ms)
 | w2 (m : Ms)
 | cl (k : Nat) (m : Ms)
 | ms (k : Nat) (sp : List Value) (m : Ms)
 | mr (rem : List Value) (m : Ms)
def Dt.nD : Dt → Ms
 | .lv n => some (A3 n)
 | .w1 _ m | .w2 m | .cl _ m | .ms _ _ m | .mr _ m => m
def Dt.set : Dt → Ms → Dt
 | .lv n, _ => .lv n
 | .w1 v _, m => .w1 v m
 | .w2 _, m => .w2 m
 | .cl k _, m => .cl k m
 | .ms k sp _, m => .ms k sp m
 | .mr rem _, m => .mr rem m
def Dt.dJ : Dt → Nat
 | .lv _ => 0
 | .w1 _ _ => 2
 | .w2 _ => 1
 | .cl k _ => k + 1
 | .ms k sp _ => 3 * k + 2 * (k + sp.length) + 3
 | .mr rem _ => rem.length + 1
def Dt.act : Dt → Nat
 | .w1 _ _ | .w2 _ => 1
 | _ => 0
def Dt.jr : Dt → Option Value
 | .w1 v _ => some v
 | _ => none
def vals (D : Nat → Dt) : Nat → List Value
 | 0 => []
 | n + 1 => match (D n).jr with | some v => v :: vals D n | none => vals D n
def bZ (D : Nat → Dt) (i : Nat) (x : Dt) : Nat → Dt := λ j => if j = i then x else D j
theorem cx (D : Nat → Dt) (i : Nat) (x : Dt) : bZ D i x i = x := by simp [bZ]
theorem bD {D : Nat → Dt} {i j : Nat} {x : Dt} (h : j ≠ i) : bZ D i x j = D j := by simp [bZ, h]
theorem ru (D : Nat → Dt) (n : Nat) : vals D (n + 1) = (D n).jr.toList ++ vals D n := by
 simp only [vals]
 cases (D n).jr <;> rfl
theorem A9 {D D' : Nat → Dt} : ∀ {n : Nat}, (∀ i, i < n → (D' i).jr = (D i).jr) → vals D' n = vals D n
 | 0, _ => rfl
 | n + 1, h => by rw [ru, ru, h n (by omega), A9 (λ i hi => h i (by omega))]
theorem acV {D D' : Nat → Dt} {i : Nat} {v : Value} (hv : (D i).jr = some v) (h0 : (D' i).jr = none) (hne : ∀ j, j ≠ i → (D' j).jr = (D j).jr) : ∀ {n : Nat}, i < n → (vals D n).Perm (v :: vals D' n)
 | n + 1, h => by
  rcases Nat.lt_or_ge i n with hlt | hge
  ·have ih := acV hv h0 hne hlt
   rw [ru, ru, hne n (by omega)]
   cases (D n).jr with
   | none => exact ih
   | some u => exact (List.Perm.cons u ih).trans (List.Perm.swap _ _ _)
  ·obtain rfl : i = n := by omega
   rw [ru, ru, hv, h0, A9 (D := D) (D' := D') λ j hj => hne j (by omega)]
   exact List.Perm.refl _
theorem aAl (d : Dt) : d.jr.toList.length ≤ d.act := by cases d <;> simp [Dt.jr, Dt.act]
theorem U5 {D : Nat → Dt} : ∀ {n : Nat}, (vals D n).length ≤ cI n (λ i => (D i).act)
 | 0 => by simp [vals]
 | n + 1 => by
  have ih := U5 (D := D) (n := n)
  have := aAl (D n)
  rw [ru, List.length_append]
  simp only [cI]
  omega
theorem acU {D : Nat → Dt} : ∀ {n : Nat}, (∀ i m, i < n → D i ≠ .w2 m) → (vals D n).length = cI n (λ i => (D i).act)
 | 0, _ => by simp [vals, cI]
 | n + 1, hw => by
  have ih := acU (D := D) (n := n) λ i m hi => hw i m (by omega)
  have : (D n).jr.toList.length = (D n).act := by
   cases h : D n with
   | w2 m => exact absurd h (hw n m (by omega))
   | _ => simp [Dt.jr, Dt.act]
  rw [ru, List.length_append]
  simp only [cI]
  omega
theorem Xx {D : Nat → Dt} : ∀ {n : Nat}, cI n (λ i => (D i).act) = 0 → ∀ i, i < n → (D i).act = 0
 | n + 1, h, i, hi => by
  simp only [cI] at h
  rcases Nat.lt_or_ge i n with hlt | hge
  ·exact Xx (by omega) i hlt
  ·obtain rfl : i = n := by omega
   omega
section
variable (P : Program) (B : Base) (cf cd : Nat) (bM : aI → au → Goroutine → Prop)
def EN (main : Bool) (K Pk : aI → au → Goroutine → Prop) (m : Ms) (x : Option Th) (g : Goroutine) : Prop :=
 ∃ y : Th, x = some y ∧ ((∃ T, m = some T ∧ wE P B main K T y.R y.H g) ∨ (m = none ∧ Pk y.R y.H g))
def No (_ : aI) (_ : au) (_ : Goroutine) : Prop := False
def PkC : Nat → aI → au → Goroutine → Prop
 | 0 => No
 | n + 1 => OC P B false cd false (N4 P B (CK P B cf cd n)) Tt
def Jg : Nat → List Value → aI → au → Goroutine → Prop
 | 0, _ => OC P B true cf true (λ _ => Tt) bM
 | n + 1, rem => OC P B true cf true (Je P B rem (kW P B cf bM n)) Tt
def ki (i : Nat) : Dt → Option Th → Goroutine → Prop
 | .lv n, x, g => x = none ∧ QuitsIn P n g ∧ 0 < i
 | .w1 v m, x, g => EN P B false (wC P B cf cd v) (WW P B false cf v (W2 P B cd)) m x g ∧ 0 < i
 | .w2 m, x, g => EN P B false (wD P B cd) (WW P B false cd (.bool true) (Lv P)) m x g ∧ 0 < i
 | .cl k m, x, g => EN P B false (CK P B cf cd k) (PkC P B cf cd k) m x g ∧ 0 < i
 | .ms k sp m, x, g => EN P B true (o4 P B cf cd bM k sp) No m x g ∧ i = 0
 | .mr rem m, x, g => EN P B true (kW P B cf bM rem.length rem) (Jg P B cf bM rem.length rem) m x g ∧ i = 0
inductive Ph (cf : Nat) (n : Nat) (D : Nat → Dt) : Bool → Option Nat → Prop
 | kL {k sp m} : D 0 = .ms k sp m → (vals D n).Perm sp → (∀ i k m, D i ≠ .cl k m) → (∀ i m, D i ≠ .w2 m) → Ph cf n D false none
 | iE {rem m ic kc mc} : D 0 = .mr rem m → (vals D n).Perm rem → ic < n → D ic = .cl kc mc → (∀ j k m, D j = .cl k m → j = ic) → kc = cI n (λ i => (D i).act) →
   (m = none → ∀ i v, D i ≠ .w1 v none) → (mc = none → ∀ i, D i ≠ .w2 none) → Ph cf n D false none
 | closed {rem m} : D 0 = .mr rem m → (vals D n).Perm rem → (∀ i k m, D i ≠ .cl k m) → (∀ i, (D i).act = 0) → m ≠ none → Ph cf n D true (some cf)
structure PI (D : Nat → Dt) (th : Nat → Option Th) (cw : Bool) (cls : Option Nat) (s1 s2 : Nat) (bE bR : Bool) (gs : Array Goroutine) (w : World) (t : Trace) : Prop where
 ne : cf ≠ cd
 mem : eS B th [(cf, .chan 0 #[] cw s1 s1 bE), (cd, .chan 0 #[] false s2 s2 bR)] w
 tr : dI th [(cf, .chan 0 #[] cw s1 s1 bE), (cd, .chan 0 #[] false s2 s2 bR)] cls w.heap.size t
 fO : ∀ i g, gs[i]? = some g → ki P B cf cd bM i (D i) (th i) g
 out : ∀ i, gs.size ≤ i → th i = none ∧ D i = .lv 0
 ph : Ph cf gs.size D cw cls
 pos : 0 < gs.size
end
end Go.Lg
namespace Go.Lg
open Go.Conc
def mu (D : Nat → Dt) (n : Nat) : Nat × List Ms := (cI n (λ i => (D i).dJ), (List.range n).map λ i => (D i).nD)
def ud (a b : Nat × List Ms) : Prop := a.1 < b.1 ∨ (a.1 = b.1 ∧ One mZ a.2 b.2)
theorem ud.wf : WellFounded ud := by
 have key : ∀ p, ∀ l, Acc ud (p, l) := by
  intro p
  induction p using Nat.strongRecOn with
  | ind p ihp =>
   intro l
   induction l using One.wf.induction with
   | _ l ihl =>
    refine ⟨_, λ y hy => ?_⟩
    obtain ⟨q, m⟩ := y
    rcases hy with h | ⟨h1, h2⟩
    ·exact ihp q h m
    ·simp only at h1; subst h1; exact ihl m h2
 exact ⟨λ ⟨p, l⟩ => key p l⟩
theorem A1 {D : Nat → Dt} {n i : Nat} {x : Dt} {a b : Ms} (hi : i < n) (hb : (D i).nD = b) (ha : x.nD = a) (hl : mZ a b) (hp : x.dJ = (D i).dJ) : ud (mu (bZ D i x) n) (mu D n) := by
 refine .inr ⟨?_, ?_⟩
 ·show cI n (λ j => (bZ D i x j).dJ) = cI n (λ j => (D j).dJ)
  have := x6 (f := λ j => (D j).dJ) (g := λ j => (bZ D i x j).dJ) hi (λ k hk => by simp only [bD hk])
  simp only [cx] at this
  omega
 ·have e : (List.range n).map (λ j => (bZ D i x j).nD) = ((List.range n).map λ j => (D j).nD).set i a := by
   apply List.ext_getElem?
   intro j
   rw [List.getElem?_set]
   by_cases hj : i = j
   ·subst hj; simp [hi, cx, ha]
   ·simp only [hj, if_false, List.getElem?_map]
    cases hr : (List.range n)[j]? with
    | none => rfl
    | some k =>
     have hk : k = j := by
      have := List.getElem?_eq_some_iff.1 hr
      obtain ⟨_, h2⟩ := this
      simpa using h2.symm
     subst hk
     simp [bD (Ne.symm hj)]
  show One mZ ((List.range n).map _) _
  rw [e]
  exact One.set (by simp [hi, hb]) hl
theorem HA {D : Nat → Dt} {n i j : Nat} {x y : Dt} (hi : i < n) (hj : j < n) (hij : j ≠ i) (hp : x.dJ + y.dJ < (D i).dJ + (D j).dJ) : ud (mu (bZ (bZ D j y) i x) n) (mu D n) := by
 refine .inl ?_
 show cI n (λ k => (bZ (bZ D j y) i x k).dJ) < cI n (λ k => (D k).dJ)
 have h1 := x6 (f := λ k => (bZ D j y k).dJ) (g := λ k => (bZ (bZ D j y) i x k).dJ) hi (λ k hk => by simp only [bD hk])
 have h2 := x6 (f := λ k => (D k).dJ) (g := λ k => (bZ D j y k).dJ) hj (λ k hk => by simp only [bD hk])
 simp only [cx, bD (Ne.symm hij)] at h1 h2
 omega
theorem abM {D : Nat → Dt} {n : Nat} {x y : Dt} (hn : 0 < n) (hp : x.dJ + y.dJ < (D 0).dJ) : ud (mu (bZ (bZ D n y) 0 x) (n + 1)) (mu D n) := by
 refine .inl ?_
 show cI (n + 1) (λ k => (bZ (bZ D n y) 0 x k).dJ) < cI n (λ k => (D k).dJ)
 have h1 := x6 (f := λ k => (D k).dJ) (g := λ k => (bZ D 0 x k).dJ) hn (λ k hk => by simp only [bD hk])
 have h2 : cI n (λ k => (bZ (bZ D n y) 0 x k).dJ) = cI n (λ k => (bZ D 0 x k).dJ) := x5 λ k hk => by
  by_cases h0 : k = 0
  ·subst h0; rw [cx, cx]
  ·rw [bD h0, bD h0, bD (by omega)]
 simp only [cI, h2, bD (show n ≠ 0 by omega), cx] at h1 ⊢
 omega
theorem wE.pW {P : Program} {B : Base} {main : Bool} {K : aI → au → Goroutine → Prop} {T : Tree} {R : aI} {H : au} {g : Goroutine} (h : wE P B main K T R H g) (hs : ∀ R H g, K R H g → g.status = .running) : g.status = .running := by
 induction T generalizing R H g with
 | node ι f ih =>
  rcases h with h | ⟨h, _⟩ | ⟨R', H', i, _, h⟩
  ·exact hs _ _ _ h
  ·exact h
  ·exact ih i h
section
variable {P : Program} {B : Base} {cf cd : Nat} {bM : aI → au → Goroutine → Prop} {main : Bool}
theorem wC.run {v : Value} {R : aI} {H : au} {g : Goroutine} (h : wC P B cf cd v R H g) : g.status = .running := by obtain ⟨_, h⟩ := h; exact h.1
theorem wD.run {R : aI} {H : au} {g : Goroutine} (h : wD P B cd R H g) : g.status = .running := by obtain ⟨_, h⟩ := h; exact h.1
theorem CK.run {k : Nat} {R : aI} {H : au} {g : Goroutine} (h : CK P B cf cd k R H g) : g.status = .running := by
 cases k with
 | zero => exact h.1
 | succ k => obtain ⟨_, h⟩ := h; exact h.1
theorem o4.run {k : Nat} {sp : List Value} {R : aI} {H : au} {g : Goroutine} (h : o4 P B cf cd bM k sp R H g) : g.status = .running := by
 cases k <;> exact h.1
theorem kW.run {k : Nat} {rem : List Value} {R : aI} {H : au} {g : Goroutine} (h : kW P B cf bM k rem R H g) : g.status = .running := by
 cases k <;> (obtain ⟨_, h⟩ := h; exact h.1)
theorem ki.look {i : Nat} {d : Dt} {x : Option Th} {g : Goroutine} (h : ki P B cf cd bM i d x g) :
  (g.status = .running ∧ ∃ T, d.nD = some T) ∨ (g.status = .finished) ∨
  (∃ v g0 z, d = .w1 v none ∧ g = parked (core g0) #[scase cf v z] .send) ∨
  (∃ g0 z, d = .w2 none ∧ g = parked (core g0) #[scase cd (.bool true) z] .send) ∨
  (∃ k g0 z, d = .cl (k + 1) none ∧ g = parked (core g0) #[rcase cd z] (.recv false)) ∨
  (∃ rem g0 z, d = .mr rem none ∧ g = parked (core g0) #[rcase cf z] (.recv true)) := by
 cases d with
 | lv n =>
  obtain ⟨_, h, _⟩ := h
  rcases h.status with h | h
  ·exact .inl ⟨h, _, rfl⟩
  ·exact .inr (.inl h)
 | w1 v m =>
  obtain ⟨⟨y, _, ⟨T, rfl, h⟩ | ⟨rfl, g0, z, _, h⟩⟩, _⟩ := h
  ·exact .inl ⟨h.pW λ _ _ _ => wC.run, _, rfl⟩
  ·exact .inr (.inr (.inl ⟨v, g0, z, rfl, h⟩))
 | w2 m =>
  obtain ⟨⟨y, _, ⟨T, rfl, h⟩ | ⟨rfl, g0, z, _, h⟩⟩, _⟩ := h
  ·exact .inl ⟨h.pW λ _ _ _ => wD.run, _, rfl⟩
  ·exact .inr (.inr (.inr (.inl ⟨g0, z, rfl, h⟩)))
 | cl k m =>
  obtain ⟨⟨y, _, ⟨T, rfl, h⟩ | ⟨rfl, h⟩⟩, _⟩ := h
  ·exact .inl ⟨h.pW λ _ _ _ => CK.run, _, rfl⟩
  ·cases k with
   | zero => exact h.elim
   | succ k => obtain ⟨g0, z, _, h⟩ := h; exact .inr (.inr (.inr (.inr (.inl ⟨k, g0, z, rfl, h⟩))))
 | ms k sp m =>
  obtain ⟨⟨y, _, ⟨T, rfl, h⟩ | ⟨rfl, h⟩⟩, _⟩ := h
  ·exact .inl ⟨h.pW λ _ _ _ => o4.run, _, rfl⟩
  ·exact h.elim
 | mr rem m =>
  obtain ⟨⟨y, _, ⟨T, rfl, h⟩ | ⟨rfl, h⟩⟩, _⟩ := h
  ·exact .inl ⟨h.pW λ _ _ _ => kW.run, _, rfl⟩
  ·have : ∃ g0 z, g = parked (core g0) #[rcase cf z] (.recv true) := by
    generalize rem.length = k at h
    cases k <;> (obtain ⟨g0, z, _, h⟩ := h; exact ⟨g0, z, h⟩)
   obtain ⟨g0, z, h⟩ := this
   exact .inr (.inr (.inr (.inr (.inr ⟨rem, g0, z, rfl, h⟩))))
theorem ki.offers {i : Nat} {d : Dt} {x : Option Th} {g : Goroutine} (h : ki P B cf cd bM i d x g) (_ : cf ≠ cd) {c : Nat} {send : Bool} {k : Nat} (hk : k ∈ offersAt g c send) :
  k = 0 ∧ ((c = cf ∧ send = true ∧ ∃ v g0 z, d = .w1 v none ∧ g = parked (core g0) #[scase cf v z] .send) ∨
  (c = cd ∧ send = true ∧ ∃ g0 z, d = .w2 none ∧ g = parked (core g0) #[scase cd (.bool true) z] .send) ∨
  (c = cd ∧ send = false ∧ ∃ k g0 z, d = .cl (k + 1) none ∧ g = parked (core g0) #[rcase cd z] (.recv false)) ∨
  (c = cf ∧ send = false ∧ ∃ rem g0 z, d = .mr rem none ∧ g = parked (core g0) #[rcase cf z] (.recv true))) := by
 rcases h.look with ⟨h, _⟩ | h | ⟨v, g0, z, h1, h2⟩ | ⟨g0, z, h1, h2⟩ | ⟨k', g0, z, h1, h2⟩ | ⟨rem, g0, z, h1, h2⟩
 ·rw [offersAt_of_not_blocked (by rw [h]; intro e; cases e)] at hk; cases hk
 ·rw [offersAt_of_not_blocked (by rw [h]; intro e; cases e)] at hk; cases hk
 all_goals (subst h2; cases send)
 ·rw [offersAt_parked_send'] at hk; cases hk
 ·rw [offersAt_parked_send] at hk
  split at hk
  ·simp at hk; rename_i e; exact ⟨hk, .inl ⟨e.symm, rfl, v, g0, z, h1, rfl⟩⟩
  ·cases hk
 ·rw [offersAt_parked_send'] at hk; cases hk
 ·rw [offersAt_parked_send] at hk
  split at hk
  ·simp at hk; rename_i e; exact ⟨hk, .inr (.inl ⟨e.symm, rfl, g0, z, h1, rfl⟩)⟩
  ·cases hk
 ·rw [offersAt_parked_recv] at hk
  split at hk
  ·simp at hk; rename_i e; exact ⟨hk, .inr (.inr (.inl ⟨e.symm, rfl, k', g0, z, h1, rfl⟩))⟩
  ·cases hk
 ·rw [offersAt_parked_recv'] at hk; cases hk
 ·rw [offersAt_parked_recv] at hk
  split at hk
  ·simp at hk; rename_i e; exact ⟨hk, .inr (.inr (.inr ⟨e.symm, rfl, rem, g0, z, h1, rfl⟩))⟩
  ·cases hk
 ·rw [offersAt_parked_recv'] at hk; cases hk
theorem ki.awake {i : Nat} {d : Dt} {x : Option Th} {g : Goroutine} (h : ki P B cf cd bM i d x g) : awake g := by
 rcases h.look with ⟨h, _⟩ | h | ⟨v, g0, z, h1, rfl⟩ | ⟨g0, z, h1, rfl⟩ | ⟨k', g0, z, h1, rfl⟩ | ⟨rem, g0, z, h1, rfl⟩
 ·exact awake_of (.inl h)
 ·exact awake_of (.inr (.inr h))
 all_goals exact awake_of (.inr (.inl rfl))
theorem ki.again {i : Nat} {d : Dt} {x : Option Th} {g a a' : Goroutine} {w : World} {s1 s2 : Nat} {bE bR : Bool} (h : ki P B cf cd bM i d x g) (h2 : w.heap[cd]? = some (.chan 0 #[] false s2 s2 bR))
  (h1 : w.heap[cf]? = some (.chan 0 #[] false s1 s1 bE) ∨ ((∀ v, d ≠ .w1 v none) ∧ ∀ rem, d ≠ .mr rem none)) : woken P a a' w g = g := by
 unfold woken
 split
 ·rcases h.look with ⟨h, _⟩ | h | ⟨v, g0, z, e, rfl⟩ | ⟨g0, z, e, rfl⟩ | ⟨k', g0, z, e, rfl⟩ | ⟨rem, g0, z, e, rfl⟩
  ·exact again_running _ (.inl h)
  ·exact again_running _ (.inr h)
  ·rcases h1 with h1 | h1
   ·exact again_parked_open rfl h1
   ·exact absurd e (h1.1 v)
  ·exact again_parked_open rfl h2
  ·exact again_parked_open rfl h2
  ·rcases h1 with h1 | h1
   ·exact again_parked_open rfl h1
   ·exact absurd e (h1.2 rem)
 ·rfl
end
end Go.Lg
namespace Go.Lg
open Go.Conc
def Q (d d' : Dt) : Prop := d' = d ∨ (∃ n n', d = .lv n ∧ d' = .lv n') ∨ (∃ T, d' = d.set (some T))
theorem Q.jr {d d' : Dt} (h : Q d d') : d'.jr = d.jr := by
 rcases h with rfl | ⟨n, n', rfl, rfl⟩ | ⟨T, rfl⟩
 ·rfl
 ·rfl
 ·cases d <;> rfl
theorem Q.act {d d' : Dt} (h : Q d d') : d'.act = d.act := by
 rcases h with rfl | ⟨n, n', rfl, rfl⟩ | ⟨T, rfl⟩
 ·rfl
 ·rfl
 ·cases d <;> rfl
theorem Q.cl {d d' : Dt} (h : Q d d') {k : Nat} {m' : Ms} (e : d' = .cl k m') : ∃ m, d = .cl k m := by
 rcases h with rfl | ⟨n, n', rfl, rfl⟩ | ⟨T, rfl⟩
 ·exact ⟨_, e⟩
 ·cases e
 ·cases d <;> simp [Dt.set] at e
  exact ⟨_, by rw [e.1]⟩
theorem Q.cl' {d d' : Dt} (h : Q d d') {k : Nat} {m : Ms} (e : d = .cl k m) : ∃ m', d' = .cl k m' ∧ (m' = m ∨ m' ≠ none) := by
 subst e
 rcases h with rfl | ⟨n, n', h1, h2⟩ | ⟨T, rfl⟩
 ·exact ⟨_, rfl, .inl rfl⟩
 ·cases h1
 ·exact ⟨_, rfl, .inr (by simp)⟩
theorem Q.ms' {d d' : Dt} (h : Q d d') {k : Nat} {sp : List Value} {m : Ms} (e : d = .ms k sp m) : ∃ m', d' = .ms k sp m' := by
 subst e
 rcases h with rfl | ⟨n, n', h1, h2⟩ | ⟨T, rfl⟩
 ·exact ⟨_, rfl⟩
 ·cases h1
 ·exact ⟨_, rfl⟩
theorem Q.mr' {d d' : Dt} (h : Q d d') {rem : List Value} {m : Ms} (e : d = .mr rem m) : ∃ m', d' = .mr rem m' ∧ (m' = m ∨ m' ≠ none) := by
 subst e
 rcases h with rfl | ⟨n, n', h1, h2⟩ | ⟨T, rfl⟩
 ·exact ⟨_, rfl, .inl rfl⟩
 ·cases h1
 ·exact ⟨_, rfl, .inr (by simp)⟩
theorem Q.w1 {d d' : Dt} (h : Q d d') {v : Value} (e : d' = .w1 v none) : d = .w1 v none := by
 rcases h with rfl | ⟨n, n', rfl, rfl⟩ | ⟨T, rfl⟩
 ·exact e
 ·cases e
 ·cases d <;> simp [Dt.set] at e
theorem Q.w2 {d d' : Dt} (h : Q d d') (e : d' = .w2 none) : d = .w2 none := by
 rcases h with rfl | ⟨n, n', rfl, rfl⟩ | ⟨T, rfl⟩
 ·exact e
 ·cases e
 ·cases d <;> simp [Dt.set] at e
theorem Q.w2' {d d' : Dt} (h : Q d d') {m : Ms} (e : d' = .w2 m) : ∃ m, d = .w2 m := by
 rcases h with rfl | ⟨n, n', rfl, rfl⟩ | ⟨T, rfl⟩
 ·exact ⟨_, e⟩
 ·cases e
 ·cases d <;> simp [Dt.set] at e
  exact ⟨_, rfl⟩
theorem Q.upd {D : Nat → Dt} {i : Nat} {x : Dt} (h : Q (D i) x) (j : Nat) : Q (D j) (bZ D i x j) := by
 by_cases hj : j = i
 ·subst hj; rw [cx]; exact h
 ·rw [bD hj]; exact .inl rfl
theorem Ph.q {cf n : Nat} {D D' : Nat → Dt} {cw : Bool} {cls : Option Nat} (h : Ph cf n D cw cls) (hq : ∀ j, Q (D j) (D' j)) : Ph cf n D' cw cls := by
 have hv : vals D' n = vals D n := A9 λ i _ => (hq i).jr
 have ha : cI n (λ i => (D' i).act) = cI n (λ i => (D i).act) := x5 λ i _ => (hq i).act
 cases h with
 | kL h0 hp hc hw =>
  obtain ⟨m', ni⟩ := (hq 0).ms' h0
  exact .kL ni (hv ▸ hp) (λ i k m e => let ⟨_, e'⟩ := (hq i).cl e; hc i k _ e') (λ i m e => let ⟨_, e'⟩ := (hq i).w2' e; hw i _ e')
 | @iE rem m ic kc mc h0 hp hic hdc hun hk hw1 nw =>
  obtain ⟨m', ni, hm'⟩ := (hq 0).mr' h0
  obtain ⟨mc', amm, aoB⟩ := (hq ic).cl' hdc
  refine .iE ni (hv ▸ hp) hic amm (λ j k m e => let ⟨_, e'⟩ := (hq j).cl e; hun j k _ e') (by rw [ha]; exact hk) (λ e i v e' => ?_) (λ e i e' => ?_)
  ·rcases hm' with x | x
   ·exact hw1 (x ▸ e) i v ((hq i).w1 e')
   ·exact x e
  ·rcases aoB with x | x
   ·exact nw (x ▸ e) i ((hq i).w2 e')
   ·exact x e
 | closed h0 hp hc hac hm =>
  obtain ⟨m', ni, hm'⟩ := (hq 0).mr' h0
  refine .closed ni (hv ▸ hp) (λ i k m e => let ⟨_, e'⟩ := (hq i).cl e; hc i k _ e') (λ i => by rw [(hq i).act]; exact hac i) ?_
  rcases hm' with x | x
  ·rw [x]; exact hm
  ·exact x
section
variable {P : Program} {B : Base} {cf cd : Nat} {bM : aI → au → Goroutine → Prop} {D : Nat → Dt} {th : Nat → Option Th} {cw : Bool} {cls : Option Nat} {s1 s2 : Nat} {bE bR : Bool} {gs : Array Goroutine} {w : World} {sl : Option (Nat × Nat)} {t : Trace}
theorem PI.at (h : PI P B cf cd bM D th cw cls s1 s2 bE bR gs w t) (d : Nat) : PI P B cf cd bM D th cw cls s1 s2 bE bR gs (w.at d) t :=
 ⟨h.ne, h.mem.at d, h.tr, h.fO, h.out, h.ph, h.pos⟩
theorem PI.j8 (h : PI P B cf cd bM D th cw cls s1 s2 bE bR gs w t) : w.heap[cf]? = some (.chan 0 #[] cw s1 s1 bE) := h.mem.oc _ _ (by simp)
theorem PI.hcd (h : PI P B cf cd bM D th cw cls s1 s2 bE bR gs w t) : w.heap[cd]? = some (.chan 0 #[] false s2 s2 bR) := h.mem.oc _ _ (by simp)
theorem PI.ax8 (h : PI P B cf cd bM D th cw cls s1 s2 bE bR gs w t) {j : Nat} {x : Goroutine} (hj : gs[j]? = some x) : cw = false ∨ ((∀ v, D j ≠ .w1 v none) ∧ ∀ rem, D j ≠ .mr rem none) := by
 have hs := h.fO j x hj
 cases h.ph with
 | kL => exact .inl rfl
 | iE => exact .inl rfl
 | closed h0 hp hc hac hm =>
  refine .inr ⟨λ v e => ?_, λ rem e => ?_⟩
  ·have := hac j; rw [e] at this; cases this
  ·rw [e] at hs
   have : j = 0 := hs.2
   subst this
   rw [h0] at e; cases e; exact hm rfl
theorem PI.again (h : PI P B cf cd bM D th cw cls s1 s2 bE bR gs w t) {iU : Nat → Option Th} {w' : World} (hm : eS B iU [(cf, .chan 0 #[] cw s1 s1 bE), (cd, .chan 0 #[] false s2 s2 bR)] w')
  {j : Nat} {x a a' : Goroutine} (hj : gs[j]? = some x) : woken P a a' w' x = x := by
 refine (h.fO j x hj).again (hm.oc _ _ (by simp)) ?_ (s1 := s1) (s2 := s2) (bE := bE) (bR := bR)
 rcases h.ax8 hj with e | e
 ·subst e; exact .inl (hm.oc _ _ (by simp))
 ·exact .inr e
theorem pI {gs : Array Goroutine} {i : Nat} {g : Goroutine} (h : gs[i]? = some g) : i < gs.size := (Array.getElem?_eq_some_iff.1 h).1
theorem PI.one (h : PI P B cf cd bM D th cw cls s1 s2 bE bR gs w t) {i : Nat} (hi : i < gs.size) {gs' : Array Goroutine} {g' : Goroutine} {w' : World} {t' : Trace} {iU : Nat → Option Th} {x : Dt} {gL : Bool} {cls' : Option Nat} {s1' s2' : Nat}
  (hz : gs'.size = gs.size) (hg : gs'[i]? = some g') (ho : ∀ j, j ≠ i → gs'[j]? = gs[j]?)
  (hm : eS B iU [(cf, .chan 0 #[] gL s1' s1' bE), (cd, .chan 0 #[] false s2' s2' bR)] w') (ht : dI iU [(cf, .chan 0 #[] gL s1' s1' bE), (cd, .chan 0 #[] false s2' s2' bR)] cls' w'.heap.size t')
  (uP : ∀ j, j ≠ i → iU j = th j) (hs : ki P B cf cd bM i x (iU i) g') (xe : Ph cf gs.size (bZ D i x) gL cls') :
  PI P B cf cd bM (bZ D i x) iU gL cls' s1' s2' bE bR gs' w' t' := by
 refine ⟨h.ne, hm, ht, λ j y hj => ?_, λ j hj => ?_, hz ▸ xe, hz ▸ h.pos⟩
 ·by_cases hji : j = i
  ·subst hji
   rw [hg] at hj; cases hj
   rw [cx]; exact hs
  ·rw [ho j hji] at hj
   rw [bD hji, uP j hji]; exact h.fO j y hj
 ·have hji : j ≠ i := by omega
  rw [bD hji, uP j hji]; exact h.out j (by omega)
theorem PI.two (h : PI P B cf cd bM D th cw cls s1 s2 bE bR gs w t) {i j : Nat} (hi : i < gs.size) (hj : j < gs.size) (hij : j ≠ i) {gi gj : Goroutine} {w' : World} {t' : Trace} {iU : Nat → Option Th} {x y : Dt} {gL : Bool} {cls' : Option Nat} {s1' s2' : Nat}
  (hm : eS B iU [(cf, .chan 0 #[] gL s1' s1' bE), (cd, .chan 0 #[] false s2' s2' bR)] w') (ht : dI iU [(cf, .chan 0 #[] gL s1' s1' bE), (cd, .chan 0 #[] false s2' s2' bR)] cls' w'.heap.size t')
  (uP : ∀ k, k ≠ i → k ≠ j → iU k = th k) (hsi : ki P B cf cd bM i x (iU i) gi) (hsj : ki P B cf cd bM j y (iU j) gj) (xe : Ph cf gs.size (bZ (bZ D j y) i x) gL cls') :
  PI P B cf cd bM (bZ (bZ D j y) i x) iU gL cls' s1' s2' bE bR ((gs.setIfInBounds j gj).setIfInBounds i gi) w' t' := by
 refine ⟨h.ne, hm, ht, λ k z hk => ?_, λ k hk => ?_, by simpa using xe, by simpa using h.pos⟩
 ·by_cases hki : k = i
  ·subst hki
   rw [Array.getElem?_setIfInBounds_self_of_lt (by simpa using hi)] at hk; cases hk
   rw [cx]; exact hsi
  ·rw [Array.getElem?_setIfInBounds_ne (Ne.symm hki)] at hk
   rw [bD hki]
   by_cases hkj : k = j
   ·subst hkj
    rw [Array.getElem?_setIfInBounds_self_of_lt hj] at hk; cases hk
    rw [cx]; exact hsj
   ·rw [Array.getElem?_setIfInBounds_ne (Ne.symm hkj)] at hk
    rw [bD hkj, uP k hki hkj]; exact h.fO k z hk
 ·have hk' : gs.size ≤ k := by simpa using hk
  rw [bD (by omega), bD (by omega), uP k (by omega) (by omega)]; exact h.out k hk'
theorem PI.own (h : PI P B cf cd bM D th cw cls s1 s2 bE bR gs w t) {i : Nat} {g g' : Goroutine} {R R' : aI} {H H' : au} {w' : World} {es : Array Event} {T : Tree} (hi : gs[i]? = some g) (uP : th i = some ⟨R, H⟩)
  (hst : stepG P (i == 0) g w = .go g' w' es) (hes : ∀ e ∈ es, gf R H w.heap.size w'.heap.size e) (hu : dF B R H w R' H' w') (hs : ki P B cf cd bM i ((D i).set (some T)) (some ⟨R', H'⟩) g') :
  ∃ gs' ops, runT P (crowd gs w sl) i = (.next (crowd gs' w' sl), ops) ∧ gs'.size = gs.size ∧ PI P B cf cd bM (bZ D i ((D i).set (some T))) (fP th i (some ⟨R', H'⟩)) cw cls s1 s2 bE bR gs' w' (t ++ ops) := by
 obtain ⟨hm, ht⟩ := Lz h.mem h.tr uP hes hu g.frame.fn g.frame.place
 have hlt := pI hi
 refine ⟨_, _, runT_crowd_go (sl := sl) hi hst, by simp, h.one hlt (by simp) (Array.getElem?_setIfInBounds_self_of_lt (by simpa using hlt)) (λ j hj => ?_) hm ht (λ j hj => eF hj) (by rw [gB]; exact hs) (h.ph.q λ j => Q.upd (.inr (.inr ⟨T, rfl⟩)) j)⟩
 rw [Array.getElem?_setIfInBounds_ne (Ne.symm hj), Array.getElem?_map]
 cases mw : gs[j]? with
 | none => rfl
 | some x => rw [Option.map_some, h.again hm mw]
theorem PI.quit (h : PI P B cf cd bM D th cw cls s1 s2 bE bR gs w t) {i n : Nat} {g g' : Goroutine} (hi : gs[i]? = some g) (hd : D i = .lv (n + 1)) (hst : ∀ w, stepG P false g w = .go g' w #[]) (hq : QuitsIn P n g') :
  ∃ gs', runT P (crowd gs w sl) i = (.next (crowd gs' w sl), #[]) ∧ gs'.size = gs.size ∧ PI P B cf cd bM (bZ D i (.lv n)) th cw cls s1 s2 bE bR gs' w t := by
 have hlt := pI hi
 have hs := h.fO i g hi
 rw [hd] at hs
 obtain ⟨hn, _, hpos⟩ := hs
 have kD : (i == 0) = false := by simp; omega
 have hrun := runT_crowd_go (P := P) (sl := sl) (w := w) hi (by rw [kD]; exact hst w)
 rw [ofEvents_none] at hrun
 refine ⟨_, hrun, by simp, h.one hlt (by simp) (Array.getElem?_setIfInBounds_self_of_lt (by simpa using hlt)) (λ j hj => ?_) h.mem h.tr (λ j hj => rfl) ⟨hn, hq, hpos⟩ (h.ph.q λ j => Q.upd (.inr (.inl ⟨_, _, hd, rfl⟩)) j)⟩
 rw [Array.getElem?_setIfInBounds_ne (Ne.symm hj), Array.getElem?_map]
 cases mw : gs[j]? with
 | none => rfl
 | some x => rw [Option.map_some, h.again h.mem mw]
theorem PI.part (h : PI P B cf cd bM D th cw cls s1 s2 bE bR gs w t) {i c j k : Nat} {send : Bool} (hp : (j, k) ∈ partners (gs.setIfInBounds i Go.Conc.ph) c send) :
  j ≠ i ∧ k = 0 ∧ ∃ x, gs[j]? = some x ∧ ((c = cf ∧ send = true ∧ ∃ v g0 z, D j = .w1 v none ∧ x = parked (core g0) #[scase cf v z] .send) ∨
  (c = cd ∧ send = true ∧ ∃ g0 z, D j = .w2 none ∧ x = parked (core g0) #[scase cd (.bool true) z] .send) ∨
  (c = cd ∧ send = false ∧ ∃ k g0 z, D j = .cl (k + 1) none ∧ x = parked (core g0) #[rcase cd z] (.recv false)) ∨
  (c = cf ∧ send = false ∧ ∃ rem g0 z, D j = .mr rem none ∧ x = parked (core g0) #[rcase cf z] (.recv true))) := by
 obtain ⟨x, hx, hk⟩ := mem_partners.1 hp
 rcases getElem?_stand gs i j x hx with ⟨_, rfl⟩ | ⟨hji, hx⟩
 ·rw [offersAt_ph] at hk; cases hk
 ·obtain ⟨h0, hh⟩ := (h.fO j x hx).offers h.ne hk
  exact ⟨hji, h0, x, hx, hh⟩
theorem Uq {a b c s cap n : Nat} {f1 f2 : FuncId} {p1 p2 : String} (hc : c < n) :
  (∀ op ∈ (#[⟨a, f1, p1, .send c s⟩, ⟨b, f2, p2, .recv c s cap⟩, ⟨a, f1, p1, .sendDone c s⟩, ⟨b, f2, p2, .recvDone c s⟩] : Trace), op.act.touch? = none) ∧
  (∀ op ∈ (#[⟨a, f1, p1, .send c s⟩, ⟨b, f2, p2, .recv c s cap⟩, ⟨a, f1, p1, .sendDone c s⟩, ⟨b, f2, p2, .recvDone c s⟩] : Trace), op.act.low n) ∧
  Wordless (#[⟨a, f1, p1, .send c s⟩, ⟨b, f2, p2, .recv c s cap⟩, ⟨a, f1, p1, .sendDone c s⟩, ⟨b, f2, p2, .recvDone c s⟩] : Trace) := by
 refine ⟨λ op hop => ?_, λ op hop => ?_, λ op hop m hm => ?_⟩
 all_goals (simp only [List.mem_toArray, List.mem_cons, List.not_mem_nil, or_false] at hop)
 ·rcases hop with rfl | rfl | rfl | rfl <;> rfl
 ·rcases hop with rfl | rfl | rfl | rfl <;> exact hc
 ·rcases hop with rfl | rfl | rfl | rfl <;> cases hm
theorem eS.UN {s1' : Nat} (hne : cf ≠ cd) (h : eS B th [(cf, .chan 0 #[] cw s1 s1 bE), (cd, .chan 0 #[] false s2 s2 bR)] w) (gL : Bool) :
  eS B th [(cf, .chan 0 #[] gL s1' s1' bE), (cd, .chan 0 #[] false s2 s2 bR)] { w with heap := w.heap.setIfInBounds cf (.chan 0 #[] gL s1' s1' bE) } :=
 h.acp (c := cf) (o := .chan 0 #[] cw s1 s1 bE) (by simp) λ x y hxy => by
  simp only [List.mem_cons, List.not_mem_nil, or_false, Prod.mk.injEq] at hxy ⊢
  rcases hxy with ⟨rfl, rfl⟩ | ⟨rfl, rfl⟩
  ·exact .inl ⟨rfl, rfl⟩
  ·exact .inr ⟨Ne.symm hne, .inr ⟨rfl, rfl⟩⟩
theorem eS.azv {s2' : Nat} (hne : cf ≠ cd) (h : eS B th [(cf, .chan 0 #[] cw s1 s1 bE), (cd, .chan 0 #[] false s2 s2 bR)] w) :
  eS B th [(cf, .chan 0 #[] cw s1 s1 bE), (cd, .chan 0 #[] false s2' s2' bR)] { w with heap := w.heap.setIfInBounds cd (.chan 0 #[] false s2' s2' bR) } :=
 h.acp (c := cd) (o := .chan 0 #[] false s2 s2 bR) (by simp) λ x y hxy => by
  simp only [List.mem_cons, List.not_mem_nil, or_false, Prod.mk.injEq] at hxy ⊢
  rcases hxy with ⟨rfl, rfl⟩ | ⟨rfl, rfl⟩
  ·exact .inr ⟨hne, .inl ⟨rfl, rfl⟩⟩
  ·exact .inl ⟨rfl, rfl⟩
theorem dI.JN {n s1' s2' : Nat} {gL : Bool} (h : dI th [(cf, .chan 0 #[] cw s1 s1 bE), (cd, .chan 0 #[] false s2 s2 bR)] cls n t) : dI th [(cf, .chan 0 #[] gL s1' s1' bE), (cd, .chan 0 #[] false s2' s2' bR)] cls n t :=
 h.YA λ x y hxy => by
  simp only [List.mem_cons, List.not_mem_nil, or_false, Prod.mk.injEq] at hxy
  rcases hxy with ⟨rfl, rfl⟩ | ⟨rfl, rfl⟩
  ·exact ⟨_, by simp; exact .inl rfl⟩
  ·exact ⟨_, List.mem_cons_of_mem _ (List.mem_singleton.2 rfl)⟩
end
end Go.Lg
namespace Go.Lg
open Go.Conc
theorem vn {a b : Goroutine} {cs cs' : Array CommCase} {sh sh' : CommShape} (h : parked a cs sh = parked b cs' sh') : cs = cs' ∧ sh = sh' ∧ ∀ v, Conc.served a v = Conc.served b v := by
 obtain ⟨f, c, s, d, o⟩ := a
 obtain ⟨f', c', s', d', o'⟩ := b
 simp only [parked, Goroutine.mk.injEq, Option.some.injEq, Prod.mk.injEq] at h
 obtain ⟨rfl, rfl, _, rfl, rfl, rfl⟩ := h
 exact ⟨rfl, rfl, λ _ => rfl⟩
section
variable {P : Program} {B : Base} {cf cd : Nat} {bM : aI → au → Goroutine → Prop} {D : Nat → Dt} {th : Nat → Option Th} {cw : Bool} {cls : Option Nat} {s1 s2 : Nat} {bE bR : Bool} {gs : Array Goroutine} {w : World} {sl : Option (Nat × Nat)} {t : Trace}
def Nx (P : Program) (B : Base) (cf cd : Nat) (bM : aI → au → Goroutine → Prop) (D : Nat → Dt) (bE bR : Bool) (gs : Array Goroutine) (w : World) (sl : Option (Nat × Nat)) (t : Trace) (i : Nat) : Prop :=
 ∃ gs' w' ops D' iU gL cls' s1' s2', runT P (crowd gs w sl) i = (.next (crowd gs' w' sl), ops) ∧ ud (mu D' gs'.size) (mu D gs.size) ∧ PI P B cf cd bM D' iU gL cls' s1' s2' bE bR gs' w' (t ++ ops)
theorem PI.A4 (h : PI P B cf cd bM D th cw cls s1 s2 bE bR gs w t) {i : Nat} (ha : 0 < (D i).act ∨ (∃ k m, D i = .cl k m) ∨ (∃ k sp m, D i = .ms k sp m) ∧ i = 0) : cw = false ∧ cls = none := by
 cases h.ph with
 | kL => exact ⟨rfl, rfl⟩
 | iE => exact ⟨rfl, rfl⟩
 | closed h0 hp hc hac hm =>
  rcases ha with ha | ⟨k, m, e⟩ | ⟨⟨k, sp, m, e⟩, rfl⟩
  ·rw [hac i] at ha; cases ha
  ·exact absurd e (hc i k m)
  ·rw [h0] at e; cases e
theorem PI.there (h : PI P B cf cd bM D th cw cls s1 s2 bE bR gs w t) {i : Nat} (hd : ∀ n, D i ≠ .lv n) : ∃ g, gs[i]? = some g := by
 rcases Nat.lt_or_ge i gs.size with hlt | hge
 ·exact ⟨_, Array.getElem?_eq_getElem hlt⟩
 ·exact absurd (h.out i hge).2 (hd 0)
theorem PI.ab7 (h : PI P B cf cd bM D th cw cls s1 s2 bE bR gs w t) {i : Nat} {rem : List Value} (hd : D i = .mr rem none) :
  i = 0 ∧ ∃ g0 z y, gs[0]? = some (parked (core g0) #[rcase cf z] (.recv true)) ∧ th 0 = some y ∧ Jg P B cf bM rem.length rem y.R y.H (parked (core g0) #[rcase cf z] (.recv true)) := by
 obtain ⟨g, hg⟩ := h.there (i := i) (by rw [hd]; intro n e; cases e)
 have hs := h.fO i g hg
 have hl := hs.look
 rw [hd] at hs hl
 obtain ⟨⟨y, hy, ⟨T, e, _⟩ | ⟨_, hp⟩⟩, rfl⟩ := hs
 ·cases e
 rcases hl with ⟨_, T, e⟩ | e | ⟨v, g0, z, e, _⟩ | ⟨g0, z, e, _⟩ | ⟨k, g0, z, e, _⟩ | ⟨mL, g0, z, e, rfl⟩
 ·cases e
 ·exfalso
  have : g.status = .blocked := by
   generalize rem.length = k at hp
   cases k <;> (obtain ⟨g0, z, _, rfl⟩ := hp; rfl)
  rw [this] at e; cases e
 ·cases e
 ·cases e
 ·cases e
 ·exact ⟨rfl, g0, z, y, hg, hy, hp⟩
theorem PI.UD (h : PI P B cf cd bM D th cw cls s1 s2 bE bR gs w t) {i k : Nat} (hd : D i = .cl k none) :
  ∃ k', k = k' + 1 ∧ 0 < i ∧ ∃ g0 z y, gs[i]? = some (parked (core g0) #[rcase cd z] (.recv false)) ∧ th i = some y ∧ AtR P B false cd false (N4 P B (CK P B cf cd k')) Tt z y.R y.H g0 := by
 obtain ⟨g, hg⟩ := h.there (i := i) (by rw [hd]; intro n e; cases e)
 have hs := h.fO i g hg
 rw [hd] at hs
 obtain ⟨⟨y, hy, ⟨T, e, _⟩ | ⟨_, hp⟩⟩, hpos⟩ := hs
 ·cases e
 cases k with
 | zero => exact hp.elim
 | succ k => obtain ⟨g0, z, ha, rfl⟩ := hp; exact ⟨k, rfl, hpos, g0, z, y, hg, hy, ha⟩
theorem PI.ab8 (h : PI P B cf cd bM D th cw cls s1 s2 bE bR gs w t) {i : Nat} {v : Value} (hd : D i = .w1 v none) :
  0 < i ∧ ∃ g0 z y, gs[i]? = some (parked (core g0) #[scase cf v z] .send) ∧ th i = some y ∧ BN P B false cf v (W2 P B cd) z y.R y.H g0 := by
 obtain ⟨g, hg⟩ := h.there (i := i) (by rw [hd]; intro n e; cases e)
 have hs := h.fO i g hg
 rw [hd] at hs
 obtain ⟨⟨y, hy, ⟨T, e, _⟩ | ⟨_, g0, z, ha, rfl⟩⟩, hpos⟩ := hs
 ·cases e
 exact ⟨hpos, g0, z, y, hg, hy, ha⟩
theorem PI.ab9 (h : PI P B cf cd bM D th cw cls s1 s2 bE bR gs w t) {i : Nat} (hd : D i = .w2 none) :
  0 < i ∧ ∃ g0 z y, gs[i]? = some (parked (core g0) #[scase cd (.bool true) z] .send) ∧ th i = some y ∧ BN P B false cd (.bool true) (Lv P) z y.R y.H g0 := by
 obtain ⟨g, hg⟩ := h.there (i := i) (by rw [hd]; intro n e; cases e)
 have hs := h.fO i g hg
 rw [hd] at hs
 obtain ⟨⟨y, hy, ⟨T, e, _⟩ | ⟨_, g0, z, ha, rfl⟩⟩, hpos⟩ := hs
 ·cases e
 exact ⟨hpos, g0, z, y, hg, hy, ha⟩
theorem Lm {i j c : Nat} {x : Goroutine} {send : Bool} (hj : gs[j]? = some x) (hji : j ≠ i) (hk : 0 ∈ offersAt x c send) : partners (gs.setIfInBounds i Go.Conc.ph) c send ≠ [] := by
 intro e
 have : (j, 0) ∈ partners (gs.setIfInBounds i Go.Conc.ph) c send := mem_partners.2 ⟨x, stand_get hji hj, hk⟩
 rw [e] at this; cases this
theorem tn {n i : Nat} {x : Dt} (hx : x.jr = (D i).jr) : vals (bZ D i x) n = vals D n := A9 λ j _ => by
 by_cases hj : j = i
 ·subst hj; rw [cx, hx]
 ·rw [bD hj]
theorem uf {n i : Nat} {x : Dt} (hx : x.act = (D i).act) : cI n (λ j => (bZ D i x j).act) = cI n (λ j => (D j).act) := x5 λ j _ => by
 by_cases hj : j = i
 ·subst hj; rw [cx, hx]
 ·rw [bD hj]
theorem PI.abK (h : PI P B cf cd bM D th cw cls s1 s2 bE bR gs w t) {j : Nat} {v : Value} {m mm : Ms} {rem : List Value} {y y0 : Th} (hj : D j = .w1 v m) (h0 : D 0 = .mr rem mm) (Av : th j = some y) (qM : th 0 = some y0) {g0 gj : Goroutine}
  (hn : W2 P B cd y.R y.H gj) (hg : ∀ k, rem.length = k + 1 → Je P B rem (kW P B cf bM k) v y0.R y0.H g0) {u : Trace} (hu : (∀ op ∈ u, op.act.touch? = none) ∧ (∀ op ∈ u, op.act.low w.heap.size) ∧ Wordless u) (d : Nat) :
  ∃ x0 xj, x0.dJ + xj.dJ < (D 0).dJ + (D j).dJ ∧ j ≠ 0 ∧ j < gs.size ∧
   PI P B cf cd bM (bZ (bZ D j xj) 0 x0) th cw cls (s1 + 1) s2 bE bR ((gs.setIfInBounds j gj).setIfInBounds 0 g0) ((w.at d).setChan cf 0 #[] false (s1 + 1) (s1 + 1) bE) (t ++ u) ∧
   PI P B cf cd bM (bZ (bZ D 0 x0) j xj) th cw cls (s1 + 1) s2 bE bR ((gs.setIfInBounds 0 g0).setIfInBounds j gj) ((w.at d).setChan cf 0 #[] false (s1 + 1) (s1 + 1) bE) (t ++ u) := by
 obtain ⟨rfl, rfl⟩ := h.A4 (i := j) (.inl (by rw [hj]; exact Nat.one_pos))
 obtain ⟨x, hx⟩ := h.there (i := j) (by rw [hj]; intro n e; cases e)
 have hlt := pI hx
 have hj0 : j ≠ 0 := by intro e; subst e; rw [h0] at hj; cases hj
 cases h.ph with
 | kL ni => rw [h0] at ni; cases ni
 | @iE mL m' ic kc mc ni hp hic hdc hun hk hw1 nw =>
  rw [h0] at ni; cases ni
  obtain ⟨T2, VV⟩ := hn
  have hv := acV (D := D) (D' := bZ D j (.w2 (some T2))) (i := j) (v := v) (by rw [hj]; rfl) (by rw [cx]; rfl) (λ k hk => by rw [bD hk]) hlt
  have aae := hp.symm.trans hv
  have hlen := aae.length_eq
  simp only [List.length_cons] at hlen
  obtain ⟨T0, Cm⟩ := hg _ hlen _ aae
  have ZV : ic ≠ j := by intro e; subst e; rw [hj] at hdc; cases hdc
  have Kz : ic ≠ 0 := by intro e; subst e; rw [h0] at hdc; cases hdc
  refine ⟨.mr (vals (bZ D j (.w2 (some T2))) gs.size) (some T0), .w2 (some T2), by rw [h0, hj]; simp only [Dt.dJ]; omega, hj0, hlt, ?_, ?_⟩
  ·have hm := (h.mem.at d).UN (s1' := s1 + 1) h.ne false
   refine h.two h.pos hlt hj0 hm (show dI _ _ _ _ (t ++ u) from ?_) (λ _ _ _ => rfl) ⟨⟨y0, qM, .inl ⟨T0, rfl, Cm⟩⟩, rfl⟩ ⟨⟨y, Av, .inl ⟨T2, rfl, VV⟩⟩, by omega⟩ ?_
   ·have := (h.tr.mute hu.1 hu.2.1 hu.2.2).JN (s1' := s1 + 1) (s2' := s2) (gL := false)
    simpa [World.setChan, World.at] using this
   ·refine .iE (ic := ic) (kc := kc) (mc := mc) (cx _ _ _) ?_ hic (by rw [bD Kz, bD ZV]; exact hdc) (λ k k' m e => ?_) ?_ (λ e => by cases e) (λ e k e' => ?_)
    ·rw [tn (by rw [bD (Ne.symm hj0), h0]; rfl)]
    ·by_cases jG : k = 0
     ·subst jG; rw [cx] at e; cases e
     ·rw [bD jG] at e
      by_cases hkj : k = j
      ·subst hkj; rw [cx] at e; cases e
      ·rw [bD hkj] at e; exact hun k k' m e
    ·rw [uf (by rw [bD (Ne.symm hj0), h0]; rfl), uf (by rw [hj]; rfl)]; exact hk
    ·by_cases jG : k = 0
     ·subst jG; rw [cx] at e'; cases e'
     ·rw [bD jG] at e'
      by_cases hkj : k = j
      ·subst hkj; rw [cx] at e'; cases e'
      ·rw [bD hkj] at e'; exact nw e k e'
  ·have hm := (h.mem.at d).UN (s1' := s1 + 1) h.ne false
   refine h.two hlt h.pos (Ne.symm hj0) hm (show dI _ _ _ _ (t ++ u) from ?_) (λ _ _ _ => rfl) ⟨⟨y, Av, .inl ⟨T2, rfl, VV⟩⟩, by omega⟩ ⟨⟨y0, qM, .inl ⟨T0, rfl, Cm⟩⟩, rfl⟩ ?_
   ·have := (h.tr.mute hu.1 hu.2.1 hu.2.2).JN (s1' := s1 + 1) (s2' := s2) (gL := false)
    simpa [World.setChan, World.at] using this
   ·have ec : bZ (bZ D 0 (.mr (vals (bZ D j (.w2 (some T2))) gs.size) (some T0))) j (.w2 (some T2)) = bZ (bZ D j (.w2 (some T2))) 0 (.mr (vals (bZ D j (.w2 (some T2))) gs.size) (some T0)) := by
     funext k
     by_cases jG : k = 0
     ·subst jG; rw [bD (Ne.symm hj0), cx, cx]
     ·rw [bD jG (D := bZ D j _)]
      by_cases hkj : k = j
      ·subst hkj; rw [cx, cx]
      ·rw [bD hkj, bD jG, bD hkj]
    rw [ec]
    refine .iE (ic := ic) (kc := kc) (mc := mc) (cx _ _ _) ?_ hic (by rw [bD Kz, bD ZV]; exact hdc) (λ k k' m e => ?_) ?_ (λ e => by cases e) (λ e k e' => ?_)
    ·rw [tn (by rw [bD (Ne.symm hj0), h0]; rfl)]
    ·by_cases jG : k = 0
     ·subst jG; rw [cx] at e; cases e
     ·rw [bD jG] at e
      by_cases hkj : k = j
      ·subst hkj; rw [cx] at e; cases e
      ·rw [bD hkj] at e; exact hun k k' m e
    ·rw [uf (by rw [bD (Ne.symm hj0), h0]; rfl), uf (by rw [hj]; rfl)]; exact hk
    ·by_cases jG : k = 0
     ·subst jG; rw [cx] at e'; cases e'
     ·rw [bD jG] at e'
      by_cases hkj : k = j
      ·subst hkj; rw [cx] at e'; cases e'
      ·rw [bD hkj] at e'; exact nw e k e'
theorem PI.abL (h : PI P B cf cd bM D th cw cls s1 s2 bE bR gs w t) {j ic k : Nat} {m mc : Ms} {y yc : Th} (hj : D j = .w2 m) (hc : D ic = .cl (k + 1) mc) (Av : th j = some y) (TK : th ic = some yc) {gc gj : Goroutine}
  (hn : Lv P y.R y.H gj) (hg : Own P B false (CK P B cf cd k) yc.R yc.H gc) {f1 f2 : FuncId} {p1 p2 : String} (d : Nat) :
  ∃ xc xj, xc.dJ + xj.dJ < (D ic).dJ + (D j).dJ ∧ j ≠ ic ∧ j < gs.size ∧ ic < gs.size ∧
   PI P B cf cd bM (bZ (bZ D j xj) ic xc) (fP th j none) cw cls s1 (s2 + 1) bE bR ((gs.setIfInBounds j gj).setIfInBounds ic gc) ((w.at d).setChan cd 0 #[] false (s2 + 1) (s2 + 1) bR) (t ++ #[⟨j, f1, p1, .send cd s2⟩, ⟨ic, f2, p2, .recv cd s2 0⟩, ⟨j, f1, p1, .sendDone cd s2⟩, ⟨ic, f2, p2, .recvDone cd s2⟩]) ∧
   PI P B cf cd bM (bZ (bZ D ic xc) j xj) (fP th j none) cw cls s1 (s2 + 1) bE bR ((gs.setIfInBounds ic gc).setIfInBounds j gj) ((w.at d).setChan cd 0 #[] false (s2 + 1) (s2 + 1) bR) (t ++ #[⟨j, f1, p1, .send cd s2⟩, ⟨ic, f2, p2, .recv cd s2 0⟩, ⟨j, f1, p1, .sendDone cd s2⟩, ⟨ic, f2, p2, .recvDone cd s2⟩]) := by
 obtain ⟨rfl, rfl⟩ := h.A4 (i := j) (.inl (by rw [hj]; exact Nat.one_pos))
 obtain ⟨x, hx⟩ := h.there (i := j) (by rw [hj]; intro n e; cases e)
 obtain ⟨xc, hxc⟩ := h.there (i := ic) (by rw [hc]; intro n e; cases e)
 have hlt := pI hx
 have FO := pI hxc
 have w8 : j ≠ ic := by intro e; subst e; rw [hc] at hj; cases hj
 have hsj := h.fO j x hx
 rw [hj] at hsj
 have aag := hsj.2
 have hsc := h.fO ic xc hxc
 rw [hc] at hsc
 have aaf := hsc.2
 cases h.ph with
 | kL ni hp fW hw => exact absurd hj (hw j m)
 | @iE rem m' ic' kc mc' h0 hp hic hdc hun hk hw1 nw =>
  obtain rfl := hun ic _ _ hc
  rw [hc] at hdc; cases hdc
  obtain ⟨n, hq⟩ := hn
  obtain ⟨T, hT⟩ := hg
  have hu := Uq (a := j) (b := ic) (c := cd) (s := s2) (cap := 0) (n := w.heap.size) (f1 := f1) (f2 := f2) (p1 := p1) (p2 := p2) (gy h.hcd)
  have htr : dI (fP th j none) [(cf, .chan 0 #[] false s1 s1 bE), (cd, .chan 0 #[] false (s2 + 1) (s2 + 1) bR)] none w.heap.size (t ++ #[⟨j, f1, p1, .send cd s2⟩, ⟨ic, f2, p2, .recv cd s2 0⟩, ⟨j, f1, p1, .sendDone cd s2⟩, ⟨ic, f2, p2, .recvDone cd s2⟩]) := by
   refine (h.tr.ax5 (i := j) hu.1 hu.2.1 hu.2.2 λ q hq => ⟨ic, yc, Ne.symm w8, TK, ?_⟩).JN
   exact avV (c := cd) (s := s2) (h.tr.quiet.append hu.2.2) (p := t.size) (q := t.size + 3) (Nat.le_refl _) (by simp; rfl) rfl rfl (by simp; rfl) rfl rfl hq
  have hm := ((h.mem.at d).azv (s2' := s2 + 1) h.ne).drop (i := j)
  have xe : ∀ D', (∀ k', k' ≠ ic → k' ≠ j → D' k' = D k') → D' ic = .cl k (some T) → D' j = .lv n → Ph cf gs.size D' false none := by
   intro D' hD J8 J9
   have hv : vals D' gs.size = vals D gs.size := A9 λ i _ => by
    by_cases h1 : i = ic
    ·subst h1; rw [J8, hc]; rfl
    ·by_cases h2 : i = j
     ·subst h2; rw [J9, hj]; rfl
     ·rw [hD i h1 h2]
   have ha : cI gs.size (λ i => (D' i).act) + 1 = cI gs.size (λ i => (D i).act) := by
    have := x6 (f := λ i => (D i).act) (g := λ i => (D' i).act) hlt (λ i hi => by
     by_cases h1 : i = ic
     ·subst h1; simp only [J8, hc]; rfl
     ·simp only [hD i h1 hi])
    have e1 : (Dt.lv n).act = 0 := rfl
    have e2 : (Dt.w2 m).act = 1 := rfl
    simp only [J9, hj, e1, e2] at this
    omega
   refine .iE (ic := ic) (kc := k) (mc := some T) (by rw [hD 0 (by omega) (by omega)]; exact h0) (hv ▸ hp) hic J8 (λ i k' m e => ?_) (by omega) (λ e i v e' => ?_) (λ e => by cases e)
   ·by_cases h1 : i = ic
    ·exact h1
    ·by_cases h2 : i = j
     ·subst h2; rw [J9] at e; cases e
     ·rw [hD i h1 h2] at e; exact hun i _ _ e
   ·by_cases h1 : i = ic
    ·subst h1; rw [J8] at e'; cases e'
    ·by_cases h2 : i = j
     ·subst h2; rw [J9] at e'; cases e'
     ·rw [hD i h1 h2] at e'; exact hw1 e i v e'
  refine ⟨.cl k (some T), .lv n, by rw [hj, hc]; simp only [Dt.dJ]; omega, w8, hlt, FO, ?_, ?_⟩
  ·refine h.two FO hlt w8 hm (show dI _ _ _ _ _ from by simpa [World.setChan, World.at] using htr) (λ i h1 h2 => eF h2) ⟨⟨yc, by rw [eF (Ne.symm w8)]; exact TK, .inl ⟨T, rfl, hT⟩⟩, aaf⟩ ⟨gB _ _ _, hq, aag⟩ ?_
   exact xe _ (λ i h1 h2 => by rw [bD h1, bD h2]) (cx _ _ _) (by rw [bD w8, cx])
  ·refine h.two hlt FO (Ne.symm w8) hm (show dI _ _ _ _ _ from by simpa [World.setChan, World.at] using htr) (λ i h1 h2 => eF h1) ⟨gB _ _ _, hq, aag⟩ ⟨⟨yc, by rw [eF (Ne.symm w8)]; exact TK, .inl ⟨T, rfl, hT⟩⟩, aaf⟩ ?_
   exact xe _ (λ i h1 h2 => by rw [bD h2, bD h1]) (by rw [bD (Ne.symm w8), cx]) (cx _ _ _)
end
end Go.Lg
namespace Go.Lg
open Go.Conc
theorem dI.ax4 {th : Nat → Option Th} {ch : au} {n i c : Nat} {t : Trace} {y : MemOp} (h : dI th ch none n t) (hy : y.g = i) (mI : y.act = .close c) (hc : c < n) : dI (fP th i none) ch (some c) n (t ++ #[y]) := by
 have hu : ∀ op ∈ #[y], op.act.touch? = none := λ op hop => by simp at hop; subst hop; rw [mI]; rfl
 have hw : Wordless #[y] := λ op hop m hm => by simp at hop; subst hop; rw [mI] at hm; cases hm
 have hm := h.mute hu (λ op hop => by simp at hop; subst hop; rw [mI]; exact hc) hw
 have key : ∀ j z, fP th i none j = some z → th j = some z := λ j z hz => by
  by_cases hj : j = i
  ·subst hj; rw [gB] at hz; cases hz
  ·rwa [eF hj] at hz
 refine ⟨λ j z hz => hm.own j z (key j z hz), λ j z hz => hm.read j z (key j z hz), λ c o hc j z hz => hm.dg c o hc j z (key j z hz), hm.low, λ k a hka hm' => ?_, hm.clean, hm.quiet⟩
 rcases h.all k a (HO hu hka) hm' with ⟨j, z, hz, hkn⟩ | ⟨c', p, h1, _⟩
 ·by_cases hj : j = i
  ·subst hj
   have e2 : (t ++ #[y])[t.size]? = some y := by simp
   exact .inr ⟨c, t.size, rfl, by rw [act?_of e2, mI], .inr (hkn.hb_new (Nat.le_refl _) e2 hy)⟩
  ·exact .inl ⟨j, z, by rw [eF hj]; exact hz, hkn.app _⟩
 ·cases h1
theorem aAa {th : Nat → Option Th} {i : Nat} {x : Th} (h : th i = some x) : fP th i (some x) = th := by
 funext j
 by_cases hj : j = i
 ·subst hj; rw [gB, h]
 ·rw [eF hj]
section
variable {P : Program} {B : Base} {cf cd : Nat} {bM : aI → au → Goroutine → Prop} {D : Nat → Dt} {th : Nat → Option Th} {cw : Bool} {cls : Option Nat} {s1 s2 : Nat} {bE bR : Bool} {gs : Array Goroutine} {w : World} {sl : Option (Nat × Nat)} {t : Trace} {g : Goroutine} {y : Th}
theorem PI.azW (h : PI P B cf cd bM D th cw cls s1 s2 bE bR gs w t) {i : Nat} {v : Value} {T : Tree} (hi : gs[i]? = some g) (hd : D i = .w1 v (some T)) (hpos : 0 < i) (hy : th i = some y) (hk : wC P B cf cd v y.R y.H g) : Nx P B cf cd bM D bE bR gs w sl t i := by
 obtain ⟨rfl, rfl⟩ := h.A4 (i := i) (.inl (by rw [hd]; exact Nat.one_pos))
 obtain ⟨z, hrun, hst, hnext⟩ := hk
 have kD : (i == 0) = false := by simp; omega
 have mA : stepG P (i == 0) g w = .comm (core g) #[scase cf v z] true .send w #[] := by rw [kD]; exact hst w (h.mem.fits i y hy)
 have hlt := pI hi
 by_cases hp : partners (gs.setIfInBounds i Go.Conc.ph) cf false = []
 ·have hr := crowd_waits (sl := sl) hi mA (λ cc mq => by simp at mq; subst mq; exact ways_send_none h.j8 (by simp) hp)
  rw [ofEvents_none] at hr
  refine ⟨_, _, _, bZ D i (.w1 v none), th, false, none, s1, s2, hr, ?_, ?_⟩
  ·simpa using A1 (x := .w1 v none) hlt (by rw [hd]; rfl) rfl .none (by rw [hd]; rfl)
  ·refine h.one hlt (by simp) (Array.getElem?_setIfInBounds_self_of_lt hlt) (λ j hj => Array.getElem?_setIfInBounds_ne (Ne.symm hj)) h.mem (by simpa using h.tr) (λ _ _ => rfl) ⟨⟨y, hy, .inr ⟨rfl, g, z, ⟨hrun, hst, hnext⟩, rfl⟩⟩, hpos⟩ ?_
   have ev : vals (bZ D i (.w1 v none)) gs.size = vals D gs.size := tn (by rw [hd]; rfl)
   have ea : cI gs.size (λ j => (bZ D i (.w1 v none) j).act) = cI gs.size (λ j => (D j).act) := uf (by rw [hd]; rfl)
   cases h.ph with
   | kL h0 gr fW hw =>
    refine .kL (by rw [bD (by omega)]; exact h0) (ev ▸ gr) (λ j k m e => ?_) (λ j m e => ?_)
    ·by_cases hj : j = i
     ·subst hj; rw [cx] at e; cases e
     ·rw [bD hj] at e; exact fW j k m e
    ·by_cases hj : j = i
     ·subst hj; rw [cx] at e; cases e
     ·rw [bD hj] at e; exact hw j m e
   | @iE rem m ic kc mc h0 gr hic hdc hun hkc hw1 nw =>
    refine .iE (ic := ic) (by rw [bD (by omega)]; exact h0) (ev ▸ gr) hic (by rw [bD (by intro e; subst e; rw [hd] at hdc; cases hdc)]; exact hdc) (λ j k m e => ?_) (by rw [ea]; exact hkc) (λ e => ?_) (λ e j e' => ?_)
    ·by_cases hj : j = i
     ·subst hj; rw [cx] at e; cases e
     ·rw [bD hj] at e; exact hun j k m e
    ·subst e
     obtain ⟨_, g0, z', y0, zI, _⟩ := h.ab7 h0
     exact absurd hp (Lm zI (by omega) (by rw [offersAt_parked_recv]; simp))
    ·by_cases hj : j = i
     ·subst hj; rw [cx] at e'; cases e'
     ·rw [bD hj] at e'; exact nw e j e'
 ·obtain ⟨j, gj, zj, shj, d, hji, mw, hr⟩ := crowd_send_meets_some (sl := sl) hi mA h.j8 hp (λ j k hjk => by
   obtain ⟨h1, h2, x, h3, h4⟩ := h.part hjk
   rcases h4 with ⟨_, h4, _⟩ | ⟨_, h4, _⟩ | ⟨h4, _⟩ | ⟨_, _, rem, g0, z0, _, rfl⟩
   ·cases h4
   ·cases h4
   ·exact absurd h4 h.ne
   ·exact ⟨h2, h1, _, _, _, h3⟩)
  obtain ⟨_, zR⟩ := (h.fO j _ mw).offers h.ne (c := cf) (send := false) (k := 0) (by rw [offersAt_parked_recv]; simp)
  rcases zR with ⟨_, h4, _⟩ | ⟨_, h4, _⟩ | ⟨h4, _⟩ | ⟨_, _, rem, g0, z0, qv, he⟩
  ·cases h4
  ·cases h4
  ·exact absurd h4 h.ne
  obtain ⟨_, hsh, RG⟩ := vn he
  subst hsh
  obtain ⟨rfl, wT, Nc, y0, qw, qM, hpk⟩ := h.ab7 qv
  rw [mw] at qw
  obtain ⟨_, _, zX⟩ := vn (Option.some.inj qw)
  rw [finishComm_recv, finishComm_send, ofEvents_none, zX] at hr
  have Rf := h.abK (j := i) (v := v) hd qv hy qM (gj := Conc.served (core g) undef) (g0 := Conc.served (core wT) (recvd true v true)) hnext (λ k hlen => by
   have : Jg P B cf bM (k + 1) rem y0.R y0.H (parked (core wT) #[rcase cf Nc] (.recv true)) := hlen ▸ hpk
   obtain ⟨g1, z1, ha, e1⟩ := this
   obtain ⟨_, _, xg⟩ := vn e1
   rw [xg]; exact ha.2.2.1 v) (Uq (a := i) (b := 0) (s := s1) (cap := 0) (f1 := (core g).frame.fn) (f2 := gj.frame.fn) (p1 := (core g).frame.place) (p2 := gj.frame.place) (gy h.j8)) d
  obtain ⟨x0, xj, Rw, _, _, _, hP⟩ := Rf
  refine ⟨_, _, _, _, _, _, _, _, _, hr, ?_, by simpa using hP⟩
  simpa using HA (x := xj) (y := x0) hlt h.pos hji (by omega)
theorem PI.azX (h : PI P B cf cd bM D th cw cls s1 s2 bE bR gs w t) {i : Nat} {T : Tree} (hi : gs[i]? = some g) (hd : D i = .w2 (some T)) (hpos : 0 < i) (hy : th i = some y) (hk : wD P B cd y.R y.H g) : Nx P B cf cd bM D bE bR gs w sl t i := by
 obtain ⟨rfl, rfl⟩ := h.A4 (i := i) (.inl (by rw [hd]; exact Nat.one_pos))
 obtain ⟨z, hrun, hst, hnext⟩ := hk
 have kD : (i == 0) = false := by simp; omega
 have mA : stepG P (i == 0) g w = .comm (core g) #[scase cd (.bool true) z] true .send w #[] := by rw [kD]; exact hst w (h.mem.fits i y hy)
 have hlt := pI hi
 by_cases hp : partners (gs.setIfInBounds i Go.Conc.ph) cd false = []
 ·have hr := crowd_waits (sl := sl) hi mA (λ cc mq => by simp at mq; subst mq; exact ways_send_none h.hcd (by simp) hp)
  rw [ofEvents_none] at hr
  refine ⟨_, _, _, bZ D i (.w2 none), th, false, none, s1, s2, hr, ?_, ?_⟩
  ·simpa using A1 (x := .w2 none) hlt (by rw [hd]; rfl) rfl .none (by rw [hd]; rfl)
  ·refine h.one hlt (by simp) (Array.getElem?_setIfInBounds_self_of_lt hlt) (λ j hj => Array.getElem?_setIfInBounds_ne (Ne.symm hj)) h.mem (by simpa using h.tr) (λ _ _ => rfl) ⟨⟨y, hy, .inr ⟨rfl, g, z, ⟨hrun, hst, hnext⟩, rfl⟩⟩, hpos⟩ ?_
   have ev : vals (bZ D i (.w2 none)) gs.size = vals D gs.size := tn (by rw [hd]; rfl)
   have ea : cI gs.size (λ j => (bZ D i (.w2 none) j).act) = cI gs.size (λ j => (D j).act) := uf (by rw [hd]; rfl)
   cases h.ph with
   | kL h0 gr fW hw => exact absurd hd (hw i _)
   | @iE rem m ic kc mc h0 gr hic hdc hun hkc hw1 nw =>
    refine .iE (ic := ic) (by rw [bD (by omega)]; exact h0) (ev ▸ gr) hic (by rw [bD (by intro e; subst e; rw [hd] at hdc; cases hdc)]; exact hdc) (λ j k m e => ?_) (by rw [ea]; exact hkc) (λ e j v e' => ?_) (λ e => ?_)
    ·by_cases hj : j = i
     ·subst hj; rw [cx] at e; cases e
     ·rw [bD hj] at e; exact hun j k m e
    ·by_cases hj : j = i
     ·subst hj; rw [cx] at e'; cases e'
     ·rw [bD hj] at e'; exact hw1 e j v e'
    ·subst e
     obtain ⟨_, _, _, g0, z', y0, zI, _⟩ := h.UD hdc
     exact absurd hp (Lm zI (by intro e; subst e; rw [hd] at hdc; cases hdc) (by rw [offersAt_parked_recv]; simp))
 ·obtain ⟨j, gj, zj, shj, d, hji, mw, hr⟩ := crowd_send_meets_some (sl := sl) hi mA h.hcd hp (λ j k hjk => by
   obtain ⟨h1, h2, x, h3, h4⟩ := h.part hjk
   rcases h4 with ⟨_, h4, _⟩ | ⟨_, h4, _⟩ | ⟨_, _, rem, g0, z0, _, rfl⟩ | ⟨h4, _⟩
   ·cases h4
   ·cases h4
   ·exact ⟨h2, h1, _, _, _, h3⟩
   ·exact absurd h4.symm h.ne)
  obtain ⟨_, zR⟩ := (h.fO j _ mw).offers h.ne (c := cd) (send := false) (k := 0) (by rw [offersAt_parked_recv]; simp)
  rcases zR with ⟨_, h4, _⟩ | ⟨_, h4, _⟩ | ⟨_, _, k', g0, z0, qv, he⟩ | ⟨h4, _⟩
  ·cases h4
  ·cases h4
  rotate_left
  ·exact absurd h4.symm h.ne
  obtain ⟨_, hsh, RG⟩ := vn he
  subst hsh
  obtain ⟨k'', aLc, _, wT, Nc, y0, qw, qM, ha⟩ := h.UD qv
  obtain rfl : k' = k'' := by omega
  rw [mw] at qw
  obtain ⟨_, _, zX⟩ := vn (Option.some.inj qw)
  rw [finishComm_recv, finishComm_send, ofEvents_none, zX] at hr
  obtain ⟨xc, xj, Rw, _, _, FO, _, hP⟩ := h.abL (j := i) hd qv hy qM (gj := Conc.served (core g) undef) (gc := Conc.served (core wT) (recvd false (.bool true) true)) hnext (ha.2.2.1 _) (f1 := (core g).frame.fn) (f2 := gj.frame.fn) (p1 := (core g).frame.place) (p2 := gj.frame.place) d
  refine ⟨_, _, _, _, _, _, _, _, _, hr, ?_, by simpa using hP⟩
  simpa using HA (x := xj) (y := xc) hlt FO hji (by omega)
theorem PI.azR (h : PI P B cf cd bM D th cw cls s1 s2 bE bR gs w t) {i k : Nat} {T : Tree} (hi : gs[i]? = some g) (hd : D i = .cl (k + 1) (some T)) (hpos : 0 < i) (hy : th i = some y) (hk : CK P B cf cd (k + 1) y.R y.H g) : Nx P B cf cd bM D bE bR gs w sl t i := by
 obtain ⟨rfl, rfl⟩ := h.A4 (i := i) (.inr (.inl ⟨_, _, hd⟩))
 obtain ⟨z, hrun, hst, ZU, zM⟩ := hk
 have kD : (i == 0) = false := by simp; omega
 have mA : stepG P (i == 0) g w = .comm (core g) #[rcase cd z] true (.recv false) w #[] := by rw [kD]; exact hst w (h.mem.fits i y hy)
 have hlt := pI hi
 by_cases hp : partners (gs.setIfInBounds i Go.Conc.ph) cd true = []
 ·have hr := crowd_waits (sl := sl) hi mA (λ cc mq => by simp at mq; subst mq; exact ways_recv_none h.hcd hp)
  rw [ofEvents_none] at hr
  refine ⟨_, _, _, bZ D i (.cl (k + 1) none), th, false, none, s1, s2, hr, ?_, ?_⟩
  ·simpa using A1 (x := .cl (k + 1) none) hlt (by rw [hd]; rfl) rfl .none (by rw [hd]; rfl)
  ·refine h.one hlt (by simp) (Array.getElem?_setIfInBounds_self_of_lt hlt) (λ j hj => Array.getElem?_setIfInBounds_ne (Ne.symm hj)) h.mem (by simpa using h.tr) (λ _ _ => rfl) ⟨⟨y, hy, .inr ⟨rfl, g, z, ⟨hrun, hst, ZU, zM⟩, rfl⟩⟩, hpos⟩ ?_
   have ev : vals (bZ D i (.cl (k + 1) none)) gs.size = vals D gs.size := tn (by rw [hd]; rfl)
   have ea : cI gs.size (λ j => (bZ D i (.cl (k + 1) none) j).act) = cI gs.size (λ j => (D j).act) := uf (by rw [hd]; rfl)
   cases h.ph with
   | kL h0 gr fW hw => exact absurd hd (fW i _ _)
   | @iE rem m ic kc mc h0 gr hic hdc hun hkc hw1 nw =>
    obtain rfl := hun i _ _ hd
    rw [hd] at hdc; cases hdc
    refine .iE (ic := i) (by rw [bD (by omega)]; exact h0) (ev ▸ gr) hic (cx _ _ _) (λ j k' m e => ?_) (by rw [ea]; exact hkc) (λ e j v e' => ?_) (λ e j e' => ?_)
    ·by_cases hj : j = i
     ·exact hj
     ·rw [bD hj] at e; exact hun j k' m e
    ·by_cases hj : j = i
     ·subst hj; rw [cx] at e'; cases e'
     ·rw [bD hj] at e'; exact hw1 e j v e'
    ·by_cases hj : j = i
     ·subst hj; rw [cx] at e'; cases e'
     ·rw [bD hj] at e'
      obtain ⟨_, g0, z', y0, zI, _⟩ := h.ab9 e'
      exact absurd hp (Lm zI hj (by rw [offersAt_parked_send]; simp))
 ·obtain ⟨j, gj, vj, zj, shj, d, hji, mw, hr⟩ := crowd_recv_meets_some (sl := sl) hi mA h.hcd hp (λ j k hjk => by
   obtain ⟨h1, h2, x, h3, h4⟩ := h.part hjk
   rcases h4 with ⟨h4, _⟩ | ⟨_, _, g0, z0, _, rfl⟩ | ⟨_, h4, _⟩ | ⟨h4, _⟩
   ·exact absurd h4.symm h.ne
   ·exact ⟨h2, h1, _, _, _, _, h3⟩
   ·cases h4
   ·exact absurd h4.symm h.ne)
  obtain ⟨_, zR⟩ := (h.fO j _ mw).offers h.ne (c := cd) (send := true) (k := 0) (by rw [offersAt_parked_send]; simp)
  rcases zR with ⟨h4, _⟩ | ⟨_, _, g0, z0, qv, he⟩ | ⟨_, h4, _⟩ | ⟨h4, _⟩
  ·exact absurd h4.symm h.ne
  rotate_left
  ·cases h4
  ·exact absurd h4.symm h.ne
  obtain ⟨_, hsh, RG⟩ := vn he
  subst hsh
  obtain ⟨_, wT, Nc, yj, qw, Av, ha⟩ := h.ab9 qv
  rw [mw] at qw
  obtain ⟨_, _, zX⟩ := vn (Option.some.inj qw)
  rw [finishComm_recv, finishComm_send, ofEvents_none, zX] at hr
  obtain ⟨xc, xj, Rw, _, Re, _, hP, _⟩ := h.abL (j := j) qv hd Av hy (gj := Conc.served (core wT) undef) (gc := Conc.served (core g) (recvd false vj true)) ha.2.2 (ZU _) (f1 := gj.frame.fn) (f2 := (core g).frame.fn) (p1 := gj.frame.place) (p2 := (core g).frame.place) d
  refine ⟨_, _, _, _, _, _, _, _, _, hr, ?_, by simpa using hP⟩
  simpa using HA (x := xc) (y := xj) hlt Re hji (by omega)
theorem PI.azS (h : PI P B cf cd bM D th cw cls s1 s2 bE bR gs w t) {i : Nat} {T : Tree} (hi : gs[i]? = some g) (hd : D i = .cl 0 (some T)) (hpos : 0 < i) (hy : th i = some y) (hk : CK P B cf cd 0 y.R y.H g) : Nx P B cf cd bM D bE bR gs w sl t i := by
 obtain ⟨rfl, rfl⟩ := h.A4 (i := i) (.inr (.inl ⟨_, _, hd⟩))
 obtain ⟨hrun, hmw, g', n, hst, hq⟩ := hk
 have kD : (i == 0) = false := by simp; omega
 have hlt := pI hi
 have mA := hst w s1 s1 bE (h.mem.fits i y hy) h.j8
 have hr := runT_crowd_go (P := P) (sl := sl) hi (by rw [kD]; exact mA)
 cases h.ph with
 | kL h0 gr fW hw => exact absurd hd (fW i _ _)
 | @iE rem m ic kc mc h0 gr hic hdc hun hkc hw1 nw =>
  obtain rfl := hun i _ _ hd
  rw [hd] at hdc; cases hdc
  have hz := Xx hkc.symm
  have hac : ∀ j, (D j).act = 0 := λ j => by
   rcases Nat.lt_or_ge j gs.size with hj | hj
   ·exact hz j hj
   ·rw [(h.out j hj).2]; rfl
  obtain ⟨x0, GB⟩ := h.there (i := 0) (by rw [h0]; intro n e; cases e)
  have hs0 := h.fO 0 x0 GB
  rw [h0] at hs0
  have hlen : rem.length = 0 := by
   have h1 := gr.length_eq
   have h2 := U5 (D := D) (n := gs.size)
   omega
  have hc0 : (w.shut cf s1 s1 bE).heap[cf]? = some (.chan 0 #[] true s1 s1 bE) := by
   have := gy h.j8
   simp [World.shut, this]
  obtain ⟨T0, apD⟩ : ∃ T0, ki P B cf cd bM 0 (.mr rem (some T0)) (th 0) (woken P g g' (w.shut cf s1 s1 bE) x0) := by
   obtain ⟨⟨y0, qM, ⟨T0, rfl, h1⟩ | ⟨rfl, h1⟩⟩, _⟩ := hs0
   ·refine ⟨T0, ⟨y0, qM, .inl ⟨T0, rfl, ?_⟩⟩, rfl⟩
    unfold woken
    split
    ·rw [again_running _ (.inl (h1.pW λ _ _ _ => kW.run))]; exact h1
    ·exact h1
   ·refine ⟨.node Empty Empty.elim, ⟨y0, qM, .inl ⟨_, rfl, .inl ?_⟩⟩, rfl⟩
    rw [hlen] at h1 ⊢
    obtain ⟨g0, z, ha, rfl⟩ := h1
    have hg' : g'.status = .running ∨ g'.status = .finished := hq.status
    have hw : woken P g g' (w.shut cf s1 s1 bE) (parked (core g0) #[rcase cf z] (.recv true)) = { parked (core g0) #[rcase cf z] (.recv true) with status := .running } := by
     unfold woken
     rw [if_pos]
     ·exact again_parked_shut rfl hc0
     ·rcases hg' with e | e <;> simp [hmw, e]
    rw [hw]
    have alf : ∀ v, Conc.served (core { parked (core g0) #[rcase cf z] (.recv true) with status := .running }) v = Conc.served (core g0) v := λ v => rfl
    refine ⟨z, rfl, λ w hw => ?_, λ v => ?_, ?_⟩
    ·exact (stepG_same rfl rfl rfl w).trans (ha.2.1 w hw)
    ·exact trivial
    ·rw [alf]; exact ha.2.2.2
  have alc : (gs.map (woken P g g' (w.shut cf s1 s1 bE))).setIfInBounds i g' = (gs.setIfInBounds 0 (woken P g g' (w.shut cf s1 s1 bE) x0)).setIfInBounds i g' := by
   apply Array.ext_getElem?
   intro k
   by_cases hki : k = i
   ·subst hki
    rw [Array.getElem?_setIfInBounds_self_of_lt (by simpa using hlt), Array.getElem?_setIfInBounds_self_of_lt (by simpa using hlt)]
   ·rw [Array.getElem?_setIfInBounds_ne (Ne.symm hki), Array.getElem?_setIfInBounds_ne (Ne.symm hki), Array.getElem?_map]
    by_cases jG : k = 0
    ·subst jG
     rw [Array.getElem?_setIfInBounds_self_of_lt h.pos, GB]; rfl
    ·rw [Array.getElem?_setIfInBounds_ne (Ne.symm jG)]
     cases ZT : gs[k]? with
     | none => rfl
     | some x =>
      rw [Option.map_some]
      congr 1
      have hcd : (w.shut cf s1 s1 bE).heap[cd]? = some (.chan 0 #[] false s2 s2 bR) := by
       rw [← h.hcd]
       exact Array.getElem?_setIfInBounds_ne h.ne
      refine (h.fO k x ZT).again hcd (.inr ⟨λ v e => ?_, λ rem e => ?_⟩) (s1 := s1) (bE := bE)
      ·have := hac k; rw [e] at this; cases this
      ·have hsk := h.fO k x ZT
       rw [e] at hsk
       exact jG hsk.2
  rw [alc] at hr
  refine ⟨_, _, _, bZ (bZ D 0 (.mr rem (some T0))) i (.lv n), fP th i none, true, some cf, s1, s2, hr, ?_, ?_⟩
  ·simpa using HA (x := .lv n) (y := .mr rem (some T0)) hlt h.pos (by omega) (by rw [hd, h0]; simp only [Dt.dJ]; omega)
  ·have hm := (h.mem.UN (s1' := s1) h.ne true).drop (i := i)
   have ZW : cf < w.heap.size := gy h.j8
   have ht1 := dI.app (u := #[(⟨i, g.frame.fn, g.frame.place, .access ⟨.obj cf, false, true⟩⟩ : MemOp)]) h.mem rfl h.tr hy (R' := y.R) (H' := y.H) (n' := w.heap.size) (by simp)
    (λ op hop a ha => by
     simp at hop; subst hop
     simp [MemAct.touch?] at ha; subst ha
     exact ⟨cf, rfl, .inr (.inr (.inr ⟨rfl, _, List.mem_cons_self⟩))⟩)
    (λ op hop => by simp at hop; subst hop; exact ZW) (λ op hop m hm => by simp at hop; subst hop; cases hm) (Nat.le_refl _) (λ b o x => .inl x) (λ b o x => .inl ⟨o, x⟩)
   rw [aAa hy] at ht1
   have ht2 := (ht1.ax4 (y := ⟨i, g.frame.fn, g.frame.place, .close cf⟩) rfl rfl ZW).JN (s1' := s1) (s2' := s2) (gL := true)
   have ao1 : t ++ MemOp.ofEvents i g.frame.fn g.frame.place #[⟨.obj cf, false, true⟩, ⟨.obj cf, true, true⟩] = (t ++ #[(⟨i, g.frame.fn, g.frame.place, .access ⟨.obj cf, false, true⟩⟩ : MemOp)]) ++ #[⟨i, g.frame.fn, g.frame.place, .close cf⟩] := by
    rw [ofEvents_eq, Array.append_assoc]; congr 1; simp [MemAct.ofEvent]
   rw [ao1]
   refine h.two hlt h.pos (by omega) hm (by simpa [World.shut] using ht2) (λ k h1 h2 => eF h1) ⟨gB _ _ _, hq, hpos⟩ (by rw [eF (by omega)]; exact apD) ?_
   have FZ : rem = [] := List.length_eq_zero_iff.1 hlen
   refine .closed (rem := rem) (m := some T0) (by rw [bD (by omega), cx]) ?_ (λ j k m e => ?_) (λ j => ?_) (by simp)
   ·rw [tn (by rw [bD (by omega), hd]; rfl), tn (by rw [h0]; rfl)]; exact gr
   ·by_cases hj : j = i
    ·subst hj; rw [cx] at e; cases e
    ·rw [bD hj] at e
     by_cases hj0 : j = 0
     ·subst hj0; rw [cx] at e; cases e
     ·rw [bD hj0] at e; exact hj (hun j k m e)
   ·by_cases hj : j = i
    ·subst hj; rw [cx]; rfl
    ·rw [bD hj]
     by_cases hj0 : j = 0
     ·subst hj0; rw [cx]; rfl
     ·rw [bD hj0]; exact hac j
end
end Go.Lg
namespace Go.Lg
open Go.Conc
section
variable {P : Program} {B : Base} {cf cd : Nat} {bM : aI → au → Goroutine → Prop} {D : Nat → Dt} {th : Nat → Option Th} {cw : Bool} {cls : Option Nat} {s1 s2 : Nat} {bE bR : Bool} {gs : Array Goroutine} {w : World} {sl : Option (Nat × Nat)} {t : Trace} {g : Goroutine} {y : Th}
theorem PI.add (h : PI P B cf cd bM D th cw cls s1 s2 bE bR gs w t) {g' child : Goroutine} {x z : Dt} {f1 f2 : FuncId} {p1 p2 : String} (hy : th 0 = some y) (hsx : ki P B cf cd bM 0 x (some y) g') (hsz : ki P B cf cd bM gs.size z (some ⟨y.R, []⟩) child)
  (xe : Ph cf (gs.size + 1) (bZ (bZ D gs.size z) 0 x) cw cls) :
  PI P B cf cd bM (bZ (bZ D gs.size z) 0 x) (fP th gs.size (some ⟨y.R, []⟩)) cw cls s1 s2 bE bR ((gs.setIfInBounds 0 g').push child) w (t ++ #[⟨0, f1, p1, .go gs.size⟩, ⟨gs.size, f2, p2, .start⟩]) := by
 have hn := h.out gs.size (Nat.le_refl _)
 have Zk : (0 : Nat) ≠ gs.size := by have := h.pos; omega
 have hu : ∀ op ∈ (#[⟨0, f1, p1, .go gs.size⟩, ⟨gs.size, f2, p2, .start⟩] : Trace), op.act.touch? = none := λ op hop => by
  simp only [List.mem_toArray, List.mem_cons, List.not_mem_nil, or_false] at hop
  rcases hop with rfl | rfl <;> rfl
 have hl : ∀ op ∈ (#[⟨0, f1, p1, .go gs.size⟩, ⟨gs.size, f2, p2, .start⟩] : Trace), op.act.low w.heap.size := λ op hop => by
  simp only [List.mem_toArray, List.mem_cons, List.not_mem_nil, or_false] at hop
  rcases hop with rfl | rfl <;> trivial
 have hw : Wordless (#[⟨0, f1, p1, .go gs.size⟩, ⟨gs.size, f2, p2, .start⟩] : Trace) := λ op hop m hm => by
  simp only [List.mem_toArray, List.mem_cons, List.not_mem_nil, or_false] at hop
  rcases hop with rfl | rfl <;> cases hm
 refine ⟨h.ne, h.mem.add hy (λ _ _ e => e), h.tr.ax3 hu hl hw hy (λ _ _ e => e) hn.1 (λ k hk => avW (h.tr.quiet.append hw) rfl rfl rfl rfl hk), λ j v hj => ?_, λ j hj => ?_, by simpa using xe, by simp⟩
 ·rw [Array.getElem?_push] at hj
  split at hj
  ·rename_i e
   have e : j = gs.size := by simpa using e
   cases hj; subst e
   rw [bD (Ne.symm Zk), cx, gB]; exact hsz
  ·rename_i e
   have e : j ≠ gs.size := by simpa using e
   by_cases hj0 : j = 0
   ·subst hj0
    rw [Array.getElem?_setIfInBounds_self_of_lt h.pos] at hj; cases hj
    rw [cx, eF Zk, hy]; exact hsx
   ·rw [Array.getElem?_setIfInBounds_ne (Ne.symm hj0)] at hj
    rw [bD hj0, bD e, eF e]; exact h.fO j v hj
 ·have hj' : gs.size + 1 ≤ j := by simpa using hj
  rw [bD (by omega), bD (by omega), eF (by omega)]; exact h.out j (by omega)
theorem PI.azV (h : PI P B cf cd bM D th cw cls s1 s2 bE bR gs w t) {k : Nat} {sp : List Value} {T : Tree} (hi : gs[0]? = some g) (hd : D 0 = .ms k sp (some T)) (hy : th 0 = some y) (hk : o4 P B cf cd bM k sp y.R y.H g) : Nx P B cf cd bM D bE bR gs w sl t 0 := by
 obtain ⟨rfl, rfl⟩ := h.A4 (i := 0) (.inr (.inr ⟨⟨_, _, _, hd⟩, rfl⟩))
 have hpos := h.pos
 cases h.ph with
 | iE h0 => rw [hd] at h0; cases h0
 | kL h0 gr fW hw =>
  rw [hd] at h0; cases h0
  cases k with
  | succ k =>
   obtain ⟨hrun, hst⟩ := hk
   obtain ⟨g', child, v, hsp, ⟨T1, Qt⟩, T0, Cm⟩ := hst w (h.mem.fits 0 y hy)
   have hr := runT_crowd_spawn (sl := sl) hi (show stepG P (0 == 0) g w = _ from hsp)
   rw [ofEvents_none] at hr
   refine ⟨_, _, _, _, _, false, none, s1, s2, hr, ?_, h.add (x := .ms k (v :: sp) (some T0)) (z := .w1 v (some T1)) hy ⟨⟨y, rfl, .inl ⟨T0, rfl, Cm⟩⟩, rfl⟩ ⟨⟨_, rfl, .inl ⟨T1, rfl, Qt⟩⟩, hpos⟩ ?_⟩
   ·simpa using abM (x := .ms k (v :: sp) (some T0)) (y := .w1 v (some T1)) hpos (by rw [hd]; simp only [Dt.dJ, List.length_cons]; omega)
   ·refine .kL (cx _ _ _) ?_ (λ j k' m e => ?_) (λ j m e => ?_)
    ·rw [tn (by rw [bD (by omega), hd]; rfl), ru, cx, A9 (D := D) (λ j hj => by rw [bD (by omega)])]
     exact List.Perm.cons v gr
    ·by_cases hj0 : j = 0
     ·subst hj0; rw [cx] at e; cases e
     ·rw [bD hj0] at e
      by_cases hjn : j = gs.size
      ·subst hjn; rw [cx] at e; cases e
      ·rw [bD hjn] at e; exact fW j k' m e
    ·by_cases hj0 : j = 0
     ·subst hj0; rw [cx] at e; cases e
     ·rw [bD hj0] at e
      by_cases hjn : j = gs.size
      ·subst hjn; rw [cx] at e; cases e
      ·rw [bD hjn] at e; exact hw j m e
  | zero =>
   obtain ⟨hrun, hst⟩ := hk
   obtain ⟨g', child, hsp, ⟨T1, Qt⟩, T0, Cm⟩ := hst w (h.mem.fits 0 y hy)
   have hr := runT_crowd_spawn (sl := sl) hi (show stepG P (0 == 0) g w = _ from hsp)
   rw [ofEvents_none] at hr
   refine ⟨_, _, _, _, _, false, none, s1, s2, hr, ?_, h.add (x := .mr sp (some T0)) (z := .cl sp.length (some T1)) hy ⟨⟨y, rfl, .inl ⟨T0, rfl, Cm⟩⟩, rfl⟩ ⟨⟨_, rfl, .inl ⟨T1, rfl, Qt⟩⟩, hpos⟩ ?_⟩
   ·simpa using abM (x := .mr sp (some T0)) (y := .cl sp.length (some T1)) hpos (by rw [hd]; simp only [Dt.dJ]; omega)
   ·have ev : vals (bZ (bZ D gs.size (.cl sp.length (some T1))) 0 (.mr sp (some T0))) (gs.size + 1) = vals D gs.size := by
     rw [tn (by rw [bD (by omega), hd]; rfl), ru, cx, A9 (D := D) (λ j hj => by rw [bD (by omega)])]
     rfl
    refine .iE (ic := gs.size) (kc := sp.length) (mc := some T1) (cx _ _ _) (by rw [ev]; exact gr) (by omega) (by rw [bD (by omega), cx]) (λ j k' m e => ?_) ?_ (λ e => by cases e) (λ e => by cases e)
    ·by_cases hj0 : j = 0
     ·subst hj0; rw [cx] at e; cases e
     ·rw [bD hj0] at e
      by_cases hjn : j = gs.size
      ·exact hjn
      ·rw [bD hjn] at e; exact absurd e (fW j k' m)
    ·rw [uf (by rw [bD (by omega), hd]; rfl)]
     have e1 := acU (D := D) (n := gs.size) (λ i m _ => hw i m)
     have e2 := gr.length_eq
     have e3 : cI gs.size (λ j => (bZ D gs.size (.cl sp.length (some T1)) j).act) = cI gs.size (λ j => (D j).act) := x5 λ j hj => by rw [bD (by omega)]
     have e4 : (bZ D gs.size (.cl sp.length (some T1)) gs.size).act = 0 := by rw [cx]; rfl
     simp only [cI, e3, e4]
     omega
theorem ayd (h : PI P B cf cd bM D th cw cls s1 s2 bE bR gs w t) {i : Nat} (hz : ∀ j, (D j).act = 0) : partners (gs.setIfInBounds i Go.Conc.ph) cf true = [] := by
 apply List.eq_nil_iff_forall_not_mem.2
 rintro ⟨j, k⟩ hm
 obtain ⟨_, _, x, _, h4⟩ := h.part hm
 rcases h4 with ⟨_, _, v, g0, z, e, _⟩ | ⟨h4, _⟩ | ⟨_, h4, _⟩ | ⟨_, h4, _⟩
 ·have := hz j; rw [e] at this; cases this
 ·exact h.ne h4
 ·cases h4
 ·cases h4
theorem PI.azU (h : PI P B cf cd bM D th false none s1 s2 bE bR gs w t) {rem : List Value} {T : Tree} (hi : gs[0]? = some g) (hd : D 0 = .mr rem (some T)) (hy : th 0 = some y) (hk : kW P B cf bM rem.length rem y.R y.H g) : Nx P B cf cd bM D bE bR gs w sl t 0 := by
 have hpos := h.pos
 obtain ⟨z, tX, Nil, hk', hpk⟩ : ∃ z tX Nil, AtR P B true cf true tX Nil z y.R y.H g ∧ ((∀ k, rem.length = k + 1 → ∀ v, Je P B rem (kW P B cf bM k) v y.R y.H (Conc.served (core g) (recvd true v true))) ∧ Jg P B cf bM rem.length rem y.R y.H (parked (core g) #[rcase cf z] (.recv true))) := by
  generalize rem.length = n at hk
  cases n with
  | zero => obtain ⟨z, hk⟩ := hk; exact ⟨z, _, _, hk, λ k e => (by cases e), g, z, hk, rfl⟩
  | succ n => obtain ⟨z, hk⟩ := hk; exact ⟨z, _, _, hk, λ k e v => (by cases e; exact hk.2.2.1 v), g, z, hk, rfl⟩
 have hst : stepG P (0 == 0) g w = .comm (core g) #[rcase cf z] true (.recv true) w #[] := hk'.2.1 w (h.mem.fits 0 y hy)
 by_cases hp : partners (gs.setIfInBounds 0 Go.Conc.ph) cf true = []
 ·have hr := crowd_waits (sl := sl) hi hst (λ cc mq => by simp at mq; subst mq; exact ways_recv_none h.j8 hp)
  rw [ofEvents_none] at hr
  refine ⟨_, _, _, bZ D 0 (.mr rem none), th, false, none, s1, s2, hr, ?_, ?_⟩
  ·simpa using A1 (x := .mr rem none) hpos (by rw [hd]; rfl) rfl .none (by rw [hd]; rfl)
  ·refine h.one hpos (by simp) (Array.getElem?_setIfInBounds_self_of_lt hpos) (λ j hj => Array.getElem?_setIfInBounds_ne (Ne.symm hj)) h.mem (by simpa using h.tr) (λ _ _ => rfl) ⟨⟨y, hy, .inr ⟨rfl, hpk.2⟩⟩, rfl⟩ ?_
   have ev : vals (bZ D 0 (.mr rem none)) gs.size = vals D gs.size := tn (by rw [hd]; rfl)
   have ea : cI gs.size (λ j => (bZ D 0 (.mr rem none) j).act) = cI gs.size (λ j => (D j).act) := uf (by rw [hd]; rfl)
   cases h.ph with
   | kL h0 gr fW hw => rw [hd] at h0; cases h0
   | @iE mL m ic kc mc h0 gr hic hdc hun hkc hw1 nw =>
    rw [hd] at h0; cases h0
    have Kz : ic ≠ 0 := by intro e; subst e; rw [hd] at hdc; cases hdc
    refine .iE (ic := ic) (cx _ _ _) (ev ▸ gr) hic (by rw [bD Kz]; exact hdc) (λ j k' m e => ?_) (by rw [ea]; exact hkc) (λ e j v e' => ?_) (λ e j e' => ?_)
    ·by_cases hj : j = 0
     ·subst hj; rw [cx] at e; cases e
     ·rw [bD hj] at e; exact hun j k' m e
    ·by_cases hj : j = 0
     ·subst hj; rw [cx] at e'; cases e'
     ·rw [bD hj] at e'
      obtain ⟨_, g0, z', y0, zI, _⟩ := h.ab8 e'
      exact absurd hp (Lm zI hj (by rw [offersAt_parked_send]; simp))
    ·by_cases hj : j = 0
     ·subst hj; rw [cx] at e'; cases e'
     ·rw [bD hj] at e'; exact nw e j e'
 ·obtain ⟨j, gj, vj, zj, shj, d, hji, mw, hr⟩ := crowd_recv_meets_some (sl := sl) hi hst h.j8 hp (λ j k hjk => by
   obtain ⟨h1, h2, x, h3, h4⟩ := h.part hjk
   rcases h4 with ⟨_, _, v, g0, z0, _, rfl⟩ | ⟨h4, _⟩ | ⟨_, h4, _⟩ | ⟨_, h4, _⟩
   ·exact ⟨h2, h1, _, _, _, _, h3⟩
   ·exact absurd h4 h.ne
   ·cases h4
   ·cases h4)
  obtain ⟨_, zR⟩ := (h.fO j _ mw).offers h.ne (c := cf) (send := true) (k := 0) (by rw [offersAt_parked_send]; simp)
  rcases zR with ⟨_, _, v, g0, z0, qv, he⟩ | ⟨h4, _⟩ | ⟨_, h4, _⟩ | ⟨_, h4, _⟩
  rotate_left
  ·exact absurd h4 h.ne
  ·cases h4
  ·cases h4
  obtain ⟨hcs, hsh, RG⟩ := vn he
  subst hsh
  have hv : vj = v := by
   have : scase cf vj zj = scase cf v z0 := by simpa using hcs
   simp only [scase, CommCase.mk.injEq, Option.some.injEq] at this
   exact this.2.1
  subst hv
  obtain ⟨_, wT, Nc, yj, qw, Av, ha⟩ := h.ab8 qv
  rw [mw] at qw
  obtain ⟨_, _, zX⟩ := vn (Option.some.inj qw)
  rw [finishComm_recv, finishComm_send, ofEvents_none, zX] at hr
  have Rf := h.abK (j := j) (v := vj) qv hd Av hy (gj := Conc.served (core wT) undef) (g0 := Conc.served (core g) (recvd true vj true)) ha.2.2 (λ k hlen => hpk.1 k hlen vj) (Uq (a := j) (b := 0) (s := s1) (cap := 0) (f1 := gj.frame.fn) (f2 := (core g).frame.fn) (p1 := gj.frame.place) (p2 := (core g).frame.place) (gy h.j8)) d
  obtain ⟨x0, xj, Rw, _, Re, hP, _⟩ := Rf
  refine ⟨_, _, _, _, _, _, _, _, _, hr, ?_, by simpa using hP⟩
  simpa using HA (x := x0) (y := xj) hpos Re hji (by omega)
theorem PI.azT (h : PI P B cf cd bM D th true cls s1 s2 bE bR gs w t) {rem : List Value} {T : Tree} (hi : gs[0]? = some g) (hd : D 0 = .mr rem (some T)) (hy : th 0 = some y) (hk : kW P B cf bM rem.length rem y.R y.H g) :
  ∃ gs' g' ops q, runT P (crowd gs w sl) 0 = (.next (crowd gs' w sl), ops) ∧ gs'[0]? = some g' ∧ bM y.R y.H g' ∧ Alone P B y.R y.H gs' w (t ++ ops) q := by
 have hpos := h.pos
 have j8 := h.j8
 cases h.ph with
 | @closed mL m h0 gr fW hac hm =>
  rw [hd] at h0; cases h0
  have hlen : rem.length = 0 := by
   have h1 := gr.length_eq
   have h2 := U5 (D := D) (n := gs.size)
   have h3 : cI gs.size (λ i => (D i).act) = 0 := by
    have e : cI gs.size (λ i => (D i).act) = cI gs.size (λ _ => 0) := x5 λ i _ => hac i
    rw [e]
    have : ∀ n, cI n (λ _ => 0) = 0 := by intro n; induction n with | zero => rfl | succ n ih => simp only [cI, ih]
    exact this _
   omega
  rw [hlen] at hk
  obtain ⟨z, hrun, hst, _, zM⟩ := hk
  have hr := crowd_recv_closed (sl := sl) hi (show stepG P (0 == 0) g w = _ from hst w (h.mem.fits 0 y hy)) j8 (ayd h hac)
  rw [finishComm_recv, ofEvents_none] at hr
  have hlv : ∀ i, i ≠ 0 → th i = none ∧ ∃ n, D i = .lv n ∧ ∀ x, gs[i]? = some x → QuitsIn P n x := by
   intro i kD
   rcases Nat.lt_or_ge i gs.size with hlt | hge
   ·have hx := Array.getElem?_eq_getElem hlt
    have hs := h.fO i _ hx
    cases iR : D i with
    | lv n => rw [iR] at hs; exact ⟨hs.1, n, rfl, λ x hx' => by rw [hx] at hx'; cases hx'; exact hs.2.1⟩
    | w1 v m => have := hac i; rw [iR] at this; cases this
    | w2 m => have := hac i; rw [iR] at this; cases this
    | cl k m => exact absurd iR (fW i k m)
    | ms k sp m => rw [iR] at hs; exact absurd hs.2 kD
    | mr r m => rw [iR] at hs; exact absurd hs.2 kD
   ·obtain ⟨h1, h2⟩ := h.out i hge
    exact ⟨h1, 0, h2, λ x hx => by rw [Array.getElem?_eq_none hge] at hx; cases hx⟩
  have uP : th = only y := by
   funext i
   unfold only
   split
   ·rename_i e; subst e; exact hy
   ·rename_i e; exact (hlv i e).1
  have hm' := h.mem
  have ht' := h.tr
  rw [uP] at hm' ht'
  refine ⟨_, _, _, λ i => match D i with | .lv n => n | _ => 0, hr, Array.getElem?_setIfInBounds_self_of_lt hpos, zM, ⟨hm'.fits, hm'.apart, λ c o hc => (by cases hc), λ c o hc => (by cases hc)⟩, ?_, λ i x kD hx => ?_⟩
  ·exact (ht'.aza (y := ⟨0, (core g).frame.fn, (core g).frame.place, .recvClosed cf⟩) rfl rfl (gy j8)).YA (λ _ _ hc => by cases hc)
  ·rw [Array.getElem?_setIfInBounds_ne (by omega)] at hx
   obtain ⟨_, n, e, hq⟩ := hlv i (by omega)
   simp only [e]
   exact hq x hx
theorem PI.acv (h : PI P B cf cd bM D th cw cls s1 s2 bE bR gs w t) : ∃ (i : Nat) (g : Goroutine), gs[i]? = some g ∧ g.status = .running := by
 have key : ∀ i, (∀ n, D i ≠ .lv n) → (D i).nD ≠ none → ∃ (i : Nat) (g : Goroutine), gs[i]? = some g ∧ g.status = .running := by
  intro i hl hm
  obtain ⟨g, hg⟩ := h.there hl
  refine ⟨i, g, hg, ?_⟩
  have hs := h.fO i g hg
  cases iR : D i with
  | lv n => exact absurd iR (hl n)
  | w1 v m =>
   rw [iR] at hs hm
   obtain ⟨⟨y, _, ⟨T, rfl, h⟩ | ⟨rfl, _⟩⟩, _⟩ := hs
   ·exact h.pW λ _ _ _ => wC.run
   ·exact absurd rfl hm
  | w2 m =>
   rw [iR] at hs hm
   obtain ⟨⟨y, _, ⟨T, rfl, h⟩ | ⟨rfl, _⟩⟩, _⟩ := hs
   ·exact h.pW λ _ _ _ => wD.run
   ·exact absurd rfl hm
  | cl k m =>
   rw [iR] at hs hm
   obtain ⟨⟨y, _, ⟨T, rfl, h⟩ | ⟨rfl, _⟩⟩, _⟩ := hs
   ·exact h.pW λ _ _ _ => CK.run
   ·exact absurd rfl hm
  | ms k sp m =>
   rw [iR] at hs hm
   obtain ⟨⟨y, _, ⟨T, rfl, h⟩ | ⟨rfl, _⟩⟩, _⟩ := hs
   ·exact h.pW λ _ _ _ => o4.run
   ·exact absurd rfl hm
  | mr r m =>
   rw [iR] at hs hm
   obtain ⟨⟨y, _, ⟨T, rfl, h⟩ | ⟨rfl, _⟩⟩, _⟩ := hs
   ·exact h.pW λ _ _ _ => kW.run
   ·exact absurd rfl hm
 cases h.ph with
 | @kL k sp m h0 gr fW hw =>
  obtain ⟨g, hg⟩ := h.there (i := 0) (by rw [h0]; intro n e; cases e)
  have hs := h.fO 0 g hg
  rw [h0] at hs
  obtain ⟨⟨y, _, ⟨T, rfl, h⟩ | ⟨rfl, h⟩⟩, _⟩ := hs
  ·exact ⟨0, g, hg, h.pW λ _ _ _ => o4.run⟩
  ·exact h.elim
 | closed h0 gr fW hac hm => exact key 0 (by rw [h0]; intro n e; cases e) (by rw [h0]; exact hm)
 | @iE rem m ic kc mc h0 gr hic hdc hun hkc hw1 nw =>
  cases m with
  | some T => exact key 0 (by rw [h0]; intro n e; cases e) (by rw [h0]; simp [Dt.nD])
  | none =>
   cases mc with
   | some T => exact key ic (by rw [hdc]; intro n e; cases e) (by rw [hdc]; simp [Dt.nD])
   | none =>
    obtain ⟨k', hk', _⟩ := h.UD hdc
    have : ∃ i, i < gs.size ∧ 0 < (D i).act := by
     apply Classical.byContradiction
     intro hn
     have hz : ∀ i, i < gs.size → (D i).act = 0 := λ i hi => by
      have : ¬ 0 < (D i).act := λ hx => hn ⟨i, hi, hx⟩
      omega
     have e : cI gs.size (λ i => (D i).act) = cI gs.size (λ _ => 0) := x5 λ i hi => hz i hi
     have ni : ∀ n, cI n (λ _ => 0) = 0 := by intro n; induction n with | zero => rfl | succ n ih => simp only [cI, ih]
     rw [e, ni] at hkc
     omega
    obtain ⟨i, hi, hact⟩ := this
    cases iR : D i with
    | w1 v m =>
     cases m with
     | some T => exact key i (by rw [iR]; intro n e; cases e) (by rw [iR]; simp [Dt.nD])
     | none => exact absurd iR (hw1 rfl i v)
    | w2 m =>
     cases m with
     | some T => exact key i (by rw [iR]; intro n e; cases e) (by rw [iR]; simp [Dt.nD])
     | none => exact absurd iR (nw rfl i)
    | _ => rw [iR] at hact; simp [Dt.act] at hact
end
section
variable {P : Program} {B : Base} {Post : Value → World → Prop} {cf cd : Nat} {bE bR : Bool}
theorem aco {d : Dt} {T T' : Tree} (h : d.nD = some T) (hl : ∀ n, d ≠ .lv n) : (d.set (some T')).nD = some T' ∧ (d.set (some T')).dJ = d.dJ := by
 cases d <;> first | exact absurd rfl (hl _) | exact ⟨rfl, rfl⟩
theorem PI.ayT : ∀ (μ : Nat × List Ms) (gs : Array Goroutine) (w : World) (sl : Option (Nat × Nat)) (t : Trace) (D : Nat → Dt) (th : Nat → Option Th) (cw : Bool) (cls : Option Nat) (s1 s2 : Nat),
  PI P B cf cd (MJ P B Post) D th cw cls s1 s2 bE bR gs w t → mu D gs.size = μ → ∀ i g, gs[i]? = some g → g.status = .running → ∀ m0, stepT P m0 = runT P (crowd gs w sl) i → iM P Post m0 t := by
 intro μ
 induction μ using ud.wf.induction with
 | _ μ ih =>
  intro gs w sl t D th cw cls s1 s2 h hμ i g hi hrun m0 hm0
  subst hμ
  have next : ∀ (gs' : Array Goroutine) (w' : World) (sl' : Option (Nat × Nat)) (t' : Trace) (D' : Nat → Dt) (iU : Nat → Option Th) (gL : Bool) (cls' : Option Nat) (s1' s2' : Nat), PI P B cf cd (MJ P B Post) D' iU gL cls' s1' s2' bE bR gs' w' t' →
    ud (mu D' gs'.size) (mu D gs.size) → iM P Post (crowd gs' w' sl') t' := by
   intro gs' w' sl' t' D' iU gL cls' s1' s2' h' hl
   obtain ⟨j, gj, d, UO, hj, RF, hst⟩ := crowd_pick (P := P) (gs := gs') (w := w') (sl := sl') (λ x hx => by
    obtain ⟨k, hk, rfl⟩ := Array.mem_iff_getElem.1 hx
    exact (h'.fO k _ (Array.getElem?_eq_getElem hk)).awake) h'.acv
   exact ih _ hl gs' (w'.at d) UO t' D' iU gL cls' s1' s2' (h'.at d) rfl j gj hj RF _ hst
  have nx : Nx P B cf cd (MJ P B Post) D bE bR gs w sl t i → iM P Post m0 t := by
   rintro ⟨gs', w', ops, D', iU, gL, cls', s1', s2', hr, hl, h'⟩
   exact iM.step (hm0.trans hr) (next _ _ _ _ _ _ _ _ _ _ h' hl)
  have hs := h.fO i g hi
  have hlt := pI hi
  have go : ∀ (main : Bool) (K : aI → au → Goroutine → Prop) (y : Th) (T : Tree), main = (i == 0) → (∀ n, D i ≠ .lv n) → (D i).nD = some T → th i = some y → wE P B main K T y.R y.H g →
    (∀ T' (y' : Th) g', wE P B main K T' y'.R y'.H g' → ki P B cf cd (MJ P B Post) i ((D i).set (some T')) (some y') g') → (K y.R y.H g → iM P Post m0 t) → iM P Post m0 t := by
   rintro main K ⟨R, H⟩ ⟨ι, f⟩ hmain hnl KA hy hown aai hstop
   rcases hown with hk | ⟨_, hst⟩ | ⟨R', H', k, hgh, hk⟩
   ·exact hstop hk
   ·obtain ⟨g', w', es, R', H', k, h1, h2, h3, h4⟩ := hst w (h.mem.fits i _ hy)
    obtain ⟨gs', ops, hr, hsz, hP⟩ := h.own (sl := sl) (T := f k) hi hy (hmain ▸ h1) h2 h3 (aai (f k) ⟨R', H'⟩ g' h4)
    obtain ⟨e1, e2⟩ := aco (T' := f k) KA hnl
    exact iM.step (hm0.trans hr) (next _ _ _ _ _ _ _ _ _ _ hP (by rw [hsz]; exact A1 hlt KA e1 (.some (.mk f k)) e2))
   ·obtain ⟨hm, ht⟩ := Zi h.mem h.tr hy (hgh w (h.mem.fits i _ hy))
    obtain ⟨e1, e2⟩ := aco (T' := f k) KA hnl
    refine ih _ (A1 hlt KA e1 (.some (.mk f k)) e2) gs w sl t _ _ cw cls s1 s2 (h.one (w' := w) hlt rfl hi (λ _ _ => rfl) hm ht (λ j hj => eF hj) (by rw [gB]; exact aai (f k) ⟨R', H'⟩ g hk) (h.ph.q λ j => Q.upd (.inr (.inr ⟨f k, rfl⟩)) j)) rfl i g hi hrun m0 hm0
  cases hd : D i with
  | lv n =>
   rw [hd] at hs
   obtain ⟨_, hq, _⟩ := hs
   cases n with
   | zero => rw [show g.status = .finished from hq] at hrun; cases hrun
   | succ n =>
    rcases hq with e | ⟨_, g', hst, hq⟩
    ·rw [e] at hrun; cases hrun
    ·obtain ⟨gs', hr, hsz, hP⟩ := h.quit (sl := sl) hi hd hst hq
     refine iM.step (hm0.trans hr) (next _ _ _ _ _ _ _ _ _ _ (by simpa using hP) ?_)
     rw [hsz]
     exact A1 (a := some (A3 n)) (b := some (A3 (n + 1))) hlt (by rw [hd]; rfl) rfl (ax6 n) (by rw [hd]; rfl)
  | w1 v m =>
   rw [hd] at hs
   obtain ⟨⟨y, hy, ⟨T, rfl, ho⟩ | ⟨rfl, g0, z, _, rfl⟩⟩, hpos⟩ := hs
   ·exact go false _ y T (by simp; omega) (by rw [hd]; intro n e; cases e) (by rw [hd]; rfl) hy ho (λ T' y' g' ho' => by rw [hd]; exact ⟨⟨y', rfl, .inl ⟨T', rfl, ho'⟩⟩, hpos⟩) (λ hk => nx (h.azW hi hd hpos hy hk))
   ·cases hrun
  | w2 m =>
   rw [hd] at hs
   obtain ⟨⟨y, hy, ⟨T, rfl, ho⟩ | ⟨rfl, g0, z, _, rfl⟩⟩, hpos⟩ := hs
   ·exact go false _ y T (by simp; omega) (by rw [hd]; intro n e; cases e) (by rw [hd]; rfl) hy ho (λ T' y' g' ho' => by rw [hd]; exact ⟨⟨y', rfl, .inl ⟨T', rfl, ho'⟩⟩, hpos⟩) (λ hk => nx (h.azX hi hd hpos hy hk))
   ·cases hrun
  | cl k m =>
   rw [hd] at hs
   obtain ⟨⟨y, hy, ⟨T, rfl, ho⟩ | ⟨rfl, hpk⟩⟩, hpos⟩ := hs
   ·refine go false _ y T (by simp; omega) (by rw [hd]; intro n e; cases e) (by rw [hd]; rfl) hy ho (λ T' y' g' ho' => by rw [hd]; exact ⟨⟨y', rfl, .inl ⟨T', rfl, ho'⟩⟩, hpos⟩) (λ hk => ?_)
    cases k with
    | zero => exact nx (h.azS hi hd hpos hy hk)
    | succ k => exact nx (h.azR hi hd hpos hy hk)
   ·cases k with
    | zero => exact hpk.elim
    | succ k => obtain ⟨g0, z, _, rfl⟩ := hpk; cases hrun
  | ms k sp m =>
   rw [hd] at hs
   obtain ⟨⟨y, hy, ⟨T, rfl, ho⟩ | ⟨rfl, hpk⟩⟩, rfl⟩ := hs
   ·exact go true _ y T rfl (by rw [hd]; intro n e; cases e) (by rw [hd]; rfl) hy ho (λ T' y' g' ho' => by rw [hd]; exact ⟨⟨y', rfl, .inl ⟨T', rfl, ho'⟩⟩, rfl⟩) (λ hk => nx (h.azV hi hd hy hk))
   ·exact hpk.elim
  | mr rem m =>
   rw [hd] at hs
   obtain ⟨⟨y, hy, ⟨T, rfl, ho⟩ | ⟨rfl, hpk⟩⟩, rfl⟩ := hs
   ·refine go true _ y T rfl (by rw [hd]; intro n e; cases e) (by rw [hd]; rfl) hy ho (λ T' y' g' ho' => by rw [hd]; exact ⟨⟨y', rfl, .inl ⟨T', rfl, ho'⟩⟩, rfl⟩) (λ hk => ?_)
    cases cw with
    | false =>
     obtain rfl : cls = none := by
      cases h.ph with
      | kL => rfl
      | iE => rfl
     exact nx (h.azU hi hd hy hk)
    | true =>
     obtain ⟨gs', g', ops, q, hr, hg', hJ, hA⟩ := h.azT (sl := sl) hi hd hy hk
     exact iM.step (hm0.trans hr) (hJ gs' w sl _ q hg' hA)
   ·generalize rem.length = n at hpk
    cases n <;> (obtain ⟨g0, z, _, rfl⟩ := hpk; cases hrun)
theorem PI.runs {gs : Array Goroutine} {w : World} {sl : Option (Nat × Nat)} {t : Trace} {D : Nat → Dt} {th : Nat → Option Th} {cw : Bool} {cls : Option Nat} {s1 s2 : Nat} (h : PI P B cf cd (MJ P B Post) D th cw cls s1 s2 bE bR gs w t) : iM P Post (crowd gs w sl) t := by
 obtain ⟨j, gj, d, UO, hj, RF, hst⟩ := crowd_pick (P := P) (gs := gs) (w := w) (sl := sl) (λ x hx => by
  obtain ⟨k, hk, rfl⟩ := Array.mem_iff_getElem.1 hx
  exact (h.fO k _ (Array.getElem?_eq_getElem hk)).awake) h.acv
 exact PI.ayT _ gs (w.at d) UO t D th cw cls s1 s2 (h.at d) rfl j gj hj RF _ hst
end
end Go.Lg
