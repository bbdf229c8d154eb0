/- The machine of the workers of hull.reckon: it runs to its end. Conditions: none. -/
import Derived.Test.YtabamagholjdcaaGreatDoorQLgA
import Derived.Conc.CrowdComm
namespace Go.Lg
open Go.Conc
inductive Tree : Type 1
 | node (ι : Type) (f : ι → Tree) : Tree
inductive TLt : Tree → Tree → Prop
 | mk {ι : Type} (f : ι → Tree) (i : ι) : TLt (f i) (.node ι f)
theorem TLt.acc (t : Tree) : Acc TLt t := by
 induction t with
 | node ι f ih => exact ⟨_, fun y h => by cases h; exact ih _⟩
abbrev Ms := Option Tree
inductive MLt : Ms → Ms → Prop
 | some {a b : Tree} : TLt a b → MLt (some a) (some b)
 | none {b : Tree} : MLt none (some b)
theorem MLt.acc_none : Acc MLt (Option.none : Ms) := ⟨_, fun y h => by cases h⟩
theorem MLt.acc (m : Ms) : Acc MLt m := by
 cases m with
 | none => exact MLt.acc_none
 | some t =>
  have := TLt.acc t
  induction this with
  | intro t _ ih =>
   refine ⟨_, fun y h => ?_⟩
   cases h with
   | some h => exact ih _ h
   | none => exact MLt.acc_none
inductive One {α : Type 1} (r : α → α → Prop) : List α → List α → Prop
 | head {a b : α} {l : List α} : r a b → One r (a :: l) (b :: l)
 | tail {a : α} {l l' : List α} : One r l l' → One r (a :: l) (a :: l')
theorem One.acc {α : Type 1} {r : α → α → Prop} (h : ∀ a, Acc r a) : ∀ l : List α, Acc (One r) l
 | [] => ⟨_, fun y h => by cases h⟩
 | b :: l => by
  have hb := h b
  have hl := One.acc h l
  induction hb generalizing l with
  | intro b _ ihb =>
   induction hl with
   | intro l hl' ihl =>
    refine ⟨_, fun y hy => ?_⟩
    cases hy with
    | head hr => exact ihb _ hr _ ⟨_, hl'⟩
    | tail ho => exact ihl _ ho
theorem One.wf : WellFounded (One MLt) := ⟨One.acc MLt.acc⟩
theorem One.set {α : Type 1} {r : α → α → Prop} : ∀ {l : List α} {i : Nat} {a b : α}, l[i]? = some b → r a b → One r (l.set i a) l
 | [], _, _, _, h, _ => by cases h
 | x :: l, 0, a, b, h, hr => by cases h; exact .head hr
 | x :: l, i + 1, a, b, h, hr => .tail (One.set (by simpa using h) hr)
def natT : Nat → Tree
 | 0 => .node Empty Empty.elim
 | n + 1 => .node Unit fun _ => natT n
theorem natT_lt (n : Nat) : MLt (some (natT n)) (some (natT (n + 1))) := .some (.mk (fun _ : Unit => natT n) ())
section
variable (P : Program) (B : Base) (main : Bool) (K : RMap → HList → Goroutine → Prop)
def OwnT : Tree → RMap → HList → Goroutine → Prop
 | .node _ f => fun R H g => K R H g ∨
  (g.status = .running ∧ ∀ w, Fits B R H w → ∃ g' w' es R' H' i, stepG P main g w = .go g' w' es ∧ (∀ e ∈ es, EvOk R H w.heap.size w'.heap.size e) ∧ Upd B R H w R' H' w' ∧ OwnT (f i) R' H' g') ∨
  (∃ R' H' i, (∀ w, Fits B R H w → Upd B R H w R' H' w) ∧ OwnT (f i) R' H' g)
def Own (R : RMap) (H : HList) (g : Goroutine) : Prop := ∃ T, OwnT P B main K T R H g
theorem Own.stop {R : RMap} {H : HList} {g : Goroutine} (h : K R H g) : Own P B main K R H g := ⟨.node Empty Empty.elim, .inl h⟩
open Classical in
def ownJd : Jd P B main where
 J := Own P B main K
 step := by
  intro R H g hs h
  refine ⟨.node { x : RMap × HList × Goroutine // Own P B main K x.1 x.2.1 x.2.2 } (fun x => x.2.choose), .inr (.inl ⟨hs, fun w hw => ?_⟩)⟩
  obtain ⟨g', w', es, R', H', h1, h2, h3, h4⟩ := h w hw
  exact ⟨g', w', es, R', H', ⟨(R', H', g'), h4⟩, h1, h2, h3, Exists.choose_spec h4⟩
 ghost := by
  intro R H R' H' g hg h
  exact ⟨.node Unit (fun _ => h.choose), .inr (.inr ⟨R', H', (), hg, h.choose_spec⟩)⟩
end
theorem nn {α : Type} {a : Option α} {u : α} {C : Prop} (h : a = none) (h' : a = some u) : C := by rw [h] at h'; cases h'
structure Th where
 R : RMap
 H : HList
def updT (th : Nat → Option Th) (i : Nat) (x : Option Th) : Nat → Option Th := fun j => if j = i then x else th j
theorem updT_same (th : Nat → Option Th) (i : Nat) (x : Option Th) : updT th i x i = x := by simp [updT]
theorem updT_ne {th : Nat → Option Th} {i j : Nat} {x : Option Th} (h : j ≠ i) : updT th i x j = th j := by simp [updT, h]
structure MemI (B : Base) (th : Nat → Option Th) (ch : HList) (w : World) : Prop where
 fits : ∀ i x, th i = some x → Fits B x.R x.H w
 apart : ∀ i j x y, i ≠ j → th i = some x → th j = some y → ∀ b o, (b, o) ∈ x.H → y.R b = none ∧ ∀ o', (b, o') ∉ y.H
 chans : ∀ c o, (c, o) ∈ ch → w.heap[c]? = some o
 chapart : ∀ c o, (c, o) ∈ ch → ∀ i x, th i = some x → x.R c = none ∧ ∀ o', (c, o') ∉ x.H
theorem Fits.at {B : Base} {R : RMap} {H : HList} {w : World} (h : Fits B R H w) (d : Nat) : Fits B R H (w.at d) := ⟨h.r, h.h, h.nd, h.dj, h.os, h.tape, h.out⟩
theorem MemI.at {B : Base} {th : Nat → Option Th} {ch : HList} {w : World} (h : MemI B th ch w) (d : Nat) : MemI B th ch (w.at d) :=
 ⟨fun i x hx => (h.fits i x hx).at d, h.apart, h.chans, h.chapart⟩
section
variable {B : Base} {th : Nat → Option Th} {ch : HList} {w w' : World} {i : Nat} {R R' : RMap} {H H' : HList}
theorem MemI.upd (h : MemI B th ch w) (hi : th i = some ⟨R, H⟩) (hu : Upd B R H w R' H' w') : MemI B (updT th i (some ⟨R', H'⟩)) ch w' := by
 have lt_of {j : Nat} {y : Th} (hy : th j = some y) : (∀ b o, y.R b = some o → b < w.heap.size) ∧ (∀ b o, (b, o) ∈ y.H → b < w.heap.size) :=
  ⟨fun b o x => lt_of_heap ((h.fits j y hy).r b o x), fun b o x => lt_of_heap ((h.fits j y hy).h b o x)⟩
 refine ⟨fun j y hy => ?_, fun j k x y hjk hx hy b o hb => ?_, fun c o hc => ?_, fun c o hc j y hy => ?_⟩
 ·by_cases hj : j = i
  ·subst hj; rw [updT_same] at hy; cases hy; exact hu.fits
  ·rw [updT_ne hj] at hy
   have hf := h.fits j y hy
   have hl := lt_of hy
   refine ⟨fun b o x => ?_, fun b o x => ?_, hf.nd, hf.dj, hu.fits.os, hu.fits.tape, hu.fits.out⟩
   ·rw [hu.same b (hl.1 b o x) fun o' ho' => nn (h.apart i j _ _ (Ne.symm hj) hi hy b o' ho').1 x]
    exact hf.r b o x
   ·rw [hu.same b (hl.2 b o x) fun o' ho' => (h.apart i j _ _ (Ne.symm hj) hi hy b o' ho').2 o x]
    exact hf.h b o x
 ·by_cases hj : j = i
  ·subst hj
   rw [updT_same] at hx; cases hx
   rw [updT_ne (Ne.symm hjk)] at hy
   rcases hu.newH b o hb with ⟨o', ho'⟩ | hge
   ·exact h.apart j k _ _ hjk hi hy b o' ho'
   ·refine ⟨?_, fun o' ho' => ?_⟩
    ·cases hR : y.R b with
     | none => rfl
     | some u => have := (lt_of hy).1 b u hR; omega
    ·have := (lt_of hy).2 b o' ho'; omega
  ·rw [updT_ne hj] at hx
   by_cases hk : k = i
   ·subst hk
    rw [updT_same] at hy; cases hy
    have hlt := (lt_of hx).2 b o hb
    have hap := h.apart j k _ _ hjk hx hi b o hb
    refine ⟨?_, fun o' ho' => ?_⟩
    ·cases hR : R' b with
     | none => simp [hR]
     | some u =>
      rcases hu.newR b u hR with x | ⟨o', x⟩ | x
      ·exact nn hap.1 x
      ·exact absurd x (hap.2 o')
      ·omega
    ·rcases hu.newH b o' ho' with ⟨u, x⟩ | x
     ·exact hap.2 u x
     ·omega
   ·rw [updT_ne hk] at hy
    exact h.apart j k _ _ hjk hx hy b o hb
 ·have hlt := lt_of_heap (h.chans c o hc)
  rw [hu.same c hlt fun o' ho' => (h.chapart c o hc i _ hi).2 o' ho']
  exact h.chans c o hc
 ·by_cases hj : j = i
  ·subst hj
   rw [updT_same] at hy; cases hy
   have hlt := lt_of_heap (h.chans c o hc)
   have hap := h.chapart c o hc j _ hi
   refine ⟨?_, fun o' ho' => ?_⟩
   ·cases hR : R' c with
    | none => simp [hR]
    | some u =>
     rcases hu.newR c u hR with x | ⟨o', x⟩ | x
     ·exact nn hap.1 x
     ·exact absurd x (hap.2 o')
     ·omega
   ·rcases hu.newH c o' ho' with ⟨u, x⟩ | x
    ·exact hap.2 u x
    ·omega
  ·rw [updT_ne hj] at hy
   exact h.chapart c o hc j y hy
theorem MemI.drop (h : MemI B th ch w) : MemI B (updT th i none) ch w := by
 have key : ∀ j y, updT th i none j = some y → th j = some y := fun j y hy => by
  by_cases hj : j = i
  ·subst hj; rw [updT_same] at hy; cases hy
  ·rwa [updT_ne hj] at hy
 exact ⟨fun j y hy => h.fits j y (key j y hy), fun j k x y hjk hx hy => h.apart j k x y hjk (key j x hx) (key k y hy), h.chans, fun c o hc j y hy => h.chapart c o hc j y (key j y hy)⟩
theorem MemI.add {c : Nat} (h : MemI B th ch w) (hi : th i = some ⟨R, H⟩) (hR : RLe R' R) : MemI B (updT th c (some ⟨R', []⟩)) ch w := by
 refine ⟨fun j y hy => ?_, fun j k x y hjk hx hy b o hb => ?_, h.chans, fun a o ha j y hy => ?_⟩
 ·by_cases hj : j = c
  ·subst hj; rw [updT_same] at hy; cases hy
   have hf := h.fits i _ hi
   exact ⟨fun b o x => hf.r b o (hR b o x), fun b o x => (by cases x), List.nodup_nil, fun b o x => (by cases x), hf.os, hf.tape, hf.out⟩
  ·rw [updT_ne hj] at hy; exact h.fits j y hy
 ·by_cases hj : j = c
  ·subst hj; rw [updT_same] at hx; cases hx; cases hb
  ·rw [updT_ne hj] at hx
   by_cases hk : k = c
   ·subst hk
    rw [updT_same] at hy; cases hy
    refine ⟨?_, fun o' x => by cases x⟩
    cases hRb : R' b with
    | none => simp [hRb]
    | some u =>
     have hRu := hR b u hRb
     by_cases hji : j = i
     ·subst hji
      rw [hi] at hx; cases hx
      exact nn ((h.fits j _ hi).dj b o hb) hRu
     ·exact nn (h.apart j i _ _ hji hx hi b o hb).1 hRu
   ·rw [updT_ne hk] at hy; exact h.apart j k x y hjk hx hy b o hb
 ·by_cases hj : j = c
  ·subst hj; rw [updT_same] at hy; cases hy
   refine ⟨?_, fun o' x => by cases x⟩
   cases hRb : R' a with
   | none => simp [hRb]
   | some u => exact nn (h.chapart a o ha i _ hi).1 (hR a u hRb)
  ·rw [updT_ne hj] at hy; exact h.chapart a o ha j y hy
end
end Go.Lg
namespace Go.Lg
open Go.Conc
abbrev Kn (t : Trace) (g i : Nat) : Prop := Go.Conc.Knows t g i
def blk : Loc → Option Nat
 | .cell a => some a.block
 | .obj r => some r
 | _ => none
structure TrI (th : Nat → Option Th) (ch : HList) (cls : Option Nat) (n : Nat) (t : Trace) : Prop where
 own : ∀ i x, th i = some x → ∀ b o, (b, o) ∈ x.H → ∀ k a, touchAt t k = some a → blk a.loc = some b → Kn t i k
 read : ∀ i x, th i = some x → ∀ b o, x.R b = some o → ∀ k a, touchAt t k = some a → blk a.loc = some b → a.write = true → Kn t i k
 chk : ∀ c o, (c, o) ∈ ch → ∀ i x, th i = some x → ∀ k a, touchAt t k = some a → blk a.loc = some c → a.kind = .atomic ∨ Kn t i k
 low : ∀ op ∈ t, op.act.low n
 all : ∀ k a, touchAt t k = some a → a.loc.isMemory = true → (∃ i x, th i = some x ∧ Kn t i k) ∨ (∃ c p, cls = some c ∧ t.act? p = some (.close c) ∧ Before t k p)
 clean : ∀ said, ¬ Race said t
 quiet : Wordless t
theorem touch_low {x : MemAct} {a : Touch} {n b : Nat} (h : x.low n) (ht : x.touch? = some a) (hb : blk a.loc = some b) : b < n := by
 cases x with
 | access e =>
  simp only [MemAct.touch?, Option.some.injEq] at ht
  subst ht
  obtain ⟨loc, wr, sy⟩ := e
  cases loc <;> simp [blk] at hb <;> subst hb <;> exact h
 | mark m =>
  cases m <;> simp only [MemAct.touch?, Option.some.injEq, reduceCtorEq] at ht
  all_goals (subst ht; simp [blk] at hb; subst hb; exact h)
 | _ => simp [MemAct.touch?] at ht
def OpOk (ch : HList) (R : RMap) (H : HList) (n : Nat) (a : Touch) : Prop :=
 ∃ b, blk a.loc = some b ∧ ((a.write = false ∧ ∃ o, R b = some o) ∨ (∃ o, (b, o) ∈ H) ∨ n ≤ b ∨ (a.kind = .atomic ∧ ∃ o, (b, o) ∈ ch))
theorem new_or_old {t u : Trace} {k : Nat} {a : Touch} (h : touchAt (t ++ u) k = some a) : (k < t.size ∧ touchAt t k = some a) ∨ (∃ op, (t ++ u)[k]? = some op ∧ op ∈ u ∧ op.act.touch? = some a) := by
 obtain ⟨x, hx, hxa⟩ := touch_of h
 rcases getElem?_append_cases hx with ⟨hk, hx'⟩ | ⟨_, hxu⟩
 ·exact .inl ⟨hk, by rw [touchAt_of hx']; exact hxa⟩
 ·exact .inr ⟨x, hx, hxu, hxa⟩
theorem lt_of_touchAt {t : Trace} {k b n : Nat} {a : Touch} (hl : ∀ op ∈ t, op.act.low n) (h : touchAt t k = some a) (hb : blk a.loc = some b) : b < n := by
 obtain ⟨x, hx, hxa⟩ := touch_of h
 exact touch_low (hl x (mem_of_getElem? hx)) hxa hb
section
variable {B : Base} {th : Nat → Option Th} {ch : HList} {cls : Option Nat} {w : World} {n n' i : Nat} {R R' : RMap} {H H' : HList} {t u : Trace}
theorem closed_app {k : Nat} (h : ∃ c p, cls = some c ∧ t.act? p = some (.close c) ∧ Before t k p) : ∃ c p, cls = some c ∧ (t ++ u).act? p = some (.close c) ∧ Before (t ++ u) k p := by
 obtain ⟨c, p, h1, h2, h3⟩ := h
 exact ⟨c, p, h1, by rw [act?_old (lt_of_act? h2)]; exact h2, h3.app u⟩
theorem TrI.app (hM : MemI B th ch w) (hn : w.heap.size = n) (h : TrI th ch cls n t) (hi : th i = some ⟨R, H⟩) (hu : ∀ op ∈ u, op.g = i)
  (ht : ∀ op ∈ u, ∀ a, op.act.touch? = some a → OpOk ch R H n a) (hl : ∀ op ∈ u, op.act.low n') (hw : Wordless u) (hnn : n ≤ n')
  (hR : ∀ b o, R' b = some o → R b = some o ∨ (∃ o', (b, o') ∈ H) ∨ n ≤ b) (hH : ∀ b o, (b, o) ∈ H' → (∃ o', (b, o') ∈ H) ∨ n ≤ b) :
  TrI (updT th i (some ⟨R', H'⟩)) ch cls n' (t ++ u) := by
 have lt_of {j : Nat} {y : Th} (hy : th j = some y) : (∀ b o, y.R b = some o → b < n) ∧ (∀ b o, (b, o) ∈ y.H → b < n) :=
  ⟨fun b o x => hn ▸ lt_of_heap ((hM.fits j y hy).r b o x), fun b o x => hn ▸ lt_of_heap ((hM.fits j y hy).h b o x)⟩
 have lt_ch : ∀ c o, (c, o) ∈ ch → c < n := fun c o hc => hn ▸ lt_of_heap (hM.chans c o hc)
 have new_own : ∀ k op, (t ++ u)[k]? = some op → op ∈ u → Kn (t ++ u) i k := fun k op h1 h2 => by
  have := knows_own h1; rwa [hu op h2] at this
 refine ⟨fun j y hy b o hb k a hk hab => ?_, fun j y hy b o hb k a hk hab hwr => ?_, fun c o hc j y hy k a hk hab => ?_, fun op hop => ?_, fun k a hk hm => ?_, fun said => ?_, h.quiet.append hw⟩
 ·by_cases hj : j = i
  ·subst hj; rw [updT_same] at hy; cases hy
   rcases new_or_old hk with ⟨_, hk'⟩ | ⟨op, h1, h2, _⟩
   ·rcases hH b o hb with ⟨o', ho'⟩ | hge
    ·exact (h.own j _ hi b o' ho' k a hk' hab).app u
    ·have := lt_of_touchAt h.low hk' hab; omega
   ·exact new_own k op h1 h2
  ·rw [updT_ne hj] at hy
   rcases new_or_old hk with ⟨_, hk'⟩ | ⟨op, h1, h2, h3⟩
   ·exact (h.own j y hy b o hb k a hk' hab).app u
   ·obtain ⟨b', hb', hc⟩ := ht op h2 a h3
    rw [hab] at hb'; cases hb'
    have hap := hM.apart j i _ _ hj hy hi b o hb
    rcases hc with ⟨_, o', x⟩ | ⟨o', x⟩ | x | ⟨_, o', x⟩
    ·exact nn hap.1 x
    ·exact absurd x (hap.2 o')
    ·have := (lt_of hy).2 b o hb; omega
    ·exact absurd hb ((hM.chapart b o' x j y hy).2 o)
 ·by_cases hj : j = i
  ·subst hj; rw [updT_same] at hy; cases hy
   rcases new_or_old hk with ⟨_, hk'⟩ | ⟨op, h1, h2, _⟩
   ·rcases hR b o hb with x | ⟨o', x⟩ | x
    ·exact (h.read j _ hi b o x k a hk' hab hwr).app u
    ·exact (h.own j _ hi b o' x k a hk' hab).app u
    ·have := lt_of_touchAt h.low hk' hab; omega
   ·exact new_own k op h1 h2
  ·rw [updT_ne hj] at hy
   rcases new_or_old hk with ⟨_, hk'⟩ | ⟨op, h1, h2, h3⟩
   ·exact (h.read j y hy b o hb k a hk' hab hwr).app u
   ·obtain ⟨b', hb', hc⟩ := ht op h2 a h3
    rw [hab] at hb'; cases hb'
    rcases hc with ⟨x, _⟩ | ⟨o', x⟩ | x | ⟨_, o', x⟩
    ·rw [hwr] at x; cases x
    ·exact nn (hM.apart i j _ _ (Ne.symm hj) hi hy b o' x).1 hb
    ·have := (lt_of hy).1 b o hb; omega
    ·exact nn (hM.chapart b o' x j y hy).1 hb
 ·by_cases hj : j = i
  ·subst hj
   rcases new_or_old hk with ⟨_, hk'⟩ | ⟨op, h1, h2, _⟩
   ·exact (h.chk c o hc j _ hi k a hk' hab).imp id (·.app u)
   ·exact .inr (new_own k op h1 h2)
  ·rw [updT_ne hj] at hy
   rcases new_or_old hk with ⟨_, hk'⟩ | ⟨op, h1, h2, h3⟩
   ·exact (h.chk c o hc j y hy k a hk' hab).imp id (·.app u)
   ·obtain ⟨b', hb', hcc⟩ := ht op h2 a h3
    rw [hab] at hb'; cases hb'
    rcases hcc with ⟨_, o', x⟩ | ⟨o', x⟩ | x | ⟨x, _⟩
    ·exact nn (hM.chapart c o hc i _ hi).1 x
    ·exact absurd x ((hM.chapart c o hc i _ hi).2 o')
    ·have := lt_ch c o hc; omega
    ·exact .inl x
 ·rcases Array.mem_append.1 hop with x | x
  ·exact MemAct.low_mono hnn (h.low op x)
  ·exact hl op x
 ·rcases new_or_old hk with ⟨_, hk'⟩ | ⟨op, h1, h2, _⟩
  ·rcases h.all k a hk' hm with ⟨j, y, hy, hkn⟩ | hcl
   ·by_cases hj : j = i
    ·subst hj; exact .inl ⟨j, _, updT_same _ _ _, hkn.app u⟩
    ·exact .inl ⟨j, y, by rw [updT_ne hj]; exact hy, hkn.app u⟩
   ·exact .inr (closed_app hcl)
  ·exact .inl ⟨i, _, updT_same _ _ _, new_own k op h1 h2⟩
 ·refine noRace_append (h.clean said) hu fun k a hk op hop b hb hc => ?_
  obtain ⟨hloc, hmem, hwr, hpl⟩ := hc
  obtain ⟨bb, hbb, hcs⟩ := ht op hop b hb
  have hab : blk a.loc = some bb := by rw [hloc]; exact hbb
  rcases hcs with ⟨x, o, ho⟩ | ⟨o, x⟩ | x | ⟨x, o, ho⟩
  ·have haw : a.write = true := by
    rcases hwr with y | y
    ·exact y
    ·rw [x] at y; cases y
   exact h.read i _ hi bb o ho k a hk hab haw
  ·exact h.own i _ hi bb o x k a hk hab
  ·have := lt_of_touchAt h.low hk hab; omega
  ·rcases h.chk bb o ho i _ hi k a hk hab with y | y
   ·rcases hpl with z | z | ⟨_, z, _⟩
    ·rw [y] at z; cases z
    ·rw [x] at z; cases z
    ·rw [y] at z; cases z
   ·exact y
theorem noRace_mute {said : Bool} (h : ¬ Race said t) (hu : ∀ op ∈ u, op.act.touch? = none) : ¬ Race said (t ++ u) := by
 rintro ⟨i, j, hij, ⟨a, b, ha, hb, hc⟩, n1, n2⟩
 rcases new_or_old (u := u) (a := a) (k := i) ha with ⟨hi, ha'⟩ | ⟨op, _, h2, h3⟩
 ·rcases new_or_old (u := u) (a := b) (k := j) hb with ⟨hj, hb'⟩ | ⟨op, _, h2, h3⟩
  ·exact h ⟨i, j, hij, ⟨a, b, ha', hb', hc⟩, fun e => n1 (hb_app u e), fun e => n2 (hb_app u e)⟩
  ·rw [hu op h2] at h3; cases h3
 ·rw [hu op h2] at h3; cases h3
theorem TrI.mute (h : TrI th ch cls n t) (hu : ∀ op ∈ u, op.act.touch? = none) (hl : ∀ op ∈ u, op.act.low n) (hw : Wordless u) : TrI th ch cls n (t ++ u) := by
 have old : ∀ {k a}, touchAt (t ++ u) k = some a → touchAt t k = some a := fun {k a} hk => by
  rcases new_or_old hk with ⟨_, x⟩ | ⟨op, _, h2, h3⟩
  ·exact x
  ·rw [hu op h2] at h3; cases h3
 exact ⟨fun j y hy b o hb k a hk hab => (h.own j y hy b o hb k a (old hk) hab).app u, fun j y hy b o hb k a hk hab hwr => (h.read j y hy b o hb k a (old hk) hab hwr).app u,
  fun c o hc j y hy k a hk hab => (h.chk c o hc j y hy k a (old hk) hab).imp id (·.app u), fun op hop => (Array.mem_append.1 hop).elim (h.low op) (hl op),
  fun k a hk hm => (h.all k a (old hk) hm).imp (fun ⟨j, y, hy, hkn⟩ => ⟨j, y, hy, hkn.app u⟩) closed_app, fun said => noRace_mute (h.clean said) hu, h.quiet.append hw⟩
theorem kn_spawn {g c : Nat} {x y : MemOp} (hw : Wordless (t ++ #[x, y])) (hx : x.g = g) (hxa : x.act = .go c) (hy : y.g = c) (hya : y.act = .start) {k : Nat} (h : Kn t g k) : Kn (t ++ #[x, y]) c k := by
 have e1 : (t ++ #[x, y])[t.size]? = some x := by simp
 have e2 : (t ++ #[x, y])[t.size + 1]? = some y := by simp [Array.getElem?_append]
 have h1 := Go.Conc.Knows.hb_new h (Nat.le_refl _) e1 hx
 exact ⟨t.size + 1, y, e2, hy, .inr (h1.trans (.single (.inr ⟨.spawn (child := c) (by rw [act?_of e1, hxa]) (by rw [act?_of e2, hya]) (by simp [Trace.g?, e2, hy]), hw.heard e1, hw.heard e2⟩)))⟩
theorem kn_meet {a b c s p q : Nat} {x y : MemOp} (hw : Wordless (t ++ u)) (hp : t.size ≤ p) (h1 : (t ++ u)[p]? = some x) (hx : x.g = a) (hxa : x.act = .send c s) (h2 : (t ++ u)[q]? = some y) (hy : y.g = b) (hya : y.act = .recvDone c s) {k : Nat} (h : Kn t a k) : Kn (t ++ u) b k := by
 have e := Go.Conc.Knows.hb_new h hp h1 hx
 exact ⟨q, y, h2, hy, .inr (e.trans (.single (.inr ⟨.handOver (c := c) (k := s) (by rw [act?_of h1, hxa]) (by rw [act?_of h2, hya]), hw.heard h1, hw.heard h2⟩)))⟩
theorem kn_closed {b c p : Nat} {y : MemOp} (hw : Wordless (t ++ #[y])) (hp : t.act? p = some (.close c)) (hy : y.g = b) (hya : y.act = .recvClosed c) {k : Nat} (h : Before t k p) : Kn (t ++ #[y]) b k := by
 have e2 : (t ++ #[y])[t.size]? = some y := by simp
 obtain ⟨x, hx, _⟩ := Option.map_eq_some_iff.1 hp
 have hx' : (t ++ #[y])[p]? = some x := by rw [getElem?_append_old (lt_size_of_getElem? hx)]; exact hx
 exact ⟨t.size, y, e2, hy, .inr ((h.app #[y]).hb (.single (.inr ⟨.closed (c := c) (by rw [act?_old (lt_of_act? hp)]; exact hp) (by rw [act?_of e2, hya]), hw.heard hx', hw.heard e2⟩)))⟩
end
end Go.Lg
namespace Go.Lg
open Go.Conc
def sumT : Nat → (Nat → Nat) → Nat
 | 0, _ => 0
 | j + 1, f => sumT j f + f j
theorem sumT_congr {f g : Nat → Nat} : ∀ {j : Nat}, (∀ i, i < j → f i = g i) → sumT j f = sumT j g
 | 0, _ => rfl
 | j + 1, h => by rw [sumT, sumT, sumT_congr (fun i hi => h i (by omega)), h j (by omega)]
theorem sumT_upd {f g : Nat → Nat} {i : Nat} : ∀ {j : Nat}, i < j → (∀ k, k ≠ i → g k = f k) → sumT j g + f i = sumT j f + g i
 | j + 1, h, hg => by
  rcases Nat.lt_or_ge i j with hlt | hge
  ·have := sumT_upd hlt hg
   simp only [sumT, hg j (by omega)]
   omega
  ·obtain rfl : i = j := by omega
   simp only [sumT]
   rw [sumT_congr (g := f) (fun a ha => hg a (by omega))]
   omega
section
variable (P : Program) (Post : Value → World → Prop)
def Runs (m : Machine) (t : Trace) : Prop := ∃ N last o w' t', runNT P (N + 1) m t = (.ended o w', t') ∧ runN P N m = .next last ∧ step P last = .ended o w' ∧ Good P Post last o w' t'
variable {P Post}
theorem Runs.step {m m' : Machine} {t : Trace} {ops : Array MemOp} (hs : stepT P m = (.next m', ops)) (h : Runs P Post m' (t ++ ops)) : Runs P Post m t := by
 obtain ⟨N, last, o, w', t', h1, h2, h3, h4⟩ := h
 exact ⟨N + 1, last, o, w', t', by rw [runNT_succ_next hs]; exact h1, by rw [runN_succ_next hs]; exact h2, h3, h4⟩
theorem Runs.end {m : Machine} {t : Trace} {o : Outcome} {w' : World} {ops : Array MemOp} (hs : stepT P m = (.ended o w', ops)) (h : Good P Post m o w' (t ++ ops)) : Runs P Post m t :=
 ⟨0, m, o, w', t ++ ops, by simp [runNT, hs], rfl, by simp [Go.step, hs], h⟩
end
theorem mem_ofEv {g : Nat} {fn : FuncId} {pos : String} {es : Array Event} {op : MemOp} (h : op ∈ MemOp.ofEvents g fn pos es) : ∃ e ∈ es, op = { g, fn, pos, act := .ofEvent e } := by
 rw [ofEvents_eq] at h
 obtain ⟨e, he, rfl⟩ := Array.mem_map.1 h
 exact ⟨e, he, rfl⟩
section
variable {R : RMap} {H : HList} {n m : Nat} {e : Event} {ch : HList}
theorem evOk_touch {a : Touch} (h : EvOk R H n m e) (ht : (MemAct.ofEvent e).touch? = some a) : OpOk ch R H n a := by
 obtain ⟨loc, wr, sy⟩ := e
 have key : ∀ b, Touchable R H n wr b → ((wr = false ∧ ∃ o, R b = some o) ∨ (∃ o, (b, o) ∈ H) ∨ n ≤ b) := fun b hb => by
  rcases hb with ⟨h1, h2⟩ | h2 | h2
  ·exact .inl ⟨h1, Option.isSome_iff_exists.1 h2⟩
  ·exact .inr (.inl h2)
  ·exact .inr (.inr h2)
 cases loc with
 | cell a' =>
  obtain ⟨h1, _, h3⟩ := h
  simp only at h1; subst h1
  have e1 : MemAct.ofEvent ⟨.cell a', wr, false⟩ = .access ⟨.cell a', wr, false⟩ := by cases wr <;> rfl
  rw [e1] at ht
  simp only [MemAct.touch?, Option.some.injEq] at ht
  subst ht
  refine ⟨a'.block, rfl, ?_⟩
  rcases key _ h3 with x | x | x
  ·exact .inl x
  ·exact .inr (.inl x)
  ·exact .inr (.inr (.inl x))
 | obj b =>
  obtain ⟨h1, _, h3⟩ := h
  simp only at h1; subst h1
  have e1 : MemAct.ofEvent ⟨.obj b, wr, false⟩ = .access ⟨.obj b, wr, false⟩ := by cases wr <;> rfl
  rw [e1] at ht
  simp only [MemAct.touch?, Option.some.injEq] at ht
  subst ht
  refine ⟨b, rfl, ?_⟩
  rcases key _ h3 with x | x | x
  ·exact .inl x
  ·exact .inr (.inl x)
  ·exact .inr (.inr (.inl x))
 | mark mk =>
  cases mk <;> simp [EvOk] at h
  cases wr <;> cases sy <;> simp [MemAct.ofEvent, MemAct.touch?] at ht
 | _ => simp [EvOk] at h
theorem evOk_low (h : EvOk R H n m e) : (MemAct.ofEvent e).low m := by
 obtain ⟨loc, wr, sy⟩ := e
 cases loc with
 | cell a' =>
  obtain ⟨h1, h2, _⟩ := h
  simp only at h1; subst h1
  cases wr <;> exact h2
 | obj b =>
  obtain ⟨h1, h2, _⟩ := h
  simp only at h1; subst h1
  cases wr <;> exact h2
 | mark mk =>
  cases mk <;> simp [EvOk] at h
  cases wr <;> cases sy <;> trivial
 | _ => simp [EvOk] at h
theorem evOk_word (h : EvOk R H n m e) : ∀ mk, MemAct.ofEvent e = .mark mk → Neutral mk := by
 obtain ⟨loc, wr, sy⟩ := e
 intro mk hm
 cases loc with
 | cell a' => obtain ⟨h1, _⟩ := h; simp only at h1; subst h1; cases wr <;> cases hm
 | obj b => obtain ⟨h1, _⟩ := h; simp only at h1; subst h1; cases wr <;> cases hm
 | mark mk' =>
  cases mk' <;> simp [EvOk] at h
  cases wr <;> cases sy <;> (cases hm; rfl)
 | _ => simp [EvOk] at h
end
section
variable {B : Base} {th : Nat → Option Th} {ch : HList} {cls : Option Nat} {w w' : World} {i : Nat} {R R' : RMap} {H H' : HList} {t : Trace}
theorem own_step (hM : MemI B th ch w) (h : TrI th ch cls w.heap.size t) (hi : th i = some ⟨R, H⟩) {es : Array Event} (hes : ∀ e ∈ es, EvOk R H w.heap.size w'.heap.size e) (hu : Upd B R H w R' H' w') (fn : FuncId) (pos : String) :
  MemI B (updT th i (some ⟨R', H'⟩)) ch w' ∧ TrI (updT th i (some ⟨R', H'⟩)) ch cls w'.heap.size (t ++ MemOp.ofEvents i fn pos es) := by
 refine ⟨hM.upd hi hu, TrI.app hM rfl h hi ?_ ?_ ?_ ?_ hu.size hu.newR hu.newH⟩
 ·intro op hop; obtain ⟨e, _, rfl⟩ := mem_ofEv hop; rfl
 ·intro op hop a ha; obtain ⟨e, he, rfl⟩ := mem_ofEv hop; exact evOk_touch (hes e he) ha
 ·intro op hop; obtain ⟨e, he, rfl⟩ := mem_ofEv hop; exact evOk_low (hes e he)
 ·intro op hop mk hm; obtain ⟨e, he, rfl⟩ := mem_ofEv hop; exact evOk_word (hes e he) mk hm
theorem ghost_step (hM : MemI B th ch w) (h : TrI th ch cls w.heap.size t) (hi : th i = some ⟨R, H⟩) (hu : Upd B R H w R' H' w) :
  MemI B (updT th i (some ⟨R', H'⟩)) ch w ∧ TrI (updT th i (some ⟨R', H'⟩)) ch cls w.heap.size t := by
 have := own_step (w' := w) (es := #[]) hM h hi (by simp) hu 0 ""
 rw [ofEvents_none, Array.append_empty] at this
 exact this
end
def only (x : Th) : Nat → Option Th := fun i => if i = 0 then some x else none
theorem only_upd (x y : Th) : updT (only x) 0 (some y) = only y := by funext i; unfold updT only; split <;> rfl
structure Alone (P : Program) (B : Base) (R : RMap) (H : HList) (gs : Array Goroutine) (w : World) (t : Trace) (q : Nat → Nat) : Prop where
 mem : MemI B (only ⟨R, H⟩) [] w
 tr : TrI (only ⟨R, H⟩) [] none w.heap.size t
 lv : ∀ i g, 0 < i → gs[i]? = some g → QuitsIn P (q i) g
section
variable (P : Program) (B : Base) (Post : Value → World → Prop)
def MJ (R : RMap) (H : HList) (g : Goroutine) : Prop := ∀ gs w sl t q, gs[0]? = some g → Alone P B R H gs w t q → Runs P Post (crowd gs w sl) t
end
section
variable {P : Program} {B : Base} {Post : Value → World → Prop} {R : RMap} {H : HList} {g : Goroutine}
theorem Alone.fits {gs : Array Goroutine} {w : World} {t : Trace} {q : Nat → Nat} (h : Alone P B R H gs w t q) : Fits B R H w := h.mem.fits 0 ⟨R, H⟩ rfl
theorem Alone.at {gs : Array Goroutine} {w : World} {t : Trace} {q : Nat → Nat} (h : Alone P B R H gs w t q) (d : Nat) : Alone P B R H gs (w.at d) t q := ⟨h.mem.at d, h.tr, h.lv⟩
theorem woken_quitsIn {g g' b : Goroutine} {w' : World} {k : Nat} (hB : QuitsIn P k b) : woken P g g' w' b = b := by
 unfold woken
 split
 ·exact again_running _ hB.status
 ·rfl
theorem MJ.pick (hs : g.status = .running)
  (h : ∀ gs w sl sl' d t q, gs[0]? = some g → Alone P B R H gs (w.at d) t q → stepT P (crowd gs w sl) = runT P (crowd gs (w.at d) sl') 0 → Runs P Post (crowd gs w sl) t) : MJ P B Post R H g := by
 have key : ∀ M gs w sl t q, sumT gs.size q ≤ M → gs[0]? = some g → Alone P B R H gs w t q → Runs P Post (crowd gs w sl) t := by
  intro M
  induction M with
  | zero =>
   intro gs w sl t q hM h0 hA
   have haw : ∀ x ∈ gs, awake x := by
    intro x hx
    obtain ⟨i, hi, rfl⟩ := Array.mem_iff_getElem.1 hx
    rcases Nat.eq_zero_or_pos i with rfl | hpos
    ·have : gs[0] = g := by simpa [Array.getElem?_eq_getElem hi] using h0
     rw [this]; exact awake_of (.inl hs)
    ·exact awake_of ((hA.lv i _ hpos (Array.getElem?_eq_getElem hi)).status.elim .inl fun x => .inr (.inr x))
   obtain ⟨i, x, d, sl', hi, hx, hst⟩ := crowd_pick (P := P) (w := w) (sl := sl) haw ⟨0, g, h0, hs⟩
   rcases Nat.eq_zero_or_pos i with rfl | hpos
   ·exact h gs w sl sl' d t q h0 (hA.at d) hst
   ·have hq := hA.lv i x hpos hi
    have hlt : i < gs.size := (Array.getElem?_eq_some_iff.1 hi).1
    have hq0 : q i = 0 := by
     have := sumT_upd (f := q) (g := fun k => if k = i then q i + 0 else q k) hlt (fun k hk => by simp [hk])
     have h2 : ∀ (j : Nat), i < j → q i ≤ sumT j q := by
      intro j hj
      induction j with
      | zero => omega
      | succ j ih =>
       rcases Nat.lt_or_ge i j with hlt | hge
       ·have := ih hlt; simp only [sumT]; omega
       ·obtain rfl : i = j := by omega
        simp only [sumT]; omega
     have := h2 gs.size hlt
     omega
    rw [hq0] at hq
    rw [show x.status = .finished from hq] at hx; cases hx
  | succ M ih =>
   intro gs w sl t q hM h0 hA
   have haw : ∀ x ∈ gs, awake x := by
    intro x hx
    obtain ⟨i, hi, rfl⟩ := Array.mem_iff_getElem.1 hx
    rcases Nat.eq_zero_or_pos i with rfl | hpos
    ·have : gs[0] = g := by simpa [Array.getElem?_eq_getElem hi] using h0
     rw [this]; exact awake_of (.inl hs)
    ·exact awake_of ((hA.lv i _ hpos (Array.getElem?_eq_getElem hi)).status.elim .inl fun x => .inr (.inr x))
   obtain ⟨i, x, d, sl', hi, hx, hst⟩ := crowd_pick (P := P) (w := w) (sl := sl) haw ⟨0, g, h0, hs⟩
   rcases Nat.eq_zero_or_pos i with rfl | hpos
   ·exact h gs w sl sl' d t q h0 (hA.at d) hst
   ·have hq := hA.lv i x hpos hi
    have hi0 : (i == 0) = false := by simp; omega
    have hlt : i < gs.size := (Array.getElem?_eq_some_iff.1 hi).1
    cases hqi : q i with
    | zero => rw [hqi] at hq; rw [show x.status = .finished from hq] at hx; cases hx
    | succ k =>
     rw [hqi] at hq
     rcases hq with hf | ⟨_, x', hstp, hq'⟩
     ·rw [hf] at hx; cases hx
     have hrunT := runT_crowd_go (P := P) (sl := sl') (i := i) hi (by rw [hi0]; exact hstp (w.at d))
     rw [ofEvents_none] at hrunT
     refine Runs.step (hst.trans hrunT) ?_
     rw [Array.append_empty]
     have hsz : ((gs.map (woken P x x' (w.at d))).setIfInBounds i x').size = gs.size := by simp
     have hsum := sumT_upd (f := q) (g := fun j => if j = i then k else q j) hlt (fun j hj => by simp [hj])
     simp only [if_true, hqi] at hsum
     refine ih _ _ _ _ (fun j => if j = i then k else q j) (by rw [hsz]; omega) ?_ ⟨(hA.at d).mem, hA.tr, fun j y hj hy => ?_⟩
     ·have hne : i ≠ 0 := by omega
      rw [Array.getElem?_setIfInBounds_ne hne, Array.getElem?_map, h0]
      simp [woken_run hs]
     ·by_cases hji : i = j
      ·subst hji
       rw [Array.getElem?_setIfInBounds_self_of_lt (by simpa using hlt)] at hy
       obtain rfl := Option.some.inj hy
       simpa using hq'
      ·rw [Array.getElem?_setIfInBounds_ne hji, Array.getElem?_map] at hy
       obtain ⟨z, hz, rfl⟩ := Option.map_eq_some_iff.1 hy
       have hqj := hA.lv j z hj hz
       rw [woken_quitsIn hqj]
       simpa [Ne.symm hji] using hqj
 exact fun gs w sl t q h0 hA => key _ gs w sl t q (Nat.le_refl _) h0 hA
theorem MJ.step (hs : g.status = .running) (h : ∀ w, Fits B R H w → ∃ g' w' es R' H', stepG P true g w = .go g' w' es ∧ (∀ e ∈ es, EvOk R H w.heap.size w'.heap.size e) ∧ Upd B R H w R' H' w' ∧ MJ P B Post R' H' g') : MJ P B Post R H g := by
 refine MJ.pick hs fun gs w sl sl' d t q h0 hA hst => ?_
 obtain ⟨g', w', es, R', H', h1, h2, h3, h4⟩ := h _ hA.fits
 have hrunT := runT_crowd_go (P := P) (sl := sl') (i := 0) h0 (show stepG P (0 == 0) g (w.at d) = _ from h1)
 refine Runs.step (hst.trans hrunT) ?_
 have hlt : 0 < gs.size := (Array.getElem?_eq_some_iff.1 h0).1
 have hst := own_step hA.mem hA.tr (i := 0) rfl h2 h3 g.frame.fn g.frame.place
 rw [only_upd] at hst
 refine h4 _ _ _ _ q (by simp [hlt]) ⟨hst.1, hst.2, fun j x hj hx => ?_⟩
 have hne : 0 ≠ j := by omega
 rw [Array.getElem?_setIfInBounds_ne hne, Array.getElem?_map] at hx
 obtain ⟨y, hy, rfl⟩ := Option.map_eq_some_iff.1 hx
 have hq := hA.lv j y hj hy
 rw [woken_quitsIn hq]
 exact hq
theorem MJ.ghost {R' : RMap} {H' : HList} (hg : ∀ w, Fits B R H w → Upd B R H w R' H' w) (h : MJ P B Post R' H' g) : MJ P B Post R H g := by
 intro gs w sl t q h0 hA
 have hst := ghost_step hA.mem hA.tr (i := 0) rfl (hg w hA.fits)
 rw [only_upd] at hst
 exact h gs w sl t q h0 ⟨hst.1, hst.2, hA.lv⟩
def mainJd (P : Program) (B : Base) (Post : Value → World → Prop) : Jd P B true := ⟨MJ P B Post, MJ.step, MJ.ghost⟩
theorem handed {n : Nat} {t : Trace} (h : TrI (only ⟨R, H⟩) [] none n t) : t.HandedOver := by
 intro i x hx hne hc
 obtain ⟨a, ha, hm, _⟩ := hc
 rcases h.all i a ha hm with ⟨j, y, hy, hk⟩ | ⟨c, p, hcl, _⟩
 ·have hj : j = 0 := by
   unfold only at hy
   split at hy
   ·assumption
   ·cases hy
  subst hj
  obtain ⟨q, z, h1, h2, h3⟩ := hk
  refine ⟨q, by simp [Trace.g?, h1, h2], ?_⟩
  rcases h3 with rfl | h3
  ·rw [show t.g? i = some z.g by simp [Trace.g?, h1], h2] at hx
   exact absurd (Option.some.inj hx).symm hne
  ·exact h3
 ·cases hcl
end
end Go.Lg
namespace Go.Lg
open Go.Conc
section
variable {B : Base} {th : Nat → Option Th} {ch ch' : HList} {cls : Option Nat} {w : World} {n i : Nat} {R R' : RMap} {H : HList} {t u : Trace}
theorem MemI.setc (h : MemI B th ch w) {c : Nat} {o o' : Obj} (hc : (c, o) ∈ ch) (hch : ∀ x y, (x, y) ∈ ch' → (x = c ∧ y = o') ∨ (x ≠ c ∧ (x, y) ∈ ch)) : MemI B th ch' { w with heap := w.heap.setIfInBounds c o' } := by
 have hlt := lt_of_heap (h.chans c o hc)
 have ne : ∀ b, b ≠ c → (w.heap.setIfInBounds c o')[b]? = w.heap[b]? := fun b hb => Array.getElem?_setIfInBounds_ne (Ne.symm hb)
 refine ⟨fun j x hx => ?_, h.apart, fun x y hxy => ?_, fun x y hxy j z hz => ?_⟩
 ·have hf := h.fits j x hx
  have hcp := h.chapart c o hc j x hx
  refine ⟨fun b v hb => ?_, fun b v hb => ?_, hf.nd, hf.dj, hf.os, hf.tape, hf.out⟩
  ·show (w.heap.setIfInBounds c o')[b]? = _
   rw [ne b (fun e => by subst e; exact nn hcp.1 hb)]; exact hf.r b v hb
  ·show (w.heap.setIfInBounds c o')[b]? = _
   rw [ne b (fun e => by subst e; exact hcp.2 v hb)]; exact hf.h b v hb
 ·show (w.heap.setIfInBounds c o')[x]? = _
  rcases hch x y hxy with ⟨rfl, rfl⟩ | ⟨hne, hm⟩
  ·rw [Array.getElem?_setIfInBounds_self_of_lt hlt]
  ·rw [ne x hne]; exact h.chans x y hm
 ·rcases hch x y hxy with ⟨rfl, rfl⟩ | ⟨_, hm⟩
  ·exact h.chapart x o hc j z hz
  ·exact h.chapart x y hm j z hz
theorem TrI.chs (h : TrI th ch cls n t) (hch : ∀ x y, (x, y) ∈ ch' → ∃ y', (x, y') ∈ ch) : TrI th ch' cls n t :=
 ⟨h.own, h.read, fun c o hc => (h.chk c _ (hch c o hc).choose_spec), h.low, h.all, h.clean, h.quiet⟩
theorem touch_mute' (hu : ∀ op ∈ u, op.act.touch? = none) {k : Nat} {a : Touch} (h : touchAt (t ++ u) k = some a) : touchAt t k = some a := by
 rcases new_or_old h with ⟨_, x⟩ | ⟨op, _, h2, h3⟩
 ·exact x
 ·rw [hu op h2] at h3; cases h3
theorem TrI.muteAdd (h : TrI th ch cls n t) (hu : ∀ op ∈ u, op.act.touch? = none) (hl : ∀ op ∈ u, op.act.low n) (hw : Wordless u) {c : Nat} (hi : th i = some ⟨R, H⟩) (hR : RLe R' R) (hc : th c = none) (hk : ∀ k, Kn t i k → Kn (t ++ u) c k) :
  TrI (updT th c (some ⟨R', []⟩)) ch cls n (t ++ u) := by
 have hm := h.mute hu hl hw
 refine ⟨fun j y hy b o hb k a hka hab => ?_, fun j y hy b o hb k a hka hab hwr => ?_, fun d o hd j y hy k a hka hab => ?_, hm.low, fun k a hka hm' => ?_, hm.clean, hm.quiet⟩
 ·by_cases hj : j = c
  ·subst hj; rw [updT_same] at hy; cases hy; cases hb
  ·rw [updT_ne hj] at hy; exact hm.own j y hy b o hb k a hka hab
 ·by_cases hj : j = c
  ·subst hj; rw [updT_same] at hy; cases hy
   exact hk k (h.read i _ hi b o (hR b o hb) k a (touch_mute' hu hka) hab hwr)
  ·rw [updT_ne hj] at hy; exact hm.read j y hy b o hb k a hka hab hwr
 ·by_cases hj : j = c
  ·subst hj; rw [updT_same] at hy; cases hy
   exact (h.chk d o hd i _ hi k a (touch_mute' hu hka) hab).imp id (hk k)
  ·rw [updT_ne hj] at hy; exact hm.chk d o hd j y hy k a hka hab
 ·refine (hm.all k a hka hm').imp (fun ⟨j, y, hy, hkn⟩ => ⟨j, y, ?_, hkn⟩) id
  rw [updT_ne (fun e => by subst e; rw [hc] at hy; cases hy)]; exact hy
theorem TrI.muteDrop (h : TrI th ch cls n t) (hu : ∀ op ∈ u, op.act.touch? = none) (hl : ∀ op ∈ u, op.act.low n) (hw : Wordless u) (hk : ∀ k, Kn t i k → ∃ j y, j ≠ i ∧ th j = some y ∧ Kn (t ++ u) j k) :
  TrI (updT th i none) ch cls n (t ++ u) := by
 have hm := h.mute hu hl hw
 have key : ∀ j y, updT th i none j = some y → th j = some y := fun j y hy => by
  by_cases hj : j = i
  ·subst hj; rw [updT_same] at hy; cases hy
  ·rwa [updT_ne hj] at hy
 refine ⟨fun j y hy => hm.own j y (key j y hy), fun j y hy => hm.read j y (key j y hy), fun c o hc j y hy => hm.chk c o hc j y (key j y hy), hm.low, fun k a hka hm' => ?_, hm.clean, hm.quiet⟩
 rcases h.all k a (touch_mute' hu hka) hm' with ⟨j, y, hy, hkn⟩ | x
 ·by_cases hj : j = i
  ·subst hj
   obtain ⟨j', y', h1, h2, h3⟩ := hk k hkn
   exact .inl ⟨j', y', by rw [updT_ne h1]; exact h2, h3⟩
  ·exact .inl ⟨j, y, by rw [updT_ne hj]; exact hy, hkn.app u⟩
 ·exact .inr (closed_app x)
theorem TrI.reopen {x : Th} {c : Nat} {y : MemOp} (h : TrI (only x) ch (some c) n t) (hy : y.g = 0) (hya : y.act = .recvClosed c) (hc : c < n) : TrI (only x) [] none n (t ++ #[y]) := by
 have hu : ∀ op ∈ #[y], op.act.touch? = none := fun op hop => by simp at hop; subst hop; rw [hya]; rfl
 have hw : Wordless #[y] := fun op hop m hm => by simp at hop; subst hop; rw [hya] at hm; cases hm
 have hm := h.mute hu (fun op hop => by simp at hop; subst hop; rw [hya]; exact hc) hw
 refine ⟨hm.own, hm.read, fun c o hc => (by cases hc), hm.low, fun k a hka hmem => ?_, hm.clean, hm.quiet⟩
 rcases h.all k a (touch_mute' hu hka) hmem with ⟨j, z, hz, hkn⟩ | ⟨c', p, h1, h2, h3⟩
 ·exact .inl ⟨j, z, hz, hkn.app _⟩
 ·cases h1
  exact .inl ⟨0, x, rfl, kn_closed hm.quiet h2 hy hya h3⟩
end
section
variable (P : Program) (B : Base) (main : Bool)
def AtS (c : Nat) (v : Value) (Next : RMap → HList → Goroutine → Prop) (z : Value) (R : RMap) (H : HList) (g : Goroutine) : Prop :=
 g.status = .running ∧ (∀ w, Fits B R H w → stepG P main g w = .comm (core g) #[scase c v z] true .send w #[]) ∧ Next R H (Conc.served (core g) undef)
def AtR (c : Nat) (fl : Bool) (Got : Value → RMap → HList → Goroutine → Prop) (Nil : RMap → HList → Goroutine → Prop) (z : Value) (R : RMap) (H : HList) (g : Goroutine) : Prop :=
 g.status = .running ∧ (∀ w, Fits B R H w → stepG P main g w = .comm (core g) #[rcase c z] true (.recv fl) w #[]) ∧ (∀ v, Got v R H (Conc.served (core g) (recvd fl v true))) ∧ Nil R H (Conc.served (core g) (recvd fl z false))
def AtC (c : Nat) (R : RMap) (H : HList) (g : Goroutine) : Prop :=
 g.status = .running ∧ mayWake P g = true ∧ ∃ g' n, (∀ w s r tm, Fits B R H w → w.heap[c]? = some (.chan 0 #[] false s r tm) → stepG P false g w = .go g' (w.shut c s r tm) #[⟨.obj c, false, true⟩, ⟨.obj c, true, true⟩]) ∧ QuitsIn P n g'
def PkS (c : Nat) (v : Value) (Next : RMap → HList → Goroutine → Prop) (R : RMap) (H : HList) (g : Goroutine) : Prop := ∃ g0 z, AtS P B main c v Next z R H g0 ∧ g = parked (core g0) #[scase c v z] .send
def PkR (c : Nat) (fl : Bool) (Got : Value → RMap → HList → Goroutine → Prop) (Nil : RMap → HList → Goroutine → Prop) (R : RMap) (H : HList) (g : Goroutine) : Prop := ∃ g0 z, AtR P B main c fl Got Nil z R H g0 ∧ g = parked (core g0) #[rcase c z] (.recv fl)
end
section
variable (P : Program) (B : Base) (cf cd : Nat) (MJ' : RMap → HList → Goroutine → Prop)
def Lv (_ : RMap) (_ : HList) (g : Goroutine) : Prop := ∃ n, QuitsIn P n g
def KW2 (R : RMap) (H : HList) (g : Goroutine) : Prop := ∃ z, AtS P B false cd (.bool true) (Lv P) z R H g
def W2 : RMap → HList → Goroutine → Prop := Own P B false (KW2 P B cd)
def KW1 (v : Value) (R : RMap) (H : HList) (g : Goroutine) : Prop := ∃ z, AtS P B false cf v (W2 P B cd) z R H g
def CGot (CK : RMap → HList → Goroutine → Prop) (_ : Value) (R : RMap) (H : HList) (g : Goroutine) : Prop := Own P B false CK R H g
def Tt (_ : RMap) (_ : HList) (_ : Goroutine) : Prop := True
def CK : Nat → RMap → HList → Goroutine → Prop
 | 0 => AtC P B cf
 | n + 1 => fun R H g => ∃ z, AtR P B false cd false (CGot P B (CK n)) Tt z R H g
def MGot (rem : List Value) (MK : List Value → RMap → HList → Goroutine → Prop) (v : Value) (R : RMap) (H : HList) (g : Goroutine) : Prop := ∀ rest, rem.Perm (v :: rest) → Own P B true (MK rest) R H g
def MRk : Nat → List Value → RMap → HList → Goroutine → Prop
 | 0, _ => fun R H g => ∃ z, AtR P B true cf true (fun _ => Tt) MJ' z R H g
 | n + 1, rem => fun R H g => ∃ z, AtR P B true cf true (MGot P B rem (MRk n)) Tt z R H g
def MSk : Nat → List Value → RMap → HList → Goroutine → Prop
 | 0, sp => fun R H g => g.status = .running ∧ ∀ w, Fits B R H w → ∃ g' child, stepG P true g w = .spawn g' child w #[] ∧ Own P B false (CK P B cf cd sp.length) R [] child ∧ Own P B true (MRk P B cf MJ' sp.length sp) R H g'
 | k + 1, sp => fun R H g => g.status = .running ∧ ∀ w, Fits B R H w → ∃ g' child v, stepG P true g w = .spawn g' child w #[] ∧ Own P B false (KW1 P B cf cd v) R [] child ∧ Own P B true (MSk k (v :: sp)) R H g'
end
inductive Dt : Type 1
 | lv (n : Nat)
 | w1 (v : Value) (m : Ms)
 | w2 (m : Ms)
 | cl (k : Nat) (m : Ms)
 | ms (k : Nat) (sp : List Value) (m : Ms)
 | mr (rem : List Value) (m : Ms)
def Dt.msr : Dt → Ms
 | .lv n => some (natT n)
 | .w1 _ m | .w2 m | .cl _ m | .ms _ _ m | .mr _ m => m
def Dt.set : Dt → Ms → Dt
 | .lv n, _ => .lv n
 | .w1 v _, m => .w1 v m
 | .w2 _, m => .w2 m
 | .cl k _, m => .cl k m
 | .ms k sp _, m => .ms k sp m
 | .mr rem _, m => .mr rem m
def Dt.pot : Dt → Nat
 | .lv _ => 0
 | .w1 _ _ => 2
 | .w2 _ => 1
 | .cl k _ => k + 1
 | .ms k sp _ => 3 * k + 2 * (k + sp.length) + 3
 | .mr rem _ => rem.length + 1
def Dt.act : Dt → Nat
 | .w1 _ _ | .w2 _ => 1
 | _ => 0
def Dt.vof : Dt → Option Value
 | .w1 v _ => some v
 | _ => none
def vals (D : Nat → Dt) : Nat → List Value
 | 0 => []
 | n + 1 => match (D n).vof with | some v => v :: vals D n | none => vals D n
def updD (D : Nat → Dt) (i : Nat) (x : Dt) : Nat → Dt := fun j => if j = i then x else D j
theorem updD_same (D : Nat → Dt) (i : Nat) (x : Dt) : updD D i x i = x := by simp [updD]
theorem updD_ne {D : Nat → Dt} {i j : Nat} {x : Dt} (h : j ≠ i) : updD D i x j = D j := by simp [updD, h]
theorem vals_succ (D : Nat → Dt) (n : Nat) : vals D (n + 1) = (D n).vof.toList ++ vals D n := by
 simp only [vals]
 cases (D n).vof <;> rfl
theorem vals_congr {D D' : Nat → Dt} : ∀ {n : Nat}, (∀ i, i < n → (D' i).vof = (D i).vof) → vals D' n = vals D n
 | 0, _ => rfl
 | n + 1, h => by rw [vals_succ, vals_succ, h n (by omega), vals_congr (fun i hi => h i (by omega))]
theorem vals_take {D D' : Nat → Dt} {i : Nat} {v : Value} (hv : (D i).vof = some v) (h0 : (D' i).vof = none) (hne : ∀ j, j ≠ i → (D' j).vof = (D j).vof) : ∀ {n : Nat}, i < n → (vals D n).Perm (v :: vals D' n)
 | n + 1, h => by
  rcases Nat.lt_or_ge i n with hlt | hge
  ·have ih := vals_take hv h0 hne hlt
   rw [vals_succ, vals_succ, hne n (by omega)]
   cases (D n).vof with
   | none => exact ih
   | some u => exact (List.Perm.cons u ih).trans (List.Perm.swap _ _ _)
  ·obtain rfl : i = n := by omega
   rw [vals_succ, vals_succ, hv, h0, vals_congr (D := D) (D' := D') fun j hj => hne j (by omega)]
   exact List.Perm.refl _
theorem vof_act (d : Dt) : d.vof.toList.length ≤ d.act := by cases d <;> simp [Dt.vof, Dt.act]
theorem vals_len {D : Nat → Dt} : ∀ {n : Nat}, (vals D n).length ≤ sumT n (fun i => (D i).act)
 | 0 => by simp [vals]
 | n + 1 => by
  have ih := vals_len (D := D) (n := n)
  have := vof_act (D n)
  rw [vals_succ, List.length_append]
  simp only [sumT]
  omega
theorem vals_len_eq {D : Nat → Dt} : ∀ {n : Nat}, (∀ i m, i < n → D i ≠ .w2 m) → (vals D n).length = sumT n (fun i => (D i).act)
 | 0, _ => by simp [vals, sumT]
 | n + 1, hw => by
  have ih := vals_len_eq (D := D) (n := n) fun i m hi => hw i m (by omega)
  have : (D n).vof.toList.length = (D n).act := by
   cases h : D n with
   | w2 m => exact absurd h (hw n m (by omega))
   | _ => simp [Dt.vof, Dt.act]
  rw [vals_succ, List.length_append]
  simp only [sumT]
  omega
theorem act_zero {D : Nat → Dt} : ∀ {n : Nat}, sumT n (fun i => (D i).act) = 0 → ∀ i, i < n → (D i).act = 0
 | n + 1, h, i, hi => by
  simp only [sumT] at h
  rcases Nat.lt_or_ge i n with hlt | hge
  ·exact act_zero (by omega) i hlt
  ·obtain rfl : i = n := by omega
   omega
section
variable (P : Program) (B : Base) (cf cd : Nat) (MJ' : RMap → HList → Goroutine → Prop)
def SitK (main : Bool) (K Pk : RMap → HList → Goroutine → Prop) (m : Ms) (x : Option Th) (g : Goroutine) : Prop :=
 ∃ y : Th, x = some y ∧ ((∃ T, m = some T ∧ OwnT P B main K T y.R y.H g) ∨ (m = none ∧ Pk y.R y.H g))
def No (_ : RMap) (_ : HList) (_ : Goroutine) : Prop := False
def PkC : Nat → RMap → HList → Goroutine → Prop
 | 0 => No
 | n + 1 => PkR P B false cd false (CGot P B (CK P B cf cd n)) Tt
def PkM : Nat → List Value → RMap → HList → Goroutine → Prop
 | 0, _ => PkR P B true cf true (fun _ => Tt) MJ'
 | n + 1, rem => PkR P B true cf true (MGot P B rem (MRk P B cf MJ' n)) Tt
def Sit (i : Nat) : Dt → Option Th → Goroutine → Prop
 | .lv n, x, g => x = none ∧ QuitsIn P n g ∧ 0 < i
 | .w1 v m, x, g => SitK P B false (KW1 P B cf cd v) (PkS P B false cf v (W2 P B cd)) m x g ∧ 0 < i
 | .w2 m, x, g => SitK P B false (KW2 P B cd) (PkS P B false cd (.bool true) (Lv P)) m x g ∧ 0 < i
 | .cl k m, x, g => SitK P B false (CK P B cf cd k) (PkC P B cf cd k) m x g ∧ 0 < i
 | .ms k sp m, x, g => SitK P B true (MSk P B cf cd MJ' k sp) No m x g ∧ i = 0
 | .mr rem m, x, g => SitK P B true (MRk P B cf MJ' rem.length rem) (PkM P B cf MJ' rem.length rem) m x g ∧ i = 0
inductive Ph (cf : Nat) (n : Nat) (D : Nat → Dt) : Bool → Option Nat → Prop
 | spawning {k sp m} : D 0 = .ms k sp m → (vals D n).Perm sp → (∀ i k m, D i ≠ .cl k m) → (∀ i m, D i ≠ .w2 m) → Ph cf n D false none
 | ranging {rem m ic kc mc} : D 0 = .mr rem m → (vals D n).Perm rem → ic < n → D ic = .cl kc mc → (∀ j k m, D j = .cl k m → j = ic) → kc = sumT n (fun i => (D i).act) →
   (m = none → ∀ i v, D i ≠ .w1 v none) → (mc = none → ∀ i, D i ≠ .w2 none) → Ph cf n D false none
 | closed {rem m} : D 0 = .mr rem m → (vals D n).Perm rem → (∀ i k m, D i ≠ .cl k m) → (∀ i, (D i).act = 0) → m ≠ none → Ph cf n D true (some cf)
structure PI (D : Nat → Dt) (th : Nat → Option Th) (clo : Bool) (cls : Option Nat) (s1 s2 : Nat) (tm1 tm2 : Bool) (gs : Array Goroutine) (w : World) (t : Trace) : Prop where
 ne : cf ≠ cd
 mem : MemI B th [(cf, .chan 0 #[] clo s1 s1 tm1), (cd, .chan 0 #[] false s2 s2 tm2)] w
 tr : TrI th [(cf, .chan 0 #[] clo s1 s1 tm1), (cd, .chan 0 #[] false s2 s2 tm2)] cls w.heap.size t
 sit : ∀ i g, gs[i]? = some g → Sit P B cf cd MJ' i (D i) (th i) g
 out : ∀ i, gs.size ≤ i → th i = none ∧ D i = .lv 0
 ph : Ph cf gs.size D clo cls
 pos : 0 < gs.size
end
end Go.Lg
namespace Go.Lg
open Go.Conc
def mu (D : Nat → Dt) (n : Nat) : Nat × List Ms := (sumT n (fun i => (D i).pot), (List.range n).map fun i => (D i).msr)
def MuLt (a b : Nat × List Ms) : Prop := a.1 < b.1 ∨ (a.1 = b.1 ∧ One MLt a.2 b.2)
theorem MuLt.wf : WellFounded MuLt := by
 have key : ∀ p, ∀ l, Acc MuLt (p, l) := by
  intro p
  induction p using Nat.strongRecOn with
  | ind p ihp =>
   intro l
   induction l using One.wf.induction with
   | _ l ihl =>
    refine ⟨_, fun y hy => ?_⟩
    obtain ⟨q, m⟩ := y
    rcases hy with h | ⟨h1, h2⟩
    ·exact ihp q h m
    ·simp only at h1; subst h1; exact ihl m h2
 exact ⟨fun ⟨p, l⟩ => key p l⟩
theorem mu_msr {D : Nat → Dt} {n i : Nat} {x : Dt} {a b : Ms} (hi : i < n) (hb : (D i).msr = b) (ha : x.msr = a) (hl : MLt a b) (hp : x.pot = (D i).pot) : MuLt (mu (updD D i x) n) (mu D n) := by
 refine .inr ⟨?_, ?_⟩
 ·show sumT n (fun j => (updD D i x j).pot) = sumT n (fun j => (D j).pot)
  have := sumT_upd (f := fun j => (D j).pot) (g := fun j => (updD D i x j).pot) hi (fun k hk => by simp only [updD_ne hk])
  simp only [updD_same] at this
  omega
 ·have e : (List.range n).map (fun j => (updD D i x j).msr) = ((List.range n).map fun j => (D j).msr).set i a := by
   apply List.ext_getElem?
   intro j
   rw [List.getElem?_set]
   by_cases hj : i = j
   ·subst hj; simp [hi, updD_same, ha]
   ·simp only [hj, if_false, List.getElem?_map]
    cases hr : (List.range n)[j]? with
    | none => rfl
    | some k =>
     have hk : k = j := by
      have := List.getElem?_eq_some_iff.1 hr
      obtain ⟨_, h2⟩ := this
      simpa using h2.symm
     subst hk
     simp [updD_ne (Ne.symm hj)]
  show One MLt ((List.range n).map _) _
  rw [e]
  exact One.set (by simp [hi, hb]) hl
theorem mu_pot2 {D : Nat → Dt} {n i j : Nat} {x y : Dt} (hi : i < n) (hj : j < n) (hij : j ≠ i) (hp : x.pot + y.pot < (D i).pot + (D j).pot) : MuLt (mu (updD (updD D j y) i x) n) (mu D n) := by
 refine .inl ?_
 show sumT n (fun k => (updD (updD D j y) i x k).pot) < sumT n (fun k => (D k).pot)
 have h1 := sumT_upd (f := fun k => (updD D j y k).pot) (g := fun k => (updD (updD D j y) i x k).pot) hi (fun k hk => by simp only [updD_ne hk])
 have h2 := sumT_upd (f := fun k => (D k).pot) (g := fun k => (updD D j y k).pot) hj (fun k hk => by simp only [updD_ne hk])
 simp only [updD_same, updD_ne (Ne.symm hij)] at h1 h2
 omega
theorem mu_new {D : Nat → Dt} {n : Nat} {x y : Dt} (hn : 0 < n) (hp : x.pot + y.pot < (D 0).pot) : MuLt (mu (updD (updD D n y) 0 x) (n + 1)) (mu D n) := by
 refine .inl ?_
 show sumT (n + 1) (fun k => (updD (updD D n y) 0 x k).pot) < sumT n (fun k => (D k).pot)
 have h1 := sumT_upd (f := fun k => (D k).pot) (g := fun k => (updD D 0 x k).pot) hn (fun k hk => by simp only [updD_ne hk])
 have h2 : sumT n (fun k => (updD (updD D n y) 0 x k).pot) = sumT n (fun k => (updD D 0 x k).pot) := sumT_congr fun k hk => by
  by_cases h0 : k = 0
  ·subst h0; rw [updD_same, updD_same]
  ·rw [updD_ne h0, updD_ne h0, updD_ne (by omega)]
 simp only [sumT, h2, updD_ne (show n ≠ 0 by omega), updD_same] at h1 ⊢
 omega
theorem OwnT.unf {P : Program} {B : Base} {main : Bool} {K : RMap → HList → Goroutine → Prop} {T : Tree} {R : RMap} {H : HList} {g : Goroutine} (h : OwnT P B main K T R H g) (hs : ∀ R H g, K R H g → g.status = .running) : g.status = .running := by
 induction T generalizing R H g with
 | node ι f ih =>
  rcases h with h | ⟨h, _⟩ | ⟨R', H', i, _, h⟩
  ·exact hs _ _ _ h
  ·exact h
  ·exact ih i h
section
variable {P : Program} {B : Base} {cf cd : Nat} {MJ' : RMap → HList → Goroutine → Prop} {main : Bool}
theorem KW1.run {v : Value} {R : RMap} {H : HList} {g : Goroutine} (h : KW1 P B cf cd v R H g) : g.status = .running := by obtain ⟨_, h⟩ := h; exact h.1
theorem KW2.run {R : RMap} {H : HList} {g : Goroutine} (h : KW2 P B cd R H g) : g.status = .running := by obtain ⟨_, h⟩ := h; exact h.1
theorem CK.run {k : Nat} {R : RMap} {H : HList} {g : Goroutine} (h : CK P B cf cd k R H g) : g.status = .running := by
 cases k with
 | zero => exact h.1
 | succ k => obtain ⟨_, h⟩ := h; exact h.1
theorem MSk.run {k : Nat} {sp : List Value} {R : RMap} {H : HList} {g : Goroutine} (h : MSk P B cf cd MJ' k sp R H g) : g.status = .running := by
 cases k <;> exact h.1
theorem MRk.run {k : Nat} {rem : List Value} {R : RMap} {H : HList} {g : Goroutine} (h : MRk P B cf MJ' k rem R H g) : g.status = .running := by
 cases k <;> (obtain ⟨_, h⟩ := h; exact h.1)
theorem Sit.look {i : Nat} {d : Dt} {x : Option Th} {g : Goroutine} (h : Sit P B cf cd MJ' i d x g) :
  (g.status = .running ∧ ∃ T, d.msr = some T) ∨ (g.status = .finished) ∨
  (∃ v g0 z, d = .w1 v none ∧ g = parked (core g0) #[scase cf v z] .send) ∨
  (∃ g0 z, d = .w2 none ∧ g = parked (core g0) #[scase cd (.bool true) z] .send) ∨
  (∃ k g0 z, d = .cl (k + 1) none ∧ g = parked (core g0) #[rcase cd z] (.recv false)) ∨
  (∃ rem g0 z, d = .mr rem none ∧ g = parked (core g0) #[rcase cf z] (.recv true)) := by
 cases d with
 | lv n =>
  obtain ⟨_, h, _⟩ := h
  rcases h.status with h | h
  ·exact .inl ⟨h, _, rfl⟩
  ·exact .inr (.inl h)
 | w1 v m =>
  obtain ⟨⟨y, _, ⟨T, rfl, h⟩ | ⟨rfl, g0, z, _, h⟩⟩, _⟩ := h
  ·exact .inl ⟨h.unf fun _ _ _ => KW1.run, _, rfl⟩
  ·exact .inr (.inr (.inl ⟨v, g0, z, rfl, h⟩))
 | w2 m =>
  obtain ⟨⟨y, _, ⟨T, rfl, h⟩ | ⟨rfl, g0, z, _, h⟩⟩, _⟩ := h
  ·exact .inl ⟨h.unf fun _ _ _ => KW2.run, _, rfl⟩
  ·exact .inr (.inr (.inr (.inl ⟨g0, z, rfl, h⟩)))
 | cl k m =>
  obtain ⟨⟨y, _, ⟨T, rfl, h⟩ | ⟨rfl, h⟩⟩, _⟩ := h
  ·exact .inl ⟨h.unf fun _ _ _ => CK.run, _, rfl⟩
  ·cases k with
   | zero => exact h.elim
   | succ k => obtain ⟨g0, z, _, h⟩ := h; exact .inr (.inr (.inr (.inr (.inl ⟨k, g0, z, rfl, h⟩))))
 | ms k sp m =>
  obtain ⟨⟨y, _, ⟨T, rfl, h⟩ | ⟨rfl, h⟩⟩, _⟩ := h
  ·exact .inl ⟨h.unf fun _ _ _ => MSk.run, _, rfl⟩
  ·exact h.elim
 | mr rem m =>
  obtain ⟨⟨y, _, ⟨T, rfl, h⟩ | ⟨rfl, h⟩⟩, _⟩ := h
  ·exact .inl ⟨h.unf fun _ _ _ => MRk.run, _, rfl⟩
  ·have : ∃ g0 z, g = parked (core g0) #[rcase cf z] (.recv true) := by
    generalize rem.length = k at h
    cases k <;> (obtain ⟨g0, z, _, h⟩ := h; exact ⟨g0, z, h⟩)
   obtain ⟨g0, z, h⟩ := this
   exact .inr (.inr (.inr (.inr (.inr ⟨rem, g0, z, rfl, h⟩))))
theorem Sit.offers {i : Nat} {d : Dt} {x : Option Th} {g : Goroutine} (h : Sit P B cf cd MJ' i d x g) (_ : cf ≠ cd) {c : Nat} {send : Bool} {k : Nat} (hk : k ∈ offersAt g c send) :
  k = 0 ∧ ((c = cf ∧ send = true ∧ ∃ v g0 z, d = .w1 v none ∧ g = parked (core g0) #[scase cf v z] .send) ∨
  (c = cd ∧ send = true ∧ ∃ g0 z, d = .w2 none ∧ g = parked (core g0) #[scase cd (.bool true) z] .send) ∨
  (c = cd ∧ send = false ∧ ∃ k g0 z, d = .cl (k + 1) none ∧ g = parked (core g0) #[rcase cd z] (.recv false)) ∨
  (c = cf ∧ send = false ∧ ∃ rem g0 z, d = .mr rem none ∧ g = parked (core g0) #[rcase cf z] (.recv true))) := by
 rcases h.look with ⟨h, _⟩ | h | ⟨v, g0, z, h1, h2⟩ | ⟨g0, z, h1, h2⟩ | ⟨k', g0, z, h1, h2⟩ | ⟨rem, g0, z, h1, h2⟩
 ·rw [offersAt_of_not_blocked (by rw [h]; intro e; cases e)] at hk; cases hk
 ·rw [offersAt_of_not_blocked (by rw [h]; intro e; cases e)] at hk; cases hk
 all_goals (subst h2; cases send)
 ·rw [offersAt_parked_send'] at hk; cases hk
 ·rw [offersAt_parked_send] at hk
  split at hk
  ·simp at hk; rename_i e; exact ⟨hk, .inl ⟨e.symm, rfl, v, g0, z, h1, rfl⟩⟩
  ·cases hk
 ·rw [offersAt_parked_send'] at hk; cases hk
 ·rw [offersAt_parked_send] at hk
  split at hk
  ·simp at hk; rename_i e; exact ⟨hk, .inr (.inl ⟨e.symm, rfl, g0, z, h1, rfl⟩)⟩
  ·cases hk
 ·rw [offersAt_parked_recv] at hk
  split at hk
  ·simp at hk; rename_i e; exact ⟨hk, .inr (.inr (.inl ⟨e.symm, rfl, k', g0, z, h1, rfl⟩))⟩
  ·cases hk
 ·rw [offersAt_parked_recv'] at hk; cases hk
 ·rw [offersAt_parked_recv] at hk
  split at hk
  ·simp at hk; rename_i e; exact ⟨hk, .inr (.inr (.inr ⟨e.symm, rfl, rem, g0, z, h1, rfl⟩))⟩
  ·cases hk
 ·rw [offersAt_parked_recv'] at hk; cases hk
theorem Sit.awake {i : Nat} {d : Dt} {x : Option Th} {g : Goroutine} (h : Sit P B cf cd MJ' i d x g) : awake g := by
 rcases h.look with ⟨h, _⟩ | h | ⟨v, g0, z, h1, rfl⟩ | ⟨g0, z, h1, rfl⟩ | ⟨k', g0, z, h1, rfl⟩ | ⟨rem, g0, z, h1, rfl⟩
 ·exact awake_of (.inl h)
 ·exact awake_of (.inr (.inr h))
 all_goals exact awake_of (.inr (.inl rfl))
theorem Sit.again {i : Nat} {d : Dt} {x : Option Th} {g a a' : Goroutine} {w : World} {s1 s2 : Nat} {tm1 tm2 : Bool} (h : Sit P B cf cd MJ' i d x g) (h2 : w.heap[cd]? = some (.chan 0 #[] false s2 s2 tm2))
  (h1 : w.heap[cf]? = some (.chan 0 #[] false s1 s1 tm1) ∨ ((∀ v, d ≠ .w1 v none) ∧ ∀ rem, d ≠ .mr rem none)) : woken P a a' w g = g := by
 unfold woken
 split
 ·rcases h.look with ⟨h, _⟩ | h | ⟨v, g0, z, e, rfl⟩ | ⟨g0, z, e, rfl⟩ | ⟨k', g0, z, e, rfl⟩ | ⟨rem, g0, z, e, rfl⟩
  ·exact again_running _ (.inl h)
  ·exact again_running _ (.inr h)
  ·rcases h1 with h1 | h1
   ·exact again_parked_open rfl h1
   ·exact absurd e (h1.1 v)
  ·exact again_parked_open rfl h2
  ·exact again_parked_open rfl h2
  ·rcases h1 with h1 | h1
   ·exact again_parked_open rfl h1
   ·exact absurd e (h1.2 rem)
 ·rfl
end
end Go.Lg
namespace Go.Lg
open Go.Conc
def Q (d d' : Dt) : Prop := d' = d ∨ (∃ n n', d = .lv n ∧ d' = .lv n') ∨ (∃ T, d' = d.set (some T))
theorem Q.vof {d d' : Dt} (h : Q d d') : d'.vof = d.vof := by
 rcases h with rfl | ⟨n, n', rfl, rfl⟩ | ⟨T, rfl⟩
 ·rfl
 ·rfl
 ·cases d <;> rfl
theorem Q.act {d d' : Dt} (h : Q d d') : d'.act = d.act := by
 rcases h with rfl | ⟨n, n', rfl, rfl⟩ | ⟨T, rfl⟩
 ·rfl
 ·rfl
 ·cases d <;> rfl
theorem Q.cl {d d' : Dt} (h : Q d d') {k : Nat} {m' : Ms} (e : d' = .cl k m') : ∃ m, d = .cl k m := by
 rcases h with rfl | ⟨n, n', rfl, rfl⟩ | ⟨T, rfl⟩
 ·exact ⟨_, e⟩
 ·cases e
 ·cases d <;> simp [Dt.set] at e
  exact ⟨_, by rw [e.1]⟩
theorem Q.cl' {d d' : Dt} (h : Q d d') {k : Nat} {m : Ms} (e : d = .cl k m) : ∃ m', d' = .cl k m' ∧ (m' = m ∨ m' ≠ none) := by
 subst e
 rcases h with rfl | ⟨n, n', h1, h2⟩ | ⟨T, rfl⟩
 ·exact ⟨_, rfl, .inl rfl⟩
 ·cases h1
 ·exact ⟨_, rfl, .inr (by simp)⟩
theorem Q.ms' {d d' : Dt} (h : Q d d') {k : Nat} {sp : List Value} {m : Ms} (e : d = .ms k sp m) : ∃ m', d' = .ms k sp m' := by
 subst e
 rcases h with rfl | ⟨n, n', h1, h2⟩ | ⟨T, rfl⟩
 ·exact ⟨_, rfl⟩
 ·cases h1
 ·exact ⟨_, rfl⟩
theorem Q.mr' {d d' : Dt} (h : Q d d') {rem : List Value} {m : Ms} (e : d = .mr rem m) : ∃ m', d' = .mr rem m' ∧ (m' = m ∨ m' ≠ none) := by
 subst e
 rcases h with rfl | ⟨n, n', h1, h2⟩ | ⟨T, rfl⟩
 ·exact ⟨_, rfl, .inl rfl⟩
 ·cases h1
 ·exact ⟨_, rfl, .inr (by simp)⟩
theorem Q.w1 {d d' : Dt} (h : Q d d') {v : Value} (e : d' = .w1 v none) : d = .w1 v none := by
 rcases h with rfl | ⟨n, n', rfl, rfl⟩ | ⟨T, rfl⟩
 ·exact e
 ·cases e
 ·cases d <;> simp [Dt.set] at e
theorem Q.w2 {d d' : Dt} (h : Q d d') (e : d' = .w2 none) : d = .w2 none := by
 rcases h with rfl | ⟨n, n', rfl, rfl⟩ | ⟨T, rfl⟩
 ·exact e
 ·cases e
 ·cases d <;> simp [Dt.set] at e
theorem Q.w2' {d d' : Dt} (h : Q d d') {m : Ms} (e : d' = .w2 m) : ∃ m, d = .w2 m := by
 rcases h with rfl | ⟨n, n', rfl, rfl⟩ | ⟨T, rfl⟩
 ·exact ⟨_, e⟩
 ·cases e
 ·cases d <;> simp [Dt.set] at e
  exact ⟨_, rfl⟩
theorem Q.upd {D : Nat → Dt} {i : Nat} {x : Dt} (h : Q (D i) x) (j : Nat) : Q (D j) (updD D i x j) := by
 by_cases hj : j = i
 ·subst hj; rw [updD_same]; exact h
 ·rw [updD_ne hj]; exact .inl rfl
theorem Ph.q {cf n : Nat} {D D' : Nat → Dt} {clo : Bool} {cls : Option Nat} (h : Ph cf n D clo cls) (hq : ∀ j, Q (D j) (D' j)) : Ph cf n D' clo cls := by
 have hv : vals D' n = vals D n := vals_congr fun i _ => (hq i).vof
 have ha : sumT n (fun i => (D' i).act) = sumT n (fun i => (D i).act) := sumT_congr fun i _ => (hq i).act
 cases h with
 | spawning h0 hp hc hw =>
  obtain ⟨m', h0'⟩ := (hq 0).ms' h0
  exact .spawning h0' (hv ▸ hp) (fun i k m e => let ⟨_, e'⟩ := (hq i).cl e; hc i k _ e') (fun i m e => let ⟨_, e'⟩ := (hq i).w2' e; hw i _ e')
 | @ranging rem m ic kc mc h0 hp hic hdc hun hk hw1 hw2 =>
  obtain ⟨m', h0', hm'⟩ := (hq 0).mr' h0
  obtain ⟨mc', hdc', hmc'⟩ := (hq ic).cl' hdc
  refine .ranging h0' (hv ▸ hp) hic hdc' (fun j k m e => let ⟨_, e'⟩ := (hq j).cl e; hun j k _ e') (by rw [ha]; exact hk) (fun e i v e' => ?_) (fun e i e' => ?_)
  ·rcases hm' with x | x
   ·exact hw1 (x ▸ e) i v ((hq i).w1 e')
   ·exact x e
  ·rcases hmc' with x | x
   ·exact hw2 (x ▸ e) i ((hq i).w2 e')
   ·exact x e
 | closed h0 hp hc hac hm =>
  obtain ⟨m', h0', hm'⟩ := (hq 0).mr' h0
  refine .closed h0' (hv ▸ hp) (fun i k m e => let ⟨_, e'⟩ := (hq i).cl e; hc i k _ e') (fun i => by rw [(hq i).act]; exact hac i) ?_
  rcases hm' with x | x
  ·rw [x]; exact hm
  ·exact x
section
variable {P : Program} {B : Base} {cf cd : Nat} {MJ' : RMap → HList → Goroutine → Prop} {D : Nat → Dt} {th : Nat → Option Th} {clo : Bool} {cls : Option Nat} {s1 s2 : Nat} {tm1 tm2 : Bool} {gs : Array Goroutine} {w : World} {sl : Option (Nat × Nat)} {t : Trace}
theorem PI.at (h : PI P B cf cd MJ' D th clo cls s1 s2 tm1 tm2 gs w t) (d : Nat) : PI P B cf cd MJ' D th clo cls s1 s2 tm1 tm2 gs (w.at d) t :=
 ⟨h.ne, h.mem.at d, h.tr, h.sit, h.out, h.ph, h.pos⟩
theorem PI.hcf (h : PI P B cf cd MJ' D th clo cls s1 s2 tm1 tm2 gs w t) : w.heap[cf]? = some (.chan 0 #[] clo s1 s1 tm1) := h.mem.chans _ _ (by simp)
theorem PI.hcd (h : PI P B cf cd MJ' D th clo cls s1 s2 tm1 tm2 gs w t) : w.heap[cd]? = some (.chan 0 #[] false s2 s2 tm2) := h.mem.chans _ _ (by simp)
theorem PI.noPk (h : PI P B cf cd MJ' D th clo cls s1 s2 tm1 tm2 gs w t) {j : Nat} {x : Goroutine} (hj : gs[j]? = some x) : clo = false ∨ ((∀ v, D j ≠ .w1 v none) ∧ ∀ rem, D j ≠ .mr rem none) := by
 have hs := h.sit j x hj
 cases h.ph with
 | spawning => exact .inl rfl
 | ranging => exact .inl rfl
 | closed h0 hp hc hac hm =>
  refine .inr ⟨fun v e => ?_, fun rem e => ?_⟩
  ·have := hac j; rw [e] at this; cases this
  ·rw [e] at hs
   have : j = 0 := hs.2
   subst this
   rw [h0] at e; cases e; exact hm rfl
theorem PI.again (h : PI P B cf cd MJ' D th clo cls s1 s2 tm1 tm2 gs w t) {th' : Nat → Option Th} {w' : World} (hm : MemI B th' [(cf, .chan 0 #[] clo s1 s1 tm1), (cd, .chan 0 #[] false s2 s2 tm2)] w')
  {j : Nat} {x a a' : Goroutine} (hj : gs[j]? = some x) : woken P a a' w' x = x := by
 refine (h.sit j x hj).again (hm.chans _ _ (by simp)) ?_ (s1 := s1) (s2 := s2) (tm1 := tm1) (tm2 := tm2)
 rcases h.noPk hj with e | e
 ·subst e; exact .inl (hm.chans _ _ (by simp))
 ·exact .inr e
theorem lt_of_get {gs : Array Goroutine} {i : Nat} {g : Goroutine} (h : gs[i]? = some g) : i < gs.size := (Array.getElem?_eq_some_iff.1 h).1
theorem PI.one (h : PI P B cf cd MJ' D th clo cls s1 s2 tm1 tm2 gs w t) {i : Nat} (hi : i < gs.size) {gs' : Array Goroutine} {g' : Goroutine} {w' : World} {t' : Trace} {th' : Nat → Option Th} {x : Dt} {clo' : Bool} {cls' : Option Nat} {s1' s2' : Nat}
  (hz : gs'.size = gs.size) (hg : gs'[i]? = some g') (ho : ∀ j, j ≠ i → gs'[j]? = gs[j]?)
  (hm : MemI B th' [(cf, .chan 0 #[] clo' s1' s1' tm1), (cd, .chan 0 #[] false s2' s2' tm2)] w') (ht : TrI th' [(cf, .chan 0 #[] clo' s1' s1' tm1), (cd, .chan 0 #[] false s2' s2' tm2)] cls' w'.heap.size t')
  (hth : ∀ j, j ≠ i → th' j = th j) (hs : Sit P B cf cd MJ' i x (th' i) g') (hph : Ph cf gs.size (updD D i x) clo' cls') :
  PI P B cf cd MJ' (updD D i x) th' clo' cls' s1' s2' tm1 tm2 gs' w' t' := by
 refine ⟨h.ne, hm, ht, fun j y hj => ?_, fun j hj => ?_, hz ▸ hph, hz ▸ h.pos⟩
 ·by_cases hji : j = i
  ·subst hji
   rw [hg] at hj; cases hj
   rw [updD_same]; exact hs
  ·rw [ho j hji] at hj
   rw [updD_ne hji, hth j hji]; exact h.sit j y hj
 ·have hji : j ≠ i := by omega
  rw [updD_ne hji, hth j hji]; exact h.out j (by omega)
theorem PI.two (h : PI P B cf cd MJ' D th clo cls s1 s2 tm1 tm2 gs w t) {i j : Nat} (hi : i < gs.size) (hj : j < gs.size) (hij : j ≠ i) {gi gj : Goroutine} {w' : World} {t' : Trace} {th' : Nat → Option Th} {x y : Dt} {clo' : Bool} {cls' : Option Nat} {s1' s2' : Nat}
  (hm : MemI B th' [(cf, .chan 0 #[] clo' s1' s1' tm1), (cd, .chan 0 #[] false s2' s2' tm2)] w') (ht : TrI th' [(cf, .chan 0 #[] clo' s1' s1' tm1), (cd, .chan 0 #[] false s2' s2' tm2)] cls' w'.heap.size t')
  (hth : ∀ k, k ≠ i → k ≠ j → th' k = th k) (hsi : Sit P B cf cd MJ' i x (th' i) gi) (hsj : Sit P B cf cd MJ' j y (th' j) gj) (hph : Ph cf gs.size (updD (updD D j y) i x) clo' cls') :
  PI P B cf cd MJ' (updD (updD D j y) i x) th' clo' cls' s1' s2' tm1 tm2 ((gs.setIfInBounds j gj).setIfInBounds i gi) w' t' := by
 refine ⟨h.ne, hm, ht, fun k z hk => ?_, fun k hk => ?_, by simpa using hph, by simpa using h.pos⟩
 ·by_cases hki : k = i
  ·subst hki
   rw [Array.getElem?_setIfInBounds_self_of_lt (by simpa using hi)] at hk; cases hk
   rw [updD_same]; exact hsi
  ·rw [Array.getElem?_setIfInBounds_ne (Ne.symm hki)] at hk
   rw [updD_ne hki]
   by_cases hkj : k = j
   ·subst hkj
    rw [Array.getElem?_setIfInBounds_self_of_lt hj] at hk; cases hk
    rw [updD_same]; exact hsj
   ·rw [Array.getElem?_setIfInBounds_ne (Ne.symm hkj)] at hk
    rw [updD_ne hkj, hth k hki hkj]; exact h.sit k z hk
 ·have hk' : gs.size ≤ k := by simpa using hk
  rw [updD_ne (by omega), updD_ne (by omega), hth k (by omega) (by omega)]; exact h.out k hk'
theorem PI.own (h : PI P B cf cd MJ' D th clo cls s1 s2 tm1 tm2 gs w t) {i : Nat} {g g' : Goroutine} {R R' : RMap} {H H' : HList} {w' : World} {es : Array Event} {T : Tree} (hi : gs[i]? = some g) (hth : th i = some ⟨R, H⟩)
  (hst : stepG P (i == 0) g w = .go g' w' es) (hes : ∀ e ∈ es, EvOk R H w.heap.size w'.heap.size e) (hu : Upd B R H w R' H' w') (hs : Sit P B cf cd MJ' i ((D i).set (some T)) (some ⟨R', H'⟩) g') :
  ∃ gs' ops, runT P (crowd gs w sl) i = (.next (crowd gs' w' sl), ops) ∧ gs'.size = gs.size ∧ PI P B cf cd MJ' (updD D i ((D i).set (some T))) (updT th i (some ⟨R', H'⟩)) clo cls s1 s2 tm1 tm2 gs' w' (t ++ ops) := by
 obtain ⟨hm, ht⟩ := own_step h.mem h.tr hth hes hu g.frame.fn g.frame.place
 have hlt := lt_of_get hi
 refine ⟨_, _, runT_crowd_go (sl := sl) hi hst, by simp, h.one hlt (by simp) (Array.getElem?_setIfInBounds_self_of_lt (by simpa using hlt)) (fun j hj => ?_) hm ht (fun j hj => updT_ne hj) (by rw [updT_same]; exact hs) (h.ph.q fun j => Q.upd (.inr (.inr ⟨T, rfl⟩)) j)⟩
 rw [Array.getElem?_setIfInBounds_ne (Ne.symm hj), Array.getElem?_map]
 cases hgj : gs[j]? with
 | none => rfl
 | some x => rw [Option.map_some, h.again hm hgj]
theorem PI.quit (h : PI P B cf cd MJ' D th clo cls s1 s2 tm1 tm2 gs w t) {i n : Nat} {g g' : Goroutine} (hi : gs[i]? = some g) (hd : D i = .lv (n + 1)) (hst : ∀ w, stepG P false g w = .go g' w #[]) (hq : QuitsIn P n g') :
  ∃ gs', runT P (crowd gs w sl) i = (.next (crowd gs' w sl), #[]) ∧ gs'.size = gs.size ∧ PI P B cf cd MJ' (updD D i (.lv n)) th clo cls s1 s2 tm1 tm2 gs' w t := by
 have hlt := lt_of_get hi
 have hs := h.sit i g hi
 rw [hd] at hs
 obtain ⟨hn, _, hpos⟩ := hs
 have hi0 : (i == 0) = false := by simp; omega
 have hrun := runT_crowd_go (P := P) (sl := sl) (w := w) hi (by rw [hi0]; exact hst w)
 rw [ofEvents_none] at hrun
 refine ⟨_, hrun, by simp, h.one hlt (by simp) (Array.getElem?_setIfInBounds_self_of_lt (by simpa using hlt)) (fun j hj => ?_) h.mem h.tr (fun j hj => rfl) ⟨hn, hq, hpos⟩ (h.ph.q fun j => Q.upd (.inr (.inl ⟨_, _, hd, rfl⟩)) j)⟩
 rw [Array.getElem?_setIfInBounds_ne (Ne.symm hj), Array.getElem?_map]
 cases hgj : gs[j]? with
 | none => rfl
 | some x => rw [Option.map_some, h.again h.mem hgj]
theorem PI.part (h : PI P B cf cd MJ' D th clo cls s1 s2 tm1 tm2 gs w t) {i c j k : Nat} {send : Bool} (hp : (j, k) ∈ partners (gs.setIfInBounds i Go.Conc.ph) c send) :
  j ≠ i ∧ k = 0 ∧ ∃ x, gs[j]? = some x ∧ ((c = cf ∧ send = true ∧ ∃ v g0 z, D j = .w1 v none ∧ x = parked (core g0) #[scase cf v z] .send) ∨
  (c = cd ∧ send = true ∧ ∃ g0 z, D j = .w2 none ∧ x = parked (core g0) #[scase cd (.bool true) z] .send) ∨
  (c = cd ∧ send = false ∧ ∃ k g0 z, D j = .cl (k + 1) none ∧ x = parked (core g0) #[rcase cd z] (.recv false)) ∨
  (c = cf ∧ send = false ∧ ∃ rem g0 z, D j = .mr rem none ∧ x = parked (core g0) #[rcase cf z] (.recv true))) := by
 obtain ⟨x, hx, hk⟩ := mem_partners.1 hp
 rcases getElem?_stand gs i j x hx with ⟨_, rfl⟩ | ⟨hji, hx⟩
 ·rw [offersAt_ph] at hk; cases hk
 ·obtain ⟨h0, hh⟩ := (h.sit j x hx).offers h.ne hk
  exact ⟨hji, h0, x, hx, hh⟩
theorem meet4 {a b c s cap n : Nat} {f1 f2 : FuncId} {p1 p2 : String} (hc : c < n) :
  (∀ op ∈ (#[⟨a, f1, p1, .send c s⟩, ⟨b, f2, p2, .recv c s cap⟩, ⟨a, f1, p1, .sendDone c s⟩, ⟨b, f2, p2, .recvDone c s⟩] : Trace), op.act.touch? = none) ∧
  (∀ op ∈ (#[⟨a, f1, p1, .send c s⟩, ⟨b, f2, p2, .recv c s cap⟩, ⟨a, f1, p1, .sendDone c s⟩, ⟨b, f2, p2, .recvDone c s⟩] : Trace), op.act.low n) ∧
  Wordless (#[⟨a, f1, p1, .send c s⟩, ⟨b, f2, p2, .recv c s cap⟩, ⟨a, f1, p1, .sendDone c s⟩, ⟨b, f2, p2, .recvDone c s⟩] : Trace) := by
 refine ⟨fun op hop => ?_, fun op hop => ?_, fun op hop m hm => ?_⟩
 all_goals (simp only [List.mem_toArray, List.mem_cons, List.not_mem_nil, or_false] at hop)
 ·rcases hop with rfl | rfl | rfl | rfl <;> rfl
 ·rcases hop with rfl | rfl | rfl | rfl <;> exact hc
 ·rcases hop with rfl | rfl | rfl | rfl <;> cases hm
theorem MemI.setf {s1' : Nat} (hne : cf ≠ cd) (h : MemI B th [(cf, .chan 0 #[] clo s1 s1 tm1), (cd, .chan 0 #[] false s2 s2 tm2)] w) (clo' : Bool) :
  MemI B th [(cf, .chan 0 #[] clo' s1' s1' tm1), (cd, .chan 0 #[] false s2 s2 tm2)] { w with heap := w.heap.setIfInBounds cf (.chan 0 #[] clo' s1' s1' tm1) } :=
 h.setc (c := cf) (o := .chan 0 #[] clo s1 s1 tm1) (by simp) fun x y hxy => by
  simp only [List.mem_cons, List.not_mem_nil, or_false, Prod.mk.injEq] at hxy ⊢
  rcases hxy with ⟨rfl, rfl⟩ | ⟨rfl, rfl⟩
  ·exact .inl ⟨rfl, rfl⟩
  ·exact .inr ⟨Ne.symm hne, .inr ⟨rfl, rfl⟩⟩
theorem MemI.setd {s2' : Nat} (hne : cf ≠ cd) (h : MemI B th [(cf, .chan 0 #[] clo s1 s1 tm1), (cd, .chan 0 #[] false s2 s2 tm2)] w) :
  MemI B th [(cf, .chan 0 #[] clo s1 s1 tm1), (cd, .chan 0 #[] false s2' s2' tm2)] { w with heap := w.heap.setIfInBounds cd (.chan 0 #[] false s2' s2' tm2) } :=
 h.setc (c := cd) (o := .chan 0 #[] false s2 s2 tm2) (by simp) fun x y hxy => by
  simp only [List.mem_cons, List.not_mem_nil, or_false, Prod.mk.injEq] at hxy ⊢
  rcases hxy with ⟨rfl, rfl⟩ | ⟨rfl, rfl⟩
  ·exact .inr ⟨hne, .inl ⟨rfl, rfl⟩⟩
  ·exact .inl ⟨rfl, rfl⟩
theorem TrI.chs2 {n s1' s2' : Nat} {clo' : Bool} (h : TrI th [(cf, .chan 0 #[] clo s1 s1 tm1), (cd, .chan 0 #[] false s2 s2 tm2)] cls n t) : TrI th [(cf, .chan 0 #[] clo' s1' s1' tm1), (cd, .chan 0 #[] false s2' s2' tm2)] cls n t :=
 h.chs fun x y hxy => by
  simp only [List.mem_cons, List.not_mem_nil, or_false, Prod.mk.injEq] at hxy
  rcases hxy with ⟨rfl, rfl⟩ | ⟨rfl, rfl⟩
  ·exact ⟨_, by simp; exact .inl rfl⟩
  ·exact ⟨_, List.mem_cons_of_mem _ (List.mem_singleton.2 rfl)⟩
end
end Go.Lg
namespace Go.Lg
open Go.Conc
theorem parked_inj {a b : Goroutine} {cs cs' : Array CommCase} {sh sh' : CommShape} (h : parked a cs sh = parked b cs' sh') : cs = cs' ∧ sh = sh' ∧ ∀ v, Conc.served a v = Conc.served b v := by
 obtain ⟨f, c, s, d, o⟩ := a
 obtain ⟨f', c', s', d', o'⟩ := b
 simp only [parked, Goroutine.mk.injEq, Option.some.injEq, Prod.mk.injEq] at h
 obtain ⟨rfl, rfl, _, rfl, rfl, rfl⟩ := h
 exact ⟨rfl, rfl, fun _ => rfl⟩
section
variable {P : Program} {B : Base} {cf cd : Nat} {MJ' : RMap → HList → Goroutine → Prop} {D : Nat → Dt} {th : Nat → Option Th} {clo : Bool} {cls : Option Nat} {s1 s2 : Nat} {tm1 tm2 : Bool} {gs : Array Goroutine} {w : World} {sl : Option (Nat × Nat)} {t : Trace}
def Nx (P : Program) (B : Base) (cf cd : Nat) (MJ' : RMap → HList → Goroutine → Prop) (D : Nat → Dt) (tm1 tm2 : Bool) (gs : Array Goroutine) (w : World) (sl : Option (Nat × Nat)) (t : Trace) (i : Nat) : Prop :=
 ∃ gs' w' ops D' th' clo' cls' s1' s2', runT P (crowd gs w sl) i = (.next (crowd gs' w' sl), ops) ∧ MuLt (mu D' gs'.size) (mu D gs.size) ∧ PI P B cf cd MJ' D' th' clo' cls' s1' s2' tm1 tm2 gs' w' (t ++ ops)
theorem PI.notClosed (h : PI P B cf cd MJ' D th clo cls s1 s2 tm1 tm2 gs w t) {i : Nat} (ha : 0 < (D i).act ∨ (∃ k m, D i = .cl k m) ∨ (∃ k sp m, D i = .ms k sp m) ∧ i = 0) : clo = false ∧ cls = none := by
 cases h.ph with
 | spawning => exact ⟨rfl, rfl⟩
 | ranging => exact ⟨rfl, rfl⟩
 | closed h0 hp hc hac hm =>
  rcases ha with ha | ⟨k, m, e⟩ | ⟨⟨k, sp, m, e⟩, rfl⟩
  ·rw [hac i] at ha; cases ha
  ·exact absurd e (hc i k m)
  ·rw [h0] at e; cases e
theorem PI.there (h : PI P B cf cd MJ' D th clo cls s1 s2 tm1 tm2 gs w t) {i : Nat} (hd : ∀ n, D i ≠ .lv n) : ∃ g, gs[i]? = some g := by
 rcases Nat.lt_or_ge i gs.size with hlt | hge
 ·exact ⟨_, Array.getElem?_eq_getElem hlt⟩
 ·exact absurd (h.out i hge).2 (hd 0)
theorem PI.pkMr (h : PI P B cf cd MJ' D th clo cls s1 s2 tm1 tm2 gs w t) {i : Nat} {rem : List Value} (hd : D i = .mr rem none) :
  i = 0 ∧ ∃ g0 z y, gs[0]? = some (parked (core g0) #[rcase cf z] (.recv true)) ∧ th 0 = some y ∧ PkM P B cf MJ' rem.length rem y.R y.H (parked (core g0) #[rcase cf z] (.recv true)) := by
 obtain ⟨g, hg⟩ := h.there (i := i) (by rw [hd]; intro n e; cases e)
 have hs := h.sit i g hg
 have hl := hs.look
 rw [hd] at hs hl
 obtain ⟨⟨y, hy, ⟨T, e, _⟩ | ⟨_, hp⟩⟩, rfl⟩ := hs
 ·cases e
 rcases hl with ⟨_, T, e⟩ | e | ⟨v, g0, z, e, _⟩ | ⟨g0, z, e, _⟩ | ⟨k, g0, z, e, _⟩ | ⟨rem', g0, z, e, rfl⟩
 ·cases e
 ·exfalso
  have : g.status = .blocked := by
   generalize rem.length = k at hp
   cases k <;> (obtain ⟨g0, z, _, rfl⟩ := hp; rfl)
  rw [this] at e; cases e
 ·cases e
 ·cases e
 ·cases e
 ·exact ⟨rfl, g0, z, y, hg, hy, hp⟩
theorem PI.pkCl (h : PI P B cf cd MJ' D th clo cls s1 s2 tm1 tm2 gs w t) {i k : Nat} (hd : D i = .cl k none) :
  ∃ k', k = k' + 1 ∧ 0 < i ∧ ∃ g0 z y, gs[i]? = some (parked (core g0) #[rcase cd z] (.recv false)) ∧ th i = some y ∧ AtR P B false cd false (CGot P B (CK P B cf cd k')) Tt z y.R y.H g0 := by
 obtain ⟨g, hg⟩ := h.there (i := i) (by rw [hd]; intro n e; cases e)
 have hs := h.sit i g hg
 rw [hd] at hs
 obtain ⟨⟨y, hy, ⟨T, e, _⟩ | ⟨_, hp⟩⟩, hpos⟩ := hs
 ·cases e
 cases k with
 | zero => exact hp.elim
 | succ k => obtain ⟨g0, z, ha, rfl⟩ := hp; exact ⟨k, rfl, hpos, g0, z, y, hg, hy, ha⟩
theorem PI.pkW1 (h : PI P B cf cd MJ' D th clo cls s1 s2 tm1 tm2 gs w t) {i : Nat} {v : Value} (hd : D i = .w1 v none) :
  0 < i ∧ ∃ g0 z y, gs[i]? = some (parked (core g0) #[scase cf v z] .send) ∧ th i = some y ∧ AtS P B false cf v (W2 P B cd) z y.R y.H g0 := by
 obtain ⟨g, hg⟩ := h.there (i := i) (by rw [hd]; intro n e; cases e)
 have hs := h.sit i g hg
 rw [hd] at hs
 obtain ⟨⟨y, hy, ⟨T, e, _⟩ | ⟨_, g0, z, ha, rfl⟩⟩, hpos⟩ := hs
 ·cases e
 exact ⟨hpos, g0, z, y, hg, hy, ha⟩
theorem PI.pkW2 (h : PI P B cf cd MJ' D th clo cls s1 s2 tm1 tm2 gs w t) {i : Nat} (hd : D i = .w2 none) :
  0 < i ∧ ∃ g0 z y, gs[i]? = some (parked (core g0) #[scase cd (.bool true) z] .send) ∧ th i = some y ∧ AtS P B false cd (.bool true) (Lv P) z y.R y.H g0 := by
 obtain ⟨g, hg⟩ := h.there (i := i) (by rw [hd]; intro n e; cases e)
 have hs := h.sit i g hg
 rw [hd] at hs
 obtain ⟨⟨y, hy, ⟨T, e, _⟩ | ⟨_, g0, z, ha, rfl⟩⟩, hpos⟩ := hs
 ·cases e
 exact ⟨hpos, g0, z, y, hg, hy, ha⟩
theorem mem_part {i j c : Nat} {x : Goroutine} {send : Bool} (hj : gs[j]? = some x) (hji : j ≠ i) (hk : 0 ∈ offersAt x c send) : partners (gs.setIfInBounds i Go.Conc.ph) c send ≠ [] := by
 intro e
 have : (j, 0) ∈ partners (gs.setIfInBounds i Go.Conc.ph) c send := mem_partners.2 ⟨x, stand_get hji hj, hk⟩
 rw [e] at this; cases this
theorem vals_upd {n i : Nat} {x : Dt} (hx : x.vof = (D i).vof) : vals (updD D i x) n = vals D n := vals_congr fun j _ => by
 by_cases hj : j = i
 ·subst hj; rw [updD_same, hx]
 ·rw [updD_ne hj]
theorem act_upd {n i : Nat} {x : Dt} (hx : x.act = (D i).act) : sumT n (fun j => (updD D i x j).act) = sumT n (fun j => (D j).act) := sumT_congr fun j _ => by
 by_cases hj : j = i
 ·subst hj; rw [updD_same, hx]
 ·rw [updD_ne hj]
theorem PI.meet1 (h : PI P B cf cd MJ' D th clo cls s1 s2 tm1 tm2 gs w t) {j : Nat} {v : Value} {m mm : Ms} {rem : List Value} {y y0 : Th} (hj : D j = .w1 v m) (h0 : D 0 = .mr rem mm) (hyj : th j = some y) (hy0 : th 0 = some y0) {g0 gj : Goroutine}
  (hn : W2 P B cd y.R y.H gj) (hg : ∀ k, rem.length = k + 1 → MGot P B rem (MRk P B cf MJ' k) v y0.R y0.H g0) {u : Trace} (hu : (∀ op ∈ u, op.act.touch? = none) ∧ (∀ op ∈ u, op.act.low w.heap.size) ∧ Wordless u) (d : Nat) :
  ∃ x0 xj, x0.pot + xj.pot < (D 0).pot + (D j).pot ∧ j ≠ 0 ∧ j < gs.size ∧
   PI P B cf cd MJ' (updD (updD D j xj) 0 x0) th clo cls (s1 + 1) s2 tm1 tm2 ((gs.setIfInBounds j gj).setIfInBounds 0 g0) ((w.at d).setChan cf 0 #[] false (s1 + 1) (s1 + 1) tm1) (t ++ u) ∧
   PI P B cf cd MJ' (updD (updD D 0 x0) j xj) th clo cls (s1 + 1) s2 tm1 tm2 ((gs.setIfInBounds 0 g0).setIfInBounds j gj) ((w.at d).setChan cf 0 #[] false (s1 + 1) (s1 + 1) tm1) (t ++ u) := by
 obtain ⟨rfl, rfl⟩ := h.notClosed (i := j) (.inl (by rw [hj]; exact Nat.one_pos))
 obtain ⟨x, hx⟩ := h.there (i := j) (by rw [hj]; intro n e; cases e)
 have hlt := lt_of_get hx
 have hj0 : j ≠ 0 := by intro e; subst e; rw [h0] at hj; cases hj
 cases h.ph with
 | spawning h0' => rw [h0] at h0'; cases h0'
 | @ranging rem' m' ic kc mc h0' hp hic hdc hun hk hw1 hw2 =>
  rw [h0] at h0'; cases h0'
  obtain ⟨T2, hT2⟩ := hn
  have hv := vals_take (D := D) (D' := updD D j (.w2 (some T2))) (i := j) (v := v) (by rw [hj]; rfl) (by rw [updD_same]; rfl) (fun k hk => by rw [updD_ne hk]) hlt
  have hperm := hp.symm.trans hv
  have hlen := hperm.length_eq
  simp only [List.length_cons] at hlen
  obtain ⟨T0, hT0⟩ := hg _ hlen _ hperm
  have hicj : ic ≠ j := by intro e; subst e; rw [hj] at hdc; cases hdc
  have hic0 : ic ≠ 0 := by intro e; subst e; rw [h0] at hdc; cases hdc
  refine ⟨.mr (vals (updD D j (.w2 (some T2))) gs.size) (some T0), .w2 (some T2), by rw [h0, hj]; simp only [Dt.pot]; omega, hj0, hlt, ?_, ?_⟩
  ·have hm := (h.mem.at d).setf (s1' := s1 + 1) h.ne false
   refine h.two h.pos hlt hj0 hm (show TrI _ _ _ _ (t ++ u) from ?_) (fun _ _ _ => rfl) ⟨⟨y0, hy0, .inl ⟨T0, rfl, hT0⟩⟩, rfl⟩ ⟨⟨y, hyj, .inl ⟨T2, rfl, hT2⟩⟩, by omega⟩ ?_
   ·have := (h.tr.mute hu.1 hu.2.1 hu.2.2).chs2 (s1' := s1 + 1) (s2' := s2) (clo' := false)
    simpa [World.setChan, World.at] using this
   ·refine .ranging (ic := ic) (kc := kc) (mc := mc) (updD_same _ _ _) ?_ hic (by rw [updD_ne hic0, updD_ne hicj]; exact hdc) (fun k k' m e => ?_) ?_ (fun e => by cases e) (fun e k e' => ?_)
    ·rw [vals_upd (by rw [updD_ne (Ne.symm hj0), h0]; rfl)]
    ·by_cases hk0 : k = 0
     ·subst hk0; rw [updD_same] at e; cases e
     ·rw [updD_ne hk0] at e
      by_cases hkj : k = j
      ·subst hkj; rw [updD_same] at e; cases e
      ·rw [updD_ne hkj] at e; exact hun k k' m e
    ·rw [act_upd (by rw [updD_ne (Ne.symm hj0), h0]; rfl), act_upd (by rw [hj]; rfl)]; exact hk
    ·by_cases hk0 : k = 0
     ·subst hk0; rw [updD_same] at e'; cases e'
     ·rw [updD_ne hk0] at e'
      by_cases hkj : k = j
      ·subst hkj; rw [updD_same] at e'; cases e'
      ·rw [updD_ne hkj] at e'; exact hw2 e k e'
  ·have hm := (h.mem.at d).setf (s1' := s1 + 1) h.ne false
   refine h.two hlt h.pos (Ne.symm hj0) hm (show TrI _ _ _ _ (t ++ u) from ?_) (fun _ _ _ => rfl) ⟨⟨y, hyj, .inl ⟨T2, rfl, hT2⟩⟩, by omega⟩ ⟨⟨y0, hy0, .inl ⟨T0, rfl, hT0⟩⟩, rfl⟩ ?_
   ·have := (h.tr.mute hu.1 hu.2.1 hu.2.2).chs2 (s1' := s1 + 1) (s2' := s2) (clo' := false)
    simpa [World.setChan, World.at] using this
   ·have ec : updD (updD D 0 (.mr (vals (updD D j (.w2 (some T2))) gs.size) (some T0))) j (.w2 (some T2)) = updD (updD D j (.w2 (some T2))) 0 (.mr (vals (updD D j (.w2 (some T2))) gs.size) (some T0)) := by
     funext k
     by_cases hk0 : k = 0
     ·subst hk0; rw [updD_ne (Ne.symm hj0), updD_same, updD_same]
     ·rw [updD_ne hk0 (D := updD D j _)]
      by_cases hkj : k = j
      ·subst hkj; rw [updD_same, updD_same]
      ·rw [updD_ne hkj, updD_ne hk0, updD_ne hkj]
    rw [ec]
    refine .ranging (ic := ic) (kc := kc) (mc := mc) (updD_same _ _ _) ?_ hic (by rw [updD_ne hic0, updD_ne hicj]; exact hdc) (fun k k' m e => ?_) ?_ (fun e => by cases e) (fun e k e' => ?_)
    ·rw [vals_upd (by rw [updD_ne (Ne.symm hj0), h0]; rfl)]
    ·by_cases hk0 : k = 0
     ·subst hk0; rw [updD_same] at e; cases e
     ·rw [updD_ne hk0] at e
      by_cases hkj : k = j
      ·subst hkj; rw [updD_same] at e; cases e
      ·rw [updD_ne hkj] at e; exact hun k k' m e
    ·rw [act_upd (by rw [updD_ne (Ne.symm hj0), h0]; rfl), act_upd (by rw [hj]; rfl)]; exact hk
    ·by_cases hk0 : k = 0
     ·subst hk0; rw [updD_same] at e'; cases e'
     ·rw [updD_ne hk0] at e'
      by_cases hkj : k = j
      ·subst hkj; rw [updD_same] at e'; cases e'
      ·rw [updD_ne hkj] at e'; exact hw2 e k e'
theorem PI.meet2 (h : PI P B cf cd MJ' D th clo cls s1 s2 tm1 tm2 gs w t) {j ic k : Nat} {m mc : Ms} {y yc : Th} (hj : D j = .w2 m) (hc : D ic = .cl (k + 1) mc) (hyj : th j = some y) (hyc : th ic = some yc) {gc gj : Goroutine}
  (hn : Lv P y.R y.H gj) (hg : Own P B false (CK P B cf cd k) yc.R yc.H gc) {f1 f2 : FuncId} {p1 p2 : String} (d : Nat) :
  ∃ xc xj, xc.pot + xj.pot < (D ic).pot + (D j).pot ∧ j ≠ ic ∧ j < gs.size ∧ ic < gs.size ∧
   PI P B cf cd MJ' (updD (updD D j xj) ic xc) (updT th j none) clo cls s1 (s2 + 1) tm1 tm2 ((gs.setIfInBounds j gj).setIfInBounds ic gc) ((w.at d).setChan cd 0 #[] false (s2 + 1) (s2 + 1) tm2) (t ++ #[⟨j, f1, p1, .send cd s2⟩, ⟨ic, f2, p2, .recv cd s2 0⟩, ⟨j, f1, p1, .sendDone cd s2⟩, ⟨ic, f2, p2, .recvDone cd s2⟩]) ∧
   PI P B cf cd MJ' (updD (updD D ic xc) j xj) (updT th j none) clo cls s1 (s2 + 1) tm1 tm2 ((gs.setIfInBounds ic gc).setIfInBounds j gj) ((w.at d).setChan cd 0 #[] false (s2 + 1) (s2 + 1) tm2) (t ++ #[⟨j, f1, p1, .send cd s2⟩, ⟨ic, f2, p2, .recv cd s2 0⟩, ⟨j, f1, p1, .sendDone cd s2⟩, ⟨ic, f2, p2, .recvDone cd s2⟩]) := by
 obtain ⟨rfl, rfl⟩ := h.notClosed (i := j) (.inl (by rw [hj]; exact Nat.one_pos))
 obtain ⟨x, hx⟩ := h.there (i := j) (by rw [hj]; intro n e; cases e)
 obtain ⟨xc, hxc⟩ := h.there (i := ic) (by rw [hc]; intro n e; cases e)
 have hlt := lt_of_get hx
 have hltc := lt_of_get hxc
 have hjc : j ≠ ic := by intro e; subst e; rw [hc] at hj; cases hj
 have hsj := h.sit j x hx
 rw [hj] at hsj
 have hposj := hsj.2
 have hsc := h.sit ic xc hxc
 rw [hc] at hsc
 have hposc := hsc.2
 cases h.ph with
 | spawning h0' hp hcl hw => exact absurd hj (hw j m)
 | @ranging rem m' ic' kc mc' h0 hp hic hdc hun hk hw1 hw2 =>
  obtain rfl := hun ic _ _ hc
  rw [hc] at hdc; cases hdc
  obtain ⟨n, hq⟩ := hn
  obtain ⟨T, hT⟩ := hg
  have hu := meet4 (a := j) (b := ic) (c := cd) (s := s2) (cap := 0) (n := w.heap.size) (f1 := f1) (f2 := f2) (p1 := p1) (p2 := p2) (lt_of_heap h.hcd)
  have htr : TrI (updT th j none) [(cf, .chan 0 #[] false s1 s1 tm1), (cd, .chan 0 #[] false (s2 + 1) (s2 + 1) tm2)] none w.heap.size (t ++ #[⟨j, f1, p1, .send cd s2⟩, ⟨ic, f2, p2, .recv cd s2 0⟩, ⟨j, f1, p1, .sendDone cd s2⟩, ⟨ic, f2, p2, .recvDone cd s2⟩]) := by
   refine (h.tr.muteDrop (i := j) hu.1 hu.2.1 hu.2.2 fun q hq => ⟨ic, yc, Ne.symm hjc, hyc, ?_⟩).chs2
   exact kn_meet (c := cd) (s := s2) (h.tr.quiet.append hu.2.2) (p := t.size) (q := t.size + 3) (Nat.le_refl _) (by simp; rfl) rfl rfl (by simp; rfl) rfl rfl hq
  have hm := ((h.mem.at d).setd (s2' := s2 + 1) h.ne).drop (i := j)
  have hph : ∀ D', (∀ k', k' ≠ ic → k' ≠ j → D' k' = D k') → D' ic = .cl k (some T) → D' j = .lv n → Ph cf gs.size D' false none := by
   intro D' hD hDc hDj
   have hv : vals D' gs.size = vals D gs.size := vals_congr fun i _ => by
    by_cases h1 : i = ic
    ·subst h1; rw [hDc, hc]; rfl
    ·by_cases h2 : i = j
     ·subst h2; rw [hDj, hj]; rfl
     ·rw [hD i h1 h2]
   have ha : sumT gs.size (fun i => (D' i).act) + 1 = sumT gs.size (fun i => (D i).act) := by
    have := sumT_upd (f := fun i => (D i).act) (g := fun i => (D' i).act) hlt (fun i hi => by
     by_cases h1 : i = ic
     ·subst h1; simp only [hDc, hc]; rfl
     ·simp only [hD i h1 hi])
    have e1 : (Dt.lv n).act = 0 := rfl
    have e2 : (Dt.w2 m).act = 1 := rfl
    simp only [hDj, hj, e1, e2] at this
    omega
   refine .ranging (ic := ic) (kc := k) (mc := some T) (by rw [hD 0 (by omega) (by omega)]; exact h0) (hv ▸ hp) hic hDc (fun i k' m e => ?_) (by omega) (fun e i v e' => ?_) (fun e => by cases e)
   ·by_cases h1 : i = ic
    ·exact h1
    ·by_cases h2 : i = j
     ·subst h2; rw [hDj] at e; cases e
     ·rw [hD i h1 h2] at e; exact hun i _ _ e
   ·by_cases h1 : i = ic
    ·subst h1; rw [hDc] at e'; cases e'
    ·by_cases h2 : i = j
     ·subst h2; rw [hDj] at e'; cases e'
     ·rw [hD i h1 h2] at e'; exact hw1 e i v e'
  refine ⟨.cl k (some T), .lv n, by rw [hj, hc]; simp only [Dt.pot]; omega, hjc, hlt, hltc, ?_, ?_⟩
  ·refine h.two hltc hlt hjc hm (show TrI _ _ _ _ _ from by simpa [World.setChan, World.at] using htr) (fun i h1 h2 => updT_ne h2) ⟨⟨yc, by rw [updT_ne (Ne.symm hjc)]; exact hyc, .inl ⟨T, rfl, hT⟩⟩, hposc⟩ ⟨updT_same _ _ _, hq, hposj⟩ ?_
   exact hph _ (fun i h1 h2 => by rw [updD_ne h1, updD_ne h2]) (updD_same _ _ _) (by rw [updD_ne hjc, updD_same])
  ·refine h.two hlt hltc (Ne.symm hjc) hm (show TrI _ _ _ _ _ from by simpa [World.setChan, World.at] using htr) (fun i h1 h2 => updT_ne h1) ⟨updT_same _ _ _, hq, hposj⟩ ⟨⟨yc, by rw [updT_ne (Ne.symm hjc)]; exact hyc, .inl ⟨T, rfl, hT⟩⟩, hposc⟩ ?_
   exact hph _ (fun i h1 h2 => by rw [updD_ne h2, updD_ne h1]) (by rw [updD_ne (Ne.symm hjc), updD_same]) (updD_same _ _ _)
end
end Go.Lg
namespace Go.Lg
open Go.Conc
theorem TrI.muteClose {th : Nat → Option Th} {ch : HList} {n i c : Nat} {t : Trace} {y : MemOp} (h : TrI th ch none n t) (hy : y.g = i) (hya : y.act = .close c) (hc : c < n) : TrI (updT th i none) ch (some c) n (t ++ #[y]) := by
 have hu : ∀ op ∈ #[y], op.act.touch? = none := fun op hop => by simp at hop; subst hop; rw [hya]; rfl
 have hw : Wordless #[y] := fun op hop m hm => by simp at hop; subst hop; rw [hya] at hm; cases hm
 have hm := h.mute hu (fun op hop => by simp at hop; subst hop; rw [hya]; exact hc) hw
 have key : ∀ j z, updT th i none j = some z → th j = some z := fun j z hz => by
  by_cases hj : j = i
  ·subst hj; rw [updT_same] at hz; cases hz
  ·rwa [updT_ne hj] at hz
 refine ⟨fun j z hz => hm.own j z (key j z hz), fun j z hz => hm.read j z (key j z hz), fun c o hc j z hz => hm.chk c o hc j z (key j z hz), hm.low, fun k a hka hm' => ?_, hm.clean, hm.quiet⟩
 rcases h.all k a (touch_mute' hu hka) hm' with ⟨j, z, hz, hkn⟩ | ⟨c', p, h1, _⟩
 ·by_cases hj : j = i
  ·subst hj
   have e2 : (t ++ #[y])[t.size]? = some y := by simp
   exact .inr ⟨c, t.size, rfl, by rw [act?_of e2, hya], .inr (hkn.hb_new (Nat.le_refl _) e2 hy)⟩
  ·exact .inl ⟨j, z, by rw [updT_ne hj]; exact hz, hkn.app _⟩
 ·cases h1
theorem updT_self {th : Nat → Option Th} {i : Nat} {x : Th} (h : th i = some x) : updT th i (some x) = th := by
 funext j
 by_cases hj : j = i
 ·subst hj; rw [updT_same, h]
 ·rw [updT_ne hj]
section
variable {P : Program} {B : Base} {cf cd : Nat} {MJ' : RMap → HList → Goroutine → Prop} {D : Nat → Dt} {th : Nat → Option Th} {clo : Bool} {cls : Option Nat} {s1 s2 : Nat} {tm1 tm2 : Bool} {gs : Array Goroutine} {w : World} {sl : Option (Nat × Nat)} {t : Trace} {g : Goroutine} {y : Th}
theorem PI.stepW1 (h : PI P B cf cd MJ' D th clo cls s1 s2 tm1 tm2 gs w t) {i : Nat} {v : Value} {T : Tree} (hi : gs[i]? = some g) (hd : D i = .w1 v (some T)) (hpos : 0 < i) (hy : th i = some y) (hk : KW1 P B cf cd v y.R y.H g) : Nx P B cf cd MJ' D tm1 tm2 gs w sl t i := by
 obtain ⟨rfl, rfl⟩ := h.notClosed (i := i) (.inl (by rw [hd]; exact Nat.one_pos))
 obtain ⟨z, hrun, hst, hnext⟩ := hk
 have hi0 : (i == 0) = false := by simp; omega
 have hst' : stepG P (i == 0) g w = .comm (core g) #[scase cf v z] true .send w #[] := by rw [hi0]; exact hst w (h.mem.fits i y hy)
 have hlt := lt_of_get hi
 by_cases hp : partners (gs.setIfInBounds i Go.Conc.ph) cf false = []
 ·have hr := crowd_waits (sl := sl) hi hst' (fun cc hcc => by simp at hcc; subst hcc; exact ways_send_none h.hcf (by simp) hp)
  rw [ofEvents_none] at hr
  refine ⟨_, _, _, updD D i (.w1 v none), th, false, none, s1, s2, hr, ?_, ?_⟩
  ·simpa using mu_msr (x := .w1 v none) hlt (by rw [hd]; rfl) rfl .none (by rw [hd]; rfl)
  ·refine h.one hlt (by simp) (Array.getElem?_setIfInBounds_self_of_lt hlt) (fun j hj => Array.getElem?_setIfInBounds_ne (Ne.symm hj)) h.mem (by simpa using h.tr) (fun _ _ => rfl) ⟨⟨y, hy, .inr ⟨rfl, g, z, ⟨hrun, hst, hnext⟩, rfl⟩⟩, hpos⟩ ?_
   have ev : vals (updD D i (.w1 v none)) gs.size = vals D gs.size := vals_upd (by rw [hd]; rfl)
   have ea : sumT gs.size (fun j => (updD D i (.w1 v none) j).act) = sumT gs.size (fun j => (D j).act) := act_upd (by rw [hd]; rfl)
   cases h.ph with
   | spawning h0 hpv hcl hw =>
    refine .spawning (by rw [updD_ne (by omega)]; exact h0) (ev ▸ hpv) (fun j k m e => ?_) (fun j m e => ?_)
    ·by_cases hj : j = i
     ·subst hj; rw [updD_same] at e; cases e
     ·rw [updD_ne hj] at e; exact hcl j k m e
    ·by_cases hj : j = i
     ·subst hj; rw [updD_same] at e; cases e
     ·rw [updD_ne hj] at e; exact hw j m e
   | @ranging rem m ic kc mc h0 hpv hic hdc hun hkc hw1 hw2 =>
    refine .ranging (ic := ic) (by rw [updD_ne (by omega)]; exact h0) (ev ▸ hpv) hic (by rw [updD_ne (by intro e; subst e; rw [hd] at hdc; cases hdc)]; exact hdc) (fun j k m e => ?_) (by rw [ea]; exact hkc) (fun e => ?_) (fun e j e' => ?_)
    ·by_cases hj : j = i
     ·subst hj; rw [updD_same] at e; cases e
     ·rw [updD_ne hj] at e; exact hun j k m e
    ·subst e
     obtain ⟨_, g0, z', y0, hg0, _⟩ := h.pkMr h0
     exact absurd hp (mem_part hg0 (by omega) (by rw [offersAt_parked_recv]; simp))
    ·by_cases hj : j = i
     ·subst hj; rw [updD_same] at e'; cases e'
     ·rw [updD_ne hj] at e'; exact hw2 e j e'
 ·obtain ⟨j, gj, zj, shj, d, hji, hgj, hr⟩ := crowd_send_meets_some (sl := sl) hi hst' h.hcf hp (fun j k hjk => by
   obtain ⟨h1, h2, x, h3, h4⟩ := h.part hjk
   rcases h4 with ⟨_, h4, _⟩ | ⟨_, h4, _⟩ | ⟨h4, _⟩ | ⟨_, _, rem, g0, z0, _, rfl⟩
   ·cases h4
   ·cases h4
   ·exact absurd h4 h.ne
   ·exact ⟨h2, h1, _, _, _, h3⟩)
  obtain ⟨_, hof⟩ := (h.sit j _ hgj).offers h.ne (c := cf) (send := false) (k := 0) (by rw [offersAt_parked_recv]; simp)
  rcases hof with ⟨_, h4, _⟩ | ⟨_, h4, _⟩ | ⟨h4, _⟩ | ⟨_, _, rem, g0, z0, hdj, he⟩
  ·cases h4
  ·cases h4
  ·exact absurd h4 h.ne
  obtain ⟨_, hsh, hserved⟩ := parked_inj he
  subst hsh
  obtain ⟨rfl, g0', z0', y0, hg0', hy0, hpk⟩ := h.pkMr hdj
  rw [hgj] at hg0'
  obtain ⟨_, _, hserved'⟩ := parked_inj (Option.some.inj hg0')
  rw [finishComm_recv, finishComm_send, ofEvents_none, hserved'] at hr
  have hmeet := h.meet1 (j := i) (v := v) hd hdj hy hy0 (gj := Conc.served (core g) undef) (g0 := Conc.served (core g0') (recvd true v true)) hnext (fun k hlen => by
   have : PkM P B cf MJ' (k + 1) rem y0.R y0.H (parked (core g0') #[rcase cf z0'] (.recv true)) := hlen ▸ hpk
   obtain ⟨g1, z1, ha, e1⟩ := this
   obtain ⟨_, _, hs1⟩ := parked_inj e1
   rw [hs1]; exact ha.2.2.1 v) (meet4 (a := i) (b := 0) (s := s1) (cap := 0) (f1 := (core g).frame.fn) (f2 := gj.frame.fn) (p1 := (core g).frame.place) (p2 := gj.frame.place) (lt_of_heap h.hcf)) d
  obtain ⟨x0, xj, hpot, _, _, _, hP⟩ := hmeet
  refine ⟨_, _, _, _, _, _, _, _, _, hr, ?_, by simpa using hP⟩
  simpa using mu_pot2 (x := xj) (y := x0) hlt h.pos hji (by omega)
theorem PI.stepW2 (h : PI P B cf cd MJ' D th clo cls s1 s2 tm1 tm2 gs w t) {i : Nat} {T : Tree} (hi : gs[i]? = some g) (hd : D i = .w2 (some T)) (hpos : 0 < i) (hy : th i = some y) (hk : KW2 P B cd y.R y.H g) : Nx P B cf cd MJ' D tm1 tm2 gs w sl t i := by
 obtain ⟨rfl, rfl⟩ := h.notClosed (i := i) (.inl (by rw [hd]; exact Nat.one_pos))
 obtain ⟨z, hrun, hst, hnext⟩ := hk
 have hi0 : (i == 0) = false := by simp; omega
 have hst' : stepG P (i == 0) g w = .comm (core g) #[scase cd (.bool true) z] true .send w #[] := by rw [hi0]; exact hst w (h.mem.fits i y hy)
 have hlt := lt_of_get hi
 by_cases hp : partners (gs.setIfInBounds i Go.Conc.ph) cd false = []
 ·have hr := crowd_waits (sl := sl) hi hst' (fun cc hcc => by simp at hcc; subst hcc; exact ways_send_none h.hcd (by simp) hp)
  rw [ofEvents_none] at hr
  refine ⟨_, _, _, updD D i (.w2 none), th, false, none, s1, s2, hr, ?_, ?_⟩
  ·simpa using mu_msr (x := .w2 none) hlt (by rw [hd]; rfl) rfl .none (by rw [hd]; rfl)
  ·refine h.one hlt (by simp) (Array.getElem?_setIfInBounds_self_of_lt hlt) (fun j hj => Array.getElem?_setIfInBounds_ne (Ne.symm hj)) h.mem (by simpa using h.tr) (fun _ _ => rfl) ⟨⟨y, hy, .inr ⟨rfl, g, z, ⟨hrun, hst, hnext⟩, rfl⟩⟩, hpos⟩ ?_
   have ev : vals (updD D i (.w2 none)) gs.size = vals D gs.size := vals_upd (by rw [hd]; rfl)
   have ea : sumT gs.size (fun j => (updD D i (.w2 none) j).act) = sumT gs.size (fun j => (D j).act) := act_upd (by rw [hd]; rfl)
   cases h.ph with
   | spawning h0 hpv hcl hw => exact absurd hd (hw i _)
   | @ranging rem m ic kc mc h0 hpv hic hdc hun hkc hw1 hw2 =>
    refine .ranging (ic := ic) (by rw [updD_ne (by omega)]; exact h0) (ev ▸ hpv) hic (by rw [updD_ne (by intro e; subst e; rw [hd] at hdc; cases hdc)]; exact hdc) (fun j k m e => ?_) (by rw [ea]; exact hkc) (fun e j v e' => ?_) (fun e => ?_)
    ·by_cases hj : j = i
     ·subst hj; rw [updD_same] at e; cases e
     ·rw [updD_ne hj] at e; exact hun j k m e
    ·by_cases hj : j = i
     ·subst hj; rw [updD_same] at e'; cases e'
     ·rw [updD_ne hj] at e'; exact hw1 e j v e'
    ·subst e
     obtain ⟨_, _, _, g0, z', y0, hg0, _⟩ := h.pkCl hdc
     exact absurd hp (mem_part hg0 (by intro e; subst e; rw [hd] at hdc; cases hdc) (by rw [offersAt_parked_recv]; simp))
 ·obtain ⟨j, gj, zj, shj, d, hji, hgj, hr⟩ := crowd_send_meets_some (sl := sl) hi hst' h.hcd hp (fun j k hjk => by
   obtain ⟨h1, h2, x, h3, h4⟩ := h.part hjk
   rcases h4 with ⟨_, h4, _⟩ | ⟨_, h4, _⟩ | ⟨_, _, rem, g0, z0, _, rfl⟩ | ⟨h4, _⟩
   ·cases h4
   ·cases h4
   ·exact ⟨h2, h1, _, _, _, h3⟩
   ·exact absurd h4.symm h.ne)
  obtain ⟨_, hof⟩ := (h.sit j _ hgj).offers h.ne (c := cd) (send := false) (k := 0) (by rw [offersAt_parked_recv]; simp)
  rcases hof with ⟨_, h4, _⟩ | ⟨_, h4, _⟩ | ⟨_, _, k', g0, z0, hdj, he⟩ | ⟨h4, _⟩
  ·cases h4
  ·cases h4
  rotate_left
  ·exact absurd h4.symm h.ne
  obtain ⟨_, hsh, hserved⟩ := parked_inj he
  subst hsh
  obtain ⟨k'', hk'', _, g0', z0', y0, hg0', hy0, ha⟩ := h.pkCl hdj
  obtain rfl : k' = k'' := by omega
  rw [hgj] at hg0'
  obtain ⟨_, _, hserved'⟩ := parked_inj (Option.some.inj hg0')
  rw [finishComm_recv, finishComm_send, ofEvents_none, hserved'] at hr
  obtain ⟨xc, xj, hpot, _, _, hltc, _, hP⟩ := h.meet2 (j := i) hd hdj hy hy0 (gj := Conc.served (core g) undef) (gc := Conc.served (core g0') (recvd false (.bool true) true)) hnext (ha.2.2.1 _) (f1 := (core g).frame.fn) (f2 := gj.frame.fn) (p1 := (core g).frame.place) (p2 := gj.frame.place) d
  refine ⟨_, _, _, _, _, _, _, _, _, hr, ?_, by simpa using hP⟩
  simpa using mu_pot2 (x := xj) (y := xc) hlt hltc hji (by omega)
theorem PI.stepCl (h : PI P B cf cd MJ' D th clo cls s1 s2 tm1 tm2 gs w t) {i k : Nat} {T : Tree} (hi : gs[i]? = some g) (hd : D i = .cl (k + 1) (some T)) (hpos : 0 < i) (hy : th i = some y) (hk : CK P B cf cd (k + 1) y.R y.H g) : Nx P B cf cd MJ' D tm1 tm2 gs w sl t i := by
 obtain ⟨rfl, rfl⟩ := h.notClosed (i := i) (.inr (.inl ⟨_, _, hd⟩))
 obtain ⟨z, hrun, hst, hgot, hnil⟩ := hk
 have hi0 : (i == 0) = false := by simp; omega
 have hst' : stepG P (i == 0) g w = .comm (core g) #[rcase cd z] true (.recv false) w #[] := by rw [hi0]; exact hst w (h.mem.fits i y hy)
 have hlt := lt_of_get hi
 by_cases hp : partners (gs.setIfInBounds i Go.Conc.ph) cd true = []
 ·have hr := crowd_waits (sl := sl) hi hst' (fun cc hcc => by simp at hcc; subst hcc; exact ways_recv_none h.hcd hp)
  rw [ofEvents_none] at hr
  refine ⟨_, _, _, updD D i (.cl (k + 1) none), th, false, none, s1, s2, hr, ?_, ?_⟩
  ·simpa using mu_msr (x := .cl (k + 1) none) hlt (by rw [hd]; rfl) rfl .none (by rw [hd]; rfl)
  ·refine h.one hlt (by simp) (Array.getElem?_setIfInBounds_self_of_lt hlt) (fun j hj => Array.getElem?_setIfInBounds_ne (Ne.symm hj)) h.mem (by simpa using h.tr) (fun _ _ => rfl) ⟨⟨y, hy, .inr ⟨rfl, g, z, ⟨hrun, hst, hgot, hnil⟩, rfl⟩⟩, hpos⟩ ?_
   have ev : vals (updD D i (.cl (k + 1) none)) gs.size = vals D gs.size := vals_upd (by rw [hd]; rfl)
   have ea : sumT gs.size (fun j => (updD D i (.cl (k + 1) none) j).act) = sumT gs.size (fun j => (D j).act) := act_upd (by rw [hd]; rfl)
   cases h.ph with
   | spawning h0 hpv hcl hw => exact absurd hd (hcl i _ _)
   | @ranging rem m ic kc mc h0 hpv hic hdc hun hkc hw1 hw2 =>
    obtain rfl := hun i _ _ hd
    rw [hd] at hdc; cases hdc
    refine .ranging (ic := i) (by rw [updD_ne (by omega)]; exact h0) (ev ▸ hpv) hic (updD_same _ _ _) (fun j k' m e => ?_) (by rw [ea]; exact hkc) (fun e j v e' => ?_) (fun e j e' => ?_)
    ·by_cases hj : j = i
     ·exact hj
     ·rw [updD_ne hj] at e; exact hun j k' m e
    ·by_cases hj : j = i
     ·subst hj; rw [updD_same] at e'; cases e'
     ·rw [updD_ne hj] at e'; exact hw1 e j v e'
    ·by_cases hj : j = i
     ·subst hj; rw [updD_same] at e'; cases e'
     ·rw [updD_ne hj] at e'
      obtain ⟨_, g0, z', y0, hg0, _⟩ := h.pkW2 e'
      exact absurd hp (mem_part hg0 hj (by rw [offersAt_parked_send]; simp))
 ·obtain ⟨j, gj, vj, zj, shj, d, hji, hgj, hr⟩ := crowd_recv_meets_some (sl := sl) hi hst' h.hcd hp (fun j k hjk => by
   obtain ⟨h1, h2, x, h3, h4⟩ := h.part hjk
   rcases h4 with ⟨h4, _⟩ | ⟨_, _, g0, z0, _, rfl⟩ | ⟨_, h4, _⟩ | ⟨h4, _⟩
   ·exact absurd h4.symm h.ne
   ·exact ⟨h2, h1, _, _, _, _, h3⟩
   ·cases h4
   ·exact absurd h4.symm h.ne)
  obtain ⟨_, hof⟩ := (h.sit j _ hgj).offers h.ne (c := cd) (send := true) (k := 0) (by rw [offersAt_parked_send]; simp)
  rcases hof with ⟨h4, _⟩ | ⟨_, _, g0, z0, hdj, he⟩ | ⟨_, h4, _⟩ | ⟨h4, _⟩
  ·exact absurd h4.symm h.ne
  rotate_left
  ·cases h4
  ·exact absurd h4.symm h.ne
  obtain ⟨_, hsh, hserved⟩ := parked_inj he
  subst hsh
  obtain ⟨_, g0', z0', yj, hg0', hyj, ha⟩ := h.pkW2 hdj
  rw [hgj] at hg0'
  obtain ⟨_, _, hserved'⟩ := parked_inj (Option.some.inj hg0')
  rw [finishComm_recv, finishComm_send, ofEvents_none, hserved'] at hr
  obtain ⟨xc, xj, hpot, _, hltj, _, hP, _⟩ := h.meet2 (j := j) hdj hd hyj hy (gj := Conc.served (core g0') undef) (gc := Conc.served (core g) (recvd false vj true)) ha.2.2 (hgot _) (f1 := gj.frame.fn) (f2 := (core g).frame.fn) (p1 := gj.frame.place) (p2 := (core g).frame.place) d
  refine ⟨_, _, _, _, _, _, _, _, _, hr, ?_, by simpa using hP⟩
  simpa using mu_pot2 (x := xc) (y := xj) hlt hltj hji (by omega)
theorem PI.stepClose (h : PI P B cf cd MJ' D th clo cls s1 s2 tm1 tm2 gs w t) {i : Nat} {T : Tree} (hi : gs[i]? = some g) (hd : D i = .cl 0 (some T)) (hpos : 0 < i) (hy : th i = some y) (hk : CK P B cf cd 0 y.R y.H g) : Nx P B cf cd MJ' D tm1 tm2 gs w sl t i := by
 obtain ⟨rfl, rfl⟩ := h.notClosed (i := i) (.inr (.inl ⟨_, _, hd⟩))
 obtain ⟨hrun, hmw, g', n, hst, hq⟩ := hk
 have hi0 : (i == 0) = false := by simp; omega
 have hlt := lt_of_get hi
 have hst' := hst w s1 s1 tm1 (h.mem.fits i y hy) h.hcf
 have hr := runT_crowd_go (P := P) (sl := sl) hi (by rw [hi0]; exact hst')
 cases h.ph with
 | spawning h0 hpv hcl hw => exact absurd hd (hcl i _ _)
 | @ranging rem m ic kc mc h0 hpv hic hdc hun hkc hw1 hw2 =>
  obtain rfl := hun i _ _ hd
  rw [hd] at hdc; cases hdc
  have hz := act_zero hkc.symm
  have hac : ∀ j, (D j).act = 0 := fun j => by
   rcases Nat.lt_or_ge j gs.size with hj | hj
   ·exact hz j hj
   ·rw [(h.out j hj).2]; rfl
  obtain ⟨x0, hx0⟩ := h.there (i := 0) (by rw [h0]; intro n e; cases e)
  have hs0 := h.sit 0 x0 hx0
  rw [h0] at hs0
  have hlen : rem.length = 0 := by
   have h1 := hpv.length_eq
   have h2 := vals_len (D := D) (n := gs.size)
   omega
  have hc0 : (w.shut cf s1 s1 tm1).heap[cf]? = some (.chan 0 #[] true s1 s1 tm1) := by
   have := lt_of_heap h.hcf
   simp [World.shut, this]
  obtain ⟨T0, hsit0⟩ : ∃ T0, Sit P B cf cd MJ' 0 (.mr rem (some T0)) (th 0) (woken P g g' (w.shut cf s1 s1 tm1) x0) := by
   obtain ⟨⟨y0, hy0, ⟨T0, rfl, h1⟩ | ⟨rfl, h1⟩⟩, _⟩ := hs0
   ·refine ⟨T0, ⟨y0, hy0, .inl ⟨T0, rfl, ?_⟩⟩, rfl⟩
    unfold woken
    split
    ·rw [again_running _ (.inl (h1.unf fun _ _ _ => MRk.run))]; exact h1
    ·exact h1
   ·refine ⟨.node Empty Empty.elim, ⟨y0, hy0, .inl ⟨_, rfl, .inl ?_⟩⟩, rfl⟩
    rw [hlen] at h1 ⊢
    obtain ⟨g0, z, ha, rfl⟩ := h1
    have hg' : g'.status = .running ∨ g'.status = .finished := hq.status
    have hw : woken P g g' (w.shut cf s1 s1 tm1) (parked (core g0) #[rcase cf z] (.recv true)) = { parked (core g0) #[rcase cf z] (.recv true) with status := .running } := by
     unfold woken
     rw [if_pos]
     ·exact again_parked_shut rfl hc0
     ·rcases hg' with e | e <;> simp [hmw, e]
    rw [hw]
    have hcore : ∀ v, Conc.served (core { parked (core g0) #[rcase cf z] (.recv true) with status := .running }) v = Conc.served (core g0) v := fun v => rfl
    refine ⟨z, rfl, fun w hw => ?_, fun v => ?_, ?_⟩
    ·exact (stepG_same rfl rfl rfl w).trans (ha.2.1 w hw)
    ·exact trivial
    ·rw [hcore]; exact ha.2.2.2
  have harr : (gs.map (woken P g g' (w.shut cf s1 s1 tm1))).setIfInBounds i g' = (gs.setIfInBounds 0 (woken P g g' (w.shut cf s1 s1 tm1) x0)).setIfInBounds i g' := by
   apply Array.ext_getElem?
   intro k
   by_cases hki : k = i
   ·subst hki
    rw [Array.getElem?_setIfInBounds_self_of_lt (by simpa using hlt), Array.getElem?_setIfInBounds_self_of_lt (by simpa using hlt)]
   ·rw [Array.getElem?_setIfInBounds_ne (Ne.symm hki), Array.getElem?_setIfInBounds_ne (Ne.symm hki), Array.getElem?_map]
    by_cases hk0 : k = 0
    ·subst hk0
     rw [Array.getElem?_setIfInBounds_self_of_lt h.pos, hx0]; rfl
    ·rw [Array.getElem?_setIfInBounds_ne (Ne.symm hk0)]
     cases hgk : gs[k]? with
     | none => rfl
     | some x =>
      rw [Option.map_some]
      congr 1
      have hcd : (w.shut cf s1 s1 tm1).heap[cd]? = some (.chan 0 #[] false s2 s2 tm2) := by
       rw [← h.hcd]
       exact Array.getElem?_setIfInBounds_ne h.ne
      refine (h.sit k x hgk).again hcd (.inr ⟨fun v e => ?_, fun rem e => ?_⟩) (s1 := s1) (tm1 := tm1)
      ·have := hac k; rw [e] at this; cases this
      ·have hsk := h.sit k x hgk
       rw [e] at hsk
       exact hk0 hsk.2
  rw [harr] at hr
  refine ⟨_, _, _, updD (updD D 0 (.mr rem (some T0))) i (.lv n), updT th i none, true, some cf, s1, s2, hr, ?_, ?_⟩
  ·simpa using mu_pot2 (x := .lv n) (y := .mr rem (some T0)) hlt h.pos (by omega) (by rw [hd, h0]; simp only [Dt.pot]; omega)
  ·have hm := (h.mem.setf (s1' := s1) h.ne true).drop (i := i)
   have hlow : cf < w.heap.size := lt_of_heap h.hcf
   have ht1 := TrI.app (u := #[(⟨i, g.frame.fn, g.frame.place, .access ⟨.obj cf, false, true⟩⟩ : MemOp)]) h.mem rfl h.tr hy (R' := y.R) (H' := y.H) (n' := w.heap.size) (by simp)
    (fun op hop a ha => by
     simp at hop; subst hop
     simp [MemAct.touch?] at ha; subst ha
     exact ⟨cf, rfl, .inr (.inr (.inr ⟨rfl, _, List.mem_cons_self⟩))⟩)
    (fun op hop => by simp at hop; subst hop; exact hlow) (fun op hop m hm => by simp at hop; subst hop; cases hm) (Nat.le_refl _) (fun b o x => .inl x) (fun b o x => .inl ⟨o, x⟩)
   rw [updT_self hy] at ht1
   have ht2 := (ht1.muteClose (y := ⟨i, g.frame.fn, g.frame.place, .close cf⟩) rfl rfl hlow).chs2 (s1' := s1) (s2' := s2) (clo' := true)
   have hops : t ++ MemOp.ofEvents i g.frame.fn g.frame.place #[⟨.obj cf, false, true⟩, ⟨.obj cf, true, true⟩] = (t ++ #[(⟨i, g.frame.fn, g.frame.place, .access ⟨.obj cf, false, true⟩⟩ : MemOp)]) ++ #[⟨i, g.frame.fn, g.frame.place, .close cf⟩] := by
    rw [ofEvents_eq, Array.append_assoc]; congr 1; simp [MemAct.ofEvent]
   rw [hops]
   refine h.two hlt h.pos (by omega) hm (by simpa [World.shut] using ht2) (fun k h1 h2 => updT_ne h1) ⟨updT_same _ _ _, hq, hpos⟩ (by rw [updT_ne (by omega)]; exact hsit0) ?_
   have hrem : rem = [] := List.length_eq_zero_iff.1 hlen
   refine .closed (rem := rem) (m := some T0) (by rw [updD_ne (by omega), updD_same]) ?_ (fun j k m e => ?_) (fun j => ?_) (by simp)
   ·rw [vals_upd (by rw [updD_ne (by omega), hd]; rfl), vals_upd (by rw [h0]; rfl)]; exact hpv
   ·by_cases hj : j = i
    ·subst hj; rw [updD_same] at e; cases e
    ·rw [updD_ne hj] at e
     by_cases hj0 : j = 0
     ·subst hj0; rw [updD_same] at e; cases e
     ·rw [updD_ne hj0] at e; exact hj (hun j k m e)
   ·by_cases hj : j = i
    ·subst hj; rw [updD_same]; rfl
    ·rw [updD_ne hj]
     by_cases hj0 : j = 0
     ·subst hj0; rw [updD_same]; rfl
     ·rw [updD_ne hj0]; exact hac j
end
end Go.Lg
namespace Go.Lg
open Go.Conc
section
variable {P : Program} {B : Base} {cf cd : Nat} {MJ' : RMap → HList → Goroutine → Prop} {D : Nat → Dt} {th : Nat → Option Th} {clo : Bool} {cls : Option Nat} {s1 s2 : Nat} {tm1 tm2 : Bool} {gs : Array Goroutine} {w : World} {sl : Option (Nat × Nat)} {t : Trace} {g : Goroutine} {y : Th}
theorem PI.add (h : PI P B cf cd MJ' D th clo cls s1 s2 tm1 tm2 gs w t) {g' child : Goroutine} {x z : Dt} {y0 : Th} {f1 f2 : FuncId} {p1 p2 : String} (hy : th 0 = some y) (hsx : Sit P B cf cd MJ' 0 x (some y) g') (hsz : Sit P B cf cd MJ' gs.size z (some ⟨y.R, []⟩) child)
  (hph : Ph cf (gs.size + 1) (updD (updD D gs.size z) 0 x) clo cls) :
  PI P B cf cd MJ' (updD (updD D gs.size z) 0 x) (updT th gs.size (some ⟨y.R, []⟩)) clo cls s1 s2 tm1 tm2 ((gs.setIfInBounds 0 g').push child) w (t ++ #[⟨0, f1, p1, .go gs.size⟩, ⟨gs.size, f2, p2, .start⟩]) := by
 have hn := h.out gs.size (Nat.le_refl _)
 have h0n : (0 : Nat) ≠ gs.size := by have := h.pos; omega
 have hu : ∀ op ∈ (#[⟨0, f1, p1, .go gs.size⟩, ⟨gs.size, f2, p2, .start⟩] : Trace), op.act.touch? = none := fun op hop => by
  simp only [List.mem_toArray, List.mem_cons, List.not_mem_nil, or_false] at hop
  rcases hop with rfl | rfl <;> rfl
 have hl : ∀ op ∈ (#[⟨0, f1, p1, .go gs.size⟩, ⟨gs.size, f2, p2, .start⟩] : Trace), op.act.low w.heap.size := fun op hop => by
  simp only [List.mem_toArray, List.mem_cons, List.not_mem_nil, or_false] at hop
  rcases hop with rfl | rfl <;> trivial
 have hw : Wordless (#[⟨0, f1, p1, .go gs.size⟩, ⟨gs.size, f2, p2, .start⟩] : Trace) := fun op hop m hm => by
  simp only [List.mem_toArray, List.mem_cons, List.not_mem_nil, or_false] at hop
  rcases hop with rfl | rfl <;> cases hm
 refine ⟨h.ne, h.mem.add hy (fun _ _ e => e), h.tr.muteAdd hu hl hw hy (fun _ _ e => e) hn.1 (fun k hk => kn_spawn (h.tr.quiet.append hw) rfl rfl rfl rfl hk), fun j v hj => ?_, fun j hj => ?_, by simpa using hph, by simp⟩
 ·rw [Array.getElem?_push] at hj
  split at hj
  ·rename_i e
   have e : j = gs.size := by simpa using e
   cases hj; subst e
   rw [updD_ne (Ne.symm h0n), updD_same, updT_same]; exact hsz
  ·rename_i e
   have e : j ≠ gs.size := by simpa using e
   by_cases hj0 : j = 0
   ·subst hj0
    rw [Array.getElem?_setIfInBounds_self_of_lt h.pos] at hj; cases hj
    rw [updD_same, updT_ne h0n, hy]; exact hsx
   ·rw [Array.getElem?_setIfInBounds_ne (Ne.symm hj0)] at hj
    rw [updD_ne hj0, updD_ne e, updT_ne e]; exact h.sit j v hj
 ·have hj' : gs.size + 1 ≤ j := by simpa using hj
  rw [updD_ne (by omega), updD_ne (by omega), updT_ne (by omega)]; exact h.out j (by omega)
theorem PI.stepMs (h : PI P B cf cd MJ' D th clo cls s1 s2 tm1 tm2 gs w t) {k : Nat} {sp : List Value} {T : Tree} (hi : gs[0]? = some g) (hd : D 0 = .ms k sp (some T)) (hy : th 0 = some y) (hk : MSk P B cf cd MJ' k sp y.R y.H g) : Nx P B cf cd MJ' D tm1 tm2 gs w sl t 0 := by
 obtain ⟨rfl, rfl⟩ := h.notClosed (i := 0) (.inr (.inr ⟨⟨_, _, _, hd⟩, rfl⟩))
 have hpos := h.pos
 cases h.ph with
 | ranging h0 => rw [hd] at h0; cases h0
 | spawning h0 hpv hcl hw =>
  rw [hd] at h0; cases h0
  cases k with
  | succ k =>
   obtain ⟨hrun, hst⟩ := hk
   obtain ⟨g', child, v, hsp, ⟨T1, hT1⟩, T0, hT0⟩ := hst w (h.mem.fits 0 y hy)
   have hr := runT_crowd_spawn (sl := sl) hi (show stepG P (0 == 0) g w = _ from hsp)
   rw [ofEvents_none] at hr
   refine ⟨_, _, _, _, _, false, none, s1, s2, hr, ?_, h.add (x := .ms k (v :: sp) (some T0)) (z := .w1 v (some T1)) (y0 := y) hy ⟨⟨y, rfl, .inl ⟨T0, rfl, hT0⟩⟩, rfl⟩ ⟨⟨_, rfl, .inl ⟨T1, rfl, hT1⟩⟩, hpos⟩ ?_⟩
   ·simpa using mu_new (x := .ms k (v :: sp) (some T0)) (y := .w1 v (some T1)) hpos (by rw [hd]; simp only [Dt.pot, List.length_cons]; omega)
   ·refine .spawning (updD_same _ _ _) ?_ (fun j k' m e => ?_) (fun j m e => ?_)
    ·rw [vals_upd (by rw [updD_ne (by omega), hd]; rfl), vals_succ, updD_same, vals_congr (D := D) (fun j hj => by rw [updD_ne (by omega)])]
     exact List.Perm.cons v hpv
    ·by_cases hj0 : j = 0
     ·subst hj0; rw [updD_same] at e; cases e
     ·rw [updD_ne hj0] at e
      by_cases hjn : j = gs.size
      ·subst hjn; rw [updD_same] at e; cases e
      ·rw [updD_ne hjn] at e; exact hcl j k' m e
    ·by_cases hj0 : j = 0
     ·subst hj0; rw [updD_same] at e; cases e
     ·rw [updD_ne hj0] at e
      by_cases hjn : j = gs.size
      ·subst hjn; rw [updD_same] at e; cases e
      ·rw [updD_ne hjn] at e; exact hw j m e
  | zero =>
   obtain ⟨hrun, hst⟩ := hk
   obtain ⟨g', child, hsp, ⟨T1, hT1⟩, T0, hT0⟩ := hst w (h.mem.fits 0 y hy)
   have hr := runT_crowd_spawn (sl := sl) hi (show stepG P (0 == 0) g w = _ from hsp)
   rw [ofEvents_none] at hr
   refine ⟨_, _, _, _, _, false, none, s1, s2, hr, ?_, h.add (x := .mr sp (some T0)) (z := .cl sp.length (some T1)) (y0 := y) hy ⟨⟨y, rfl, .inl ⟨T0, rfl, hT0⟩⟩, rfl⟩ ⟨⟨_, rfl, .inl ⟨T1, rfl, hT1⟩⟩, hpos⟩ ?_⟩
   ·simpa using mu_new (x := .mr sp (some T0)) (y := .cl sp.length (some T1)) hpos (by rw [hd]; simp only [Dt.pot]; omega)
   ·have ev : vals (updD (updD D gs.size (.cl sp.length (some T1))) 0 (.mr sp (some T0))) (gs.size + 1) = vals D gs.size := by
     rw [vals_upd (by rw [updD_ne (by omega), hd]; rfl), vals_succ, updD_same, vals_congr (D := D) (fun j hj => by rw [updD_ne (by omega)])]
     rfl
    refine .ranging (ic := gs.size) (kc := sp.length) (mc := some T1) (updD_same _ _ _) (by rw [ev]; exact hpv) (by omega) (by rw [updD_ne (by omega), updD_same]) (fun j k' m e => ?_) ?_ (fun e => by cases e) (fun e => by cases e)
    ·by_cases hj0 : j = 0
     ·subst hj0; rw [updD_same] at e; cases e
     ·rw [updD_ne hj0] at e
      by_cases hjn : j = gs.size
      ·exact hjn
      ·rw [updD_ne hjn] at e; exact absurd e (hcl j k' m)
    ·rw [act_upd (by rw [updD_ne (by omega), hd]; rfl)]
     have e1 := vals_len_eq (D := D) (n := gs.size) (fun i m _ => hw i m)
     have e2 := hpv.length_eq
     have e3 : sumT gs.size (fun j => (updD D gs.size (.cl sp.length (some T1)) j).act) = sumT gs.size (fun j => (D j).act) := sumT_congr fun j hj => by rw [updD_ne (by omega)]
     have e4 : (updD D gs.size (.cl sp.length (some T1)) gs.size).act = 0 := by rw [updD_same]; rfl
     simp only [sumT, e3, e4]
     omega
theorem offers_nil_cf (h : PI P B cf cd MJ' D th clo cls s1 s2 tm1 tm2 gs w t) {i : Nat} (hz : ∀ j, (D j).act = 0) : partners (gs.setIfInBounds i Go.Conc.ph) cf true = [] := by
 apply List.eq_nil_iff_forall_not_mem.2
 rintro ⟨j, k⟩ hm
 obtain ⟨_, _, x, _, h4⟩ := h.part hm
 rcases h4 with ⟨_, _, v, g0, z, e, _⟩ | ⟨h4, _⟩ | ⟨_, h4, _⟩ | ⟨_, h4, _⟩
 ·have := hz j; rw [e] at this; cases this
 ·exact h.ne h4
 ·cases h4
 ·cases h4
theorem PI.stepMr (h : PI P B cf cd MJ' D th false none s1 s2 tm1 tm2 gs w t) {rem : List Value} {T : Tree} (hi : gs[0]? = some g) (hd : D 0 = .mr rem (some T)) (hy : th 0 = some y) (hk : MRk P B cf MJ' rem.length rem y.R y.H g) : Nx P B cf cd MJ' D tm1 tm2 gs w sl t 0 := by
 have hpos := h.pos
 obtain ⟨z, Got, Nil, hk', hpk⟩ : ∃ z Got Nil, AtR P B true cf true Got Nil z y.R y.H g ∧ ((∀ k, rem.length = k + 1 → ∀ v, MGot P B rem (MRk P B cf MJ' k) v y.R y.H (Conc.served (core g) (recvd true v true))) ∧ PkM P B cf MJ' rem.length rem y.R y.H (parked (core g) #[rcase cf z] (.recv true))) := by
  generalize rem.length = n at hk
  cases n with
  | zero => obtain ⟨z, hk⟩ := hk; exact ⟨z, _, _, hk, fun k e => (by cases e), g, z, hk, rfl⟩
  | succ n => obtain ⟨z, hk⟩ := hk; exact ⟨z, _, _, hk, fun k e v => (by cases e; exact hk.2.2.1 v), g, z, hk, rfl⟩
 have hst : stepG P (0 == 0) g w = .comm (core g) #[rcase cf z] true (.recv true) w #[] := hk'.2.1 w (h.mem.fits 0 y hy)
 by_cases hp : partners (gs.setIfInBounds 0 Go.Conc.ph) cf true = []
 ·have hr := crowd_waits (sl := sl) hi hst (fun cc hcc => by simp at hcc; subst hcc; exact ways_recv_none h.hcf hp)
  rw [ofEvents_none] at hr
  refine ⟨_, _, _, updD D 0 (.mr rem none), th, false, none, s1, s2, hr, ?_, ?_⟩
  ·simpa using mu_msr (x := .mr rem none) hpos (by rw [hd]; rfl) rfl .none (by rw [hd]; rfl)
  ·refine h.one hpos (by simp) (Array.getElem?_setIfInBounds_self_of_lt hpos) (fun j hj => Array.getElem?_setIfInBounds_ne (Ne.symm hj)) h.mem (by simpa using h.tr) (fun _ _ => rfl) ⟨⟨y, hy, .inr ⟨rfl, hpk.2⟩⟩, rfl⟩ ?_
   have ev : vals (updD D 0 (.mr rem none)) gs.size = vals D gs.size := vals_upd (by rw [hd]; rfl)
   have ea : sumT gs.size (fun j => (updD D 0 (.mr rem none) j).act) = sumT gs.size (fun j => (D j).act) := act_upd (by rw [hd]; rfl)
   cases h.ph with
   | spawning h0 hpv hcl hw => rw [hd] at h0; cases h0
   | @ranging rem' m ic kc mc h0 hpv hic hdc hun hkc hw1 hw2 =>
    rw [hd] at h0; cases h0
    have hic0 : ic ≠ 0 := by intro e; subst e; rw [hd] at hdc; cases hdc
    refine .ranging (ic := ic) (updD_same _ _ _) (ev ▸ hpv) hic (by rw [updD_ne hic0]; exact hdc) (fun j k' m e => ?_) (by rw [ea]; exact hkc) (fun e j v e' => ?_) (fun e j e' => ?_)
    ·by_cases hj : j = 0
     ·subst hj; rw [updD_same] at e; cases e
     ·rw [updD_ne hj] at e; exact hun j k' m e
    ·by_cases hj : j = 0
     ·subst hj; rw [updD_same] at e'; cases e'
     ·rw [updD_ne hj] at e'
      obtain ⟨_, g0, z', y0, hg0, _⟩ := h.pkW1 e'
      exact absurd hp (mem_part hg0 hj (by rw [offersAt_parked_send]; simp))
    ·by_cases hj : j = 0
     ·subst hj; rw [updD_same] at e'; cases e'
     ·rw [updD_ne hj] at e'; exact hw2 e j e'
 ·obtain ⟨j, gj, vj, zj, shj, d, hji, hgj, hr⟩ := crowd_recv_meets_some (sl := sl) hi hst h.hcf hp (fun j k hjk => by
   obtain ⟨h1, h2, x, h3, h4⟩ := h.part hjk
   rcases h4 with ⟨_, _, v, g0, z0, _, rfl⟩ | ⟨h4, _⟩ | ⟨_, h4, _⟩ | ⟨_, h4, _⟩
   ·exact ⟨h2, h1, _, _, _, _, h3⟩
   ·exact absurd h4 h.ne
   ·cases h4
   ·cases h4)
  obtain ⟨_, hof⟩ := (h.sit j _ hgj).offers h.ne (c := cf) (send := true) (k := 0) (by rw [offersAt_parked_send]; simp)
  rcases hof with ⟨_, _, v, g0, z0, hdj, he⟩ | ⟨h4, _⟩ | ⟨_, h4, _⟩ | ⟨_, h4, _⟩
  rotate_left
  ·exact absurd h4 h.ne
  ·cases h4
  ·cases h4
  obtain ⟨hcs, hsh, hserved⟩ := parked_inj he
  subst hsh
  have hv : vj = v := by
   have : scase cf vj zj = scase cf v z0 := by simpa using hcs
   simp only [scase, CommCase.mk.injEq, Option.some.injEq] at this
   exact this.2.1
  subst hv
  obtain ⟨_, g0', z0', yj, hg0', hyj, ha⟩ := h.pkW1 hdj
  rw [hgj] at hg0'
  obtain ⟨_, _, hserved'⟩ := parked_inj (Option.some.inj hg0')
  rw [finishComm_recv, finishComm_send, ofEvents_none, hserved'] at hr
  have hmeet := h.meet1 (j := j) (v := vj) hdj hd hyj hy (gj := Conc.served (core g0') undef) (g0 := Conc.served (core g) (recvd true vj true)) ha.2.2 (fun k hlen => hpk.1 k hlen vj) (meet4 (a := j) (b := 0) (s := s1) (cap := 0) (f1 := gj.frame.fn) (f2 := (core g).frame.fn) (p1 := gj.frame.place) (p2 := (core g).frame.place) (lt_of_heap h.hcf)) d
  obtain ⟨x0, xj, hpot, _, hltj, hP, _⟩ := hmeet
  refine ⟨_, _, _, _, _, _, _, _, _, hr, ?_, by simpa using hP⟩
  simpa using mu_pot2 (x := x0) (y := xj) hpos hltj hji (by omega)
theorem PI.stepEnd (h : PI P B cf cd MJ' D th true cls s1 s2 tm1 tm2 gs w t) {rem : List Value} {T : Tree} (hi : gs[0]? = some g) (hd : D 0 = .mr rem (some T)) (hy : th 0 = some y) (hk : MRk P B cf MJ' rem.length rem y.R y.H g) :
  ∃ gs' g' ops q, runT P (crowd gs w sl) 0 = (.next (crowd gs' w sl), ops) ∧ gs'[0]? = some g' ∧ MJ' y.R y.H g' ∧ Alone P B y.R y.H gs' w (t ++ ops) q := by
 have hpos := h.pos
 have hcf := h.hcf
 cases h.ph with
 | @closed rem' m h0 hpv hcl hac hm =>
  rw [hd] at h0; cases h0
  have hlen : rem.length = 0 := by
   have h1 := hpv.length_eq
   have h2 := vals_len (D := D) (n := gs.size)
   have h3 : sumT gs.size (fun i => (D i).act) = 0 := by
    have e : sumT gs.size (fun i => (D i).act) = sumT gs.size (fun _ => 0) := sumT_congr fun i _ => hac i
    rw [e]
    have : ∀ n, sumT n (fun _ => 0) = 0 := by intro n; induction n with | zero => rfl | succ n ih => simp only [sumT, ih]
    exact this _
   omega
  rw [hlen] at hk
  obtain ⟨z, hrun, hst, _, hnil⟩ := hk
  have hr := crowd_recv_closed (sl := sl) hi (show stepG P (0 == 0) g w = _ from hst w (h.mem.fits 0 y hy)) hcf (offers_nil_cf h hac)
  rw [finishComm_recv, ofEvents_none] at hr
  have hlv : ∀ i, i ≠ 0 → th i = none ∧ ∃ n, D i = .lv n ∧ ∀ x, gs[i]? = some x → QuitsIn P n x := by
   intro i hi0
   rcases Nat.lt_or_ge i gs.size with hlt | hge
   ·have hx := Array.getElem?_eq_getElem hlt
    have hs := h.sit i _ hx
    cases hdi : D i with
    | lv n => rw [hdi] at hs; exact ⟨hs.1, n, rfl, fun x hx' => by rw [hx] at hx'; cases hx'; exact hs.2.1⟩
    | w1 v m => have := hac i; rw [hdi] at this; cases this
    | w2 m => have := hac i; rw [hdi] at this; cases this
    | cl k m => exact absurd hdi (hcl i k m)
    | ms k sp m => rw [hdi] at hs; exact absurd hs.2 hi0
    | mr r m => rw [hdi] at hs; exact absurd hs.2 hi0
   ·obtain ⟨h1, h2⟩ := h.out i hge
    exact ⟨h1, 0, h2, fun x hx => by rw [Array.getElem?_eq_none hge] at hx; cases hx⟩
  have hth : th = only y := by
   funext i
   unfold only
   split
   ·rename_i e; subst e; exact hy
   ·rename_i e; exact (hlv i e).1
  have hm' := h.mem
  have ht' := h.tr
  rw [hth] at hm' ht'
  refine ⟨_, _, _, fun i => match D i with | .lv n => n | _ => 0, hr, Array.getElem?_setIfInBounds_self_of_lt hpos, hnil, ⟨hm'.fits, hm'.apart, fun c o hc => (by cases hc), fun c o hc => (by cases hc)⟩, ?_, fun i x hi0 hx => ?_⟩
  ·exact (ht'.reopen (y := ⟨0, (core g).frame.fn, (core g).frame.place, .recvClosed cf⟩) rfl rfl (lt_of_heap hcf)).chs (fun _ _ hc => by cases hc)
  ·rw [Array.getElem?_setIfInBounds_ne (by omega)] at hx
   obtain ⟨_, n, e, hq⟩ := hlv i (by omega)
   simp only [e]
   exact hq x hx
theorem PI.someone (h : PI P B cf cd MJ' D th clo cls s1 s2 tm1 tm2 gs w t) : ∃ (i : Nat) (g : Goroutine), gs[i]? = some g ∧ g.status = .running := by
 have key : ∀ i, (∀ n, D i ≠ .lv n) → (D i).msr ≠ none → ∃ (i : Nat) (g : Goroutine), gs[i]? = some g ∧ g.status = .running := by
  intro i hl hm
  obtain ⟨g, hg⟩ := h.there hl
  refine ⟨i, g, hg, ?_⟩
  have hs := h.sit i g hg
  cases hdi : D i with
  | lv n => exact absurd hdi (hl n)
  | w1 v m =>
   rw [hdi] at hs hm
   obtain ⟨⟨y, _, ⟨T, rfl, h⟩ | ⟨rfl, _⟩⟩, _⟩ := hs
   ·exact h.unf fun _ _ _ => KW1.run
   ·exact absurd rfl hm
  | w2 m =>
   rw [hdi] at hs hm
   obtain ⟨⟨y, _, ⟨T, rfl, h⟩ | ⟨rfl, _⟩⟩, _⟩ := hs
   ·exact h.unf fun _ _ _ => KW2.run
   ·exact absurd rfl hm
  | cl k m =>
   rw [hdi] at hs hm
   obtain ⟨⟨y, _, ⟨T, rfl, h⟩ | ⟨rfl, _⟩⟩, _⟩ := hs
   ·exact h.unf fun _ _ _ => CK.run
   ·exact absurd rfl hm
  | ms k sp m =>
   rw [hdi] at hs hm
   obtain ⟨⟨y, _, ⟨T, rfl, h⟩ | ⟨rfl, _⟩⟩, _⟩ := hs
   ·exact h.unf fun _ _ _ => MSk.run
   ·exact absurd rfl hm
  | mr r m =>
   rw [hdi] at hs hm
   obtain ⟨⟨y, _, ⟨T, rfl, h⟩ | ⟨rfl, _⟩⟩, _⟩ := hs
   ·exact h.unf fun _ _ _ => MRk.run
   ·exact absurd rfl hm
 cases h.ph with
 | @spawning k sp m h0 hpv hcl hw =>
  obtain ⟨g, hg⟩ := h.there (i := 0) (by rw [h0]; intro n e; cases e)
  have hs := h.sit 0 g hg
  rw [h0] at hs
  obtain ⟨⟨y, _, ⟨T, rfl, h⟩ | ⟨rfl, h⟩⟩, _⟩ := hs
  ·exact ⟨0, g, hg, h.unf fun _ _ _ => MSk.run⟩
  ·exact h.elim
 | closed h0 hpv hcl hac hm => exact key 0 (by rw [h0]; intro n e; cases e) (by rw [h0]; exact hm)
 | @ranging rem m ic kc mc h0 hpv hic hdc hun hkc hw1 hw2 =>
  cases m with
  | some T => exact key 0 (by rw [h0]; intro n e; cases e) (by rw [h0]; simp [Dt.msr])
  | none =>
   cases mc with
   | some T => exact key ic (by rw [hdc]; intro n e; cases e) (by rw [hdc]; simp [Dt.msr])
   | none =>
    obtain ⟨k', hk', _⟩ := h.pkCl hdc
    have : ∃ i, i < gs.size ∧ 0 < (D i).act := by
     apply Classical.byContradiction
     intro hn
     have hz : ∀ i, i < gs.size → (D i).act = 0 := fun i hi => by
      have : ¬ 0 < (D i).act := fun hx => hn ⟨i, hi, hx⟩
      omega
     have e : sumT gs.size (fun i => (D i).act) = sumT gs.size (fun _ => 0) := sumT_congr fun i hi => hz i hi
     have h0' : ∀ n, sumT n (fun _ => 0) = 0 := by intro n; induction n with | zero => rfl | succ n ih => simp only [sumT, ih]
     rw [e, h0'] at hkc
     omega
    obtain ⟨i, hi, hact⟩ := this
    cases hdi : D i with
    | w1 v m =>
     cases m with
     | some T => exact key i (by rw [hdi]; intro n e; cases e) (by rw [hdi]; simp [Dt.msr])
     | none => exact absurd hdi (hw1 rfl i v)
    | w2 m =>
     cases m with
     | some T => exact key i (by rw [hdi]; intro n e; cases e) (by rw [hdi]; simp [Dt.msr])
     | none => exact absurd hdi (hw2 rfl i)
    | _ => rw [hdi] at hact; simp [Dt.act] at hact
end
section
variable {P : Program} {B : Base} {Post : Value → World → Prop} {cf cd : Nat} {tm1 tm2 : Bool}
theorem set_some {d : Dt} {T T' : Tree} (h : d.msr = some T) (hl : ∀ n, d ≠ .lv n) : (d.set (some T')).msr = some T' ∧ (d.set (some T')).pot = d.pot := by
 cases d <;> first | exact absurd rfl (hl _) | exact ⟨rfl, rfl⟩
theorem PI.picked : ∀ (μ : Nat × List Ms) (gs : Array Goroutine) (w : World) (sl : Option (Nat × Nat)) (t : Trace) (D : Nat → Dt) (th : Nat → Option Th) (clo : Bool) (cls : Option Nat) (s1 s2 : Nat),
  PI P B cf cd (MJ P B Post) D th clo cls s1 s2 tm1 tm2 gs w t → mu D gs.size = μ → ∀ i g, gs[i]? = some g → g.status = .running → ∀ m0, stepT P m0 = runT P (crowd gs w sl) i → Runs P Post m0 t := by
 intro μ
 induction μ using MuLt.wf.induction with
 | _ μ ih =>
  intro gs w sl t D th clo cls s1 s2 h hμ i g hi hrun m0 hm0
  subst hμ
  have next : ∀ (gs' : Array Goroutine) (w' : World) (sl' : Option (Nat × Nat)) (t' : Trace) (D' : Nat → Dt) (th' : Nat → Option Th) (clo' : Bool) (cls' : Option Nat) (s1' s2' : Nat), PI P B cf cd (MJ P B Post) D' th' clo' cls' s1' s2' tm1 tm2 gs' w' t' →
    MuLt (mu D' gs'.size) (mu D gs.size) → Runs P Post (crowd gs' w' sl') t' := by
   intro gs' w' sl' t' D' th' clo' cls' s1' s2' h' hl
   obtain ⟨j, gj, d, sl'', hj, hrj, hst⟩ := crowd_pick (P := P) (gs := gs') (w := w') (sl := sl') (fun x hx => by
    obtain ⟨k, hk, rfl⟩ := Array.mem_iff_getElem.1 hx
    exact (h'.sit k _ (Array.getElem?_eq_getElem hk)).awake) h'.someone
   exact ih _ hl gs' (w'.at d) sl'' t' D' th' clo' cls' s1' s2' (h'.at d) rfl j gj hj hrj _ hst
  have nx : Nx P B cf cd (MJ P B Post) D tm1 tm2 gs w sl t i → Runs P Post m0 t := by
   rintro ⟨gs', w', ops, D', th', clo', cls', s1', s2', hr, hl, h'⟩
   exact Runs.step (hm0.trans hr) (next _ _ _ _ _ _ _ _ _ _ h' hl)
  have hs := h.sit i g hi
  have hlt := lt_of_get hi
  have go : ∀ (main : Bool) (K : RMap → HList → Goroutine → Prop) (y : Th) (T : Tree), main = (i == 0) → (∀ n, D i ≠ .lv n) → (D i).msr = some T → th i = some y → OwnT P B main K T y.R y.H g →
    (∀ T' (y' : Th) g', OwnT P B main K T' y'.R y'.H g' → Sit P B cf cd (MJ P B Post) i ((D i).set (some T')) (some y') g') → (K y.R y.H g → Runs P Post m0 t) → Runs P Post m0 t := by
   rintro main K ⟨R, H⟩ ⟨ι, f⟩ hmain hnl hmsr hy hown hsit hstop
   rcases hown with hk | ⟨_, hst⟩ | ⟨R', H', k, hgh, hk⟩
   ·exact hstop hk
   ·obtain ⟨g', w', es, R', H', k, h1, h2, h3, h4⟩ := hst w (h.mem.fits i _ hy)
    obtain ⟨gs', ops, hr, hsz, hP⟩ := h.own (sl := sl) (T := f k) hi hy (hmain ▸ h1) h2 h3 (hsit (f k) ⟨R', H'⟩ g' h4)
    obtain ⟨e1, e2⟩ := set_some (T' := f k) hmsr hnl
    exact Runs.step (hm0.trans hr) (next _ _ _ _ _ _ _ _ _ _ hP (by rw [hsz]; exact mu_msr hlt hmsr e1 (.some (.mk f k)) e2))
   ·obtain ⟨hm, ht⟩ := ghost_step h.mem h.tr hy (hgh w (h.mem.fits i _ hy))
    obtain ⟨e1, e2⟩ := set_some (T' := f k) hmsr hnl
    refine ih _ (mu_msr hlt hmsr e1 (.some (.mk f k)) e2) gs w sl t _ _ clo cls s1 s2 (h.one (w' := w) hlt rfl hi (fun _ _ => rfl) hm ht (fun j hj => updT_ne hj) (by rw [updT_same]; exact hsit (f k) ⟨R', H'⟩ g hk) (h.ph.q fun j => Q.upd (.inr (.inr ⟨f k, rfl⟩)) j)) rfl i g hi hrun m0 hm0
  cases hd : D i with
  | lv n =>
   rw [hd] at hs
   obtain ⟨_, hq, _⟩ := hs
   cases n with
   | zero => rw [show g.status = .finished from hq] at hrun; cases hrun
   | succ n =>
    rcases hq with e | ⟨_, g', hst, hq⟩
    ·rw [e] at hrun; cases hrun
    ·obtain ⟨gs', hr, hsz, hP⟩ := h.quit (sl := sl) hi hd hst hq
     refine Runs.step (hm0.trans hr) (next _ _ _ _ _ _ _ _ _ _ (by simpa using hP) ?_)
     rw [hsz]
     exact mu_msr (a := some (natT n)) (b := some (natT (n + 1))) hlt (by rw [hd]; rfl) rfl (natT_lt n) (by rw [hd]; rfl)
  | w1 v m =>
   rw [hd] at hs
   obtain ⟨⟨y, hy, ⟨T, rfl, ho⟩ | ⟨rfl, g0, z, _, rfl⟩⟩, hpos⟩ := hs
   ·exact go false _ y T (by simp; omega) (by rw [hd]; intro n e; cases e) (by rw [hd]; rfl) hy ho (fun T' y' g' ho' => by rw [hd]; exact ⟨⟨y', rfl, .inl ⟨T', rfl, ho'⟩⟩, hpos⟩) (fun hk => nx (h.stepW1 hi hd hpos hy hk))
   ·cases hrun
  | w2 m =>
   rw [hd] at hs
   obtain ⟨⟨y, hy, ⟨T, rfl, ho⟩ | ⟨rfl, g0, z, _, rfl⟩⟩, hpos⟩ := hs
   ·exact go false _ y T (by simp; omega) (by rw [hd]; intro n e; cases e) (by rw [hd]; rfl) hy ho (fun T' y' g' ho' => by rw [hd]; exact ⟨⟨y', rfl, .inl ⟨T', rfl, ho'⟩⟩, hpos⟩) (fun hk => nx (h.stepW2 hi hd hpos hy hk))
   ·cases hrun
  | cl k m =>
   rw [hd] at hs
   obtain ⟨⟨y, hy, ⟨T, rfl, ho⟩ | ⟨rfl, hpk⟩⟩, hpos⟩ := hs
   ·refine go false _ y T (by simp; omega) (by rw [hd]; intro n e; cases e) (by rw [hd]; rfl) hy ho (fun T' y' g' ho' => by rw [hd]; exact ⟨⟨y', rfl, .inl ⟨T', rfl, ho'⟩⟩, hpos⟩) (fun hk => ?_)
    cases k with
    | zero => exact nx (h.stepClose hi hd hpos hy hk)
    | succ k => exact nx (h.stepCl hi hd hpos hy hk)
   ·cases k with
    | zero => exact hpk.elim
    | succ k => obtain ⟨g0, z, _, rfl⟩ := hpk; cases hrun
  | ms k sp m =>
   rw [hd] at hs
   obtain ⟨⟨y, hy, ⟨T, rfl, ho⟩ | ⟨rfl, hpk⟩⟩, rfl⟩ := hs
   ·exact go true _ y T rfl (by rw [hd]; intro n e; cases e) (by rw [hd]; rfl) hy ho (fun T' y' g' ho' => by rw [hd]; exact ⟨⟨y', rfl, .inl ⟨T', rfl, ho'⟩⟩, rfl⟩) (fun hk => nx (h.stepMs hi hd hy hk))
   ·exact hpk.elim
  | mr rem m =>
   rw [hd] at hs
   obtain ⟨⟨y, hy, ⟨T, rfl, ho⟩ | ⟨rfl, hpk⟩⟩, rfl⟩ := hs
   ·refine go true _ y T rfl (by rw [hd]; intro n e; cases e) (by rw [hd]; rfl) hy ho (fun T' y' g' ho' => by rw [hd]; exact ⟨⟨y', rfl, .inl ⟨T', rfl, ho'⟩⟩, rfl⟩) (fun hk => ?_)
    cases clo with
    | false =>
     obtain rfl : cls = none := by
      cases h.ph with
      | spawning => rfl
      | ranging => rfl
     exact nx (h.stepMr hi hd hy hk)
    | true =>
     obtain ⟨gs', g', ops, q, hr, hg', hJ, hA⟩ := h.stepEnd (sl := sl) hi hd hy hk
     exact Runs.step (hm0.trans hr) (hJ gs' w sl _ q hg' hA)
   ·generalize rem.length = n at hpk
    cases n <;> (obtain ⟨g0, z, _, rfl⟩ := hpk; cases hrun)
theorem PI.runs {gs : Array Goroutine} {w : World} {sl : Option (Nat × Nat)} {t : Trace} {D : Nat → Dt} {th : Nat → Option Th} {clo : Bool} {cls : Option Nat} {s1 s2 : Nat} (h : PI P B cf cd (MJ P B Post) D th clo cls s1 s2 tm1 tm2 gs w t) : Runs P Post (crowd gs w sl) t := by
 obtain ⟨j, gj, d, sl'', hj, hrj, hst⟩ := crowd_pick (P := P) (gs := gs) (w := w) (sl := sl) (fun x hx => by
  obtain ⟨k, hk, rfl⟩ := Array.mem_iff_getElem.1 hx
  exact (h.sit k _ (Array.getElem?_eq_getElem hk)).awake) h.someone
 exact PI.picked _ gs (w.at d) sl'' t D th clo cls s1 s2 (h.at d) rfl j gj hj hrj _ hst
end
end Go.Lg
