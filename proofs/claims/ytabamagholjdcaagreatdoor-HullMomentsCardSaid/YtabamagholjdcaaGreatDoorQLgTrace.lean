/- The machine, second part: what is held of the trace while several goroutines act: each knows every touch of what is its own, and every write of what it knows for good. Conditions: none; over any program. -/
import Derived.Test.YtabamagholjdcaaGreatDoorQLgTree
namespace Go.Lg
open Go.Conc
abbrev Kn (t : Trace) (g i : Nat) : Prop := Go.Conc.Knows t g i
def blk : Loc → Option Nat
 | .cell a => some a.block
 | .obj r => some r
 | _ => none
structure TrI (th : Nat → Option Th) (ch : HList) (cls : Option Nat) (n : Nat) (t : Trace) : Prop where
 own : ∀ i x, th i = some x → ∀ b o, (b, o) ∈ x.H → ∀ k a, touchAt t k = some a → blk a.loc = some b → Kn t i k
 read : ∀ i x, th i = some x → ∀ b o, x.R b = some o → ∀ k a, touchAt t k = some a → blk a.loc = some b → a.write = true → Kn t i k
 chk : ∀ c o, (c, o) ∈ ch → ∀ i x, th i = some x → ∀ k a, touchAt t k = some a → blk a.loc = some c → a.kind = .atomic ∨ Kn t i k
 low : ∀ op ∈ t, op.act.low n
 all : ∀ k a, touchAt t k = some a → a.loc.isMemory = true → (∃ i x, th i = some x ∧ Kn t i k) ∨ (∃ c p, cls = some c ∧ t.act? p = some (.close c) ∧ Before t k p)
 clean : ∀ said, ¬ Race said t
 quiet : Wordless t
theorem touch_low {x : MemAct} {a : Touch} {n b : Nat} (h : x.low n) (ht : x.touch? = some a) (hb : blk a.loc = some b) : b < n := by
 cases x with
 | access e =>
  simp only [MemAct.touch?, Option.some.injEq] at ht
  subst ht
  obtain ⟨loc, wr, sy⟩ := e
  cases loc <;> simp [blk] at hb <;> subst hb <;> exact h
 | mark m =>
  cases m <;> simp only [MemAct.touch?, Option.some.injEq, reduceCtorEq] at ht
  all_goals (subst ht; simp [blk] at hb; subst hb; exact h)
 | _ => simp [MemAct.touch?] at ht
def OpOk (ch : HList) (R : RMap) (H : HList) (n : Nat) (a : Touch) : Prop :=
 ∃ b, blk a.loc = some b ∧ ((a.write = false ∧ ∃ o, R b = some o) ∨ (∃ o, (b, o) ∈ H) ∨ n ≤ b ∨ (a.kind = .atomic ∧ ∃ o, (b, o) ∈ ch))
theorem new_or_old {t u : Trace} {k : Nat} {a : Touch} (h : touchAt (t ++ u) k = some a) : (k < t.size ∧ touchAt t k = some a) ∨ (∃ op, (t ++ u)[k]? = some op ∧ op ∈ u ∧ op.act.touch? = some a) := by
 obtain ⟨x, hx, hxa⟩ := touch_of h
 rcases getElem?_append_cases hx with ⟨hk, hx'⟩ | ⟨_, hxu⟩
 ·exact .inl ⟨hk, by rw [touchAt_of hx']; exact hxa⟩
 ·exact .inr ⟨x, hx, hxu, hxa⟩
theorem lt_of_touchAt {t : Trace} {k b n : Nat} {a : Touch} (hl : ∀ op ∈ t, op.act.low n) (h : touchAt t k = some a) (hb : blk a.loc = some b) : b < n := by
 obtain ⟨x, hx, hxa⟩ := touch_of h
 exact touch_low (hl x (mem_of_getElem? hx)) hxa hb
section
variable {B : Base} {th : Nat → Option Th} {ch : HList} {cls : Option Nat} {w : World} {n n' i : Nat} {R R' : RMap} {H H' : HList} {t u : Trace}
theorem closed_app {k : Nat} (h : ∃ c p, cls = some c ∧ t.act? p = some (.close c) ∧ Before t k p) : ∃ c p, cls = some c ∧ (t ++ u).act? p = some (.close c) ∧ Before (t ++ u) k p := by
 obtain ⟨c, p, h1, h2, h3⟩ := h
 exact ⟨c, p, h1, by rw [act?_old (lt_of_act? h2)]; exact h2, h3.app u⟩
theorem TrI.app (hM : MemI B th ch w) (hn : w.heap.size = n) (h : TrI th ch cls n t) (hi : th i = some ⟨R, H⟩) (hu : ∀ op ∈ u, op.g = i)
  (ht : ∀ op ∈ u, ∀ a, op.act.touch? = some a → OpOk ch R H n a) (hl : ∀ op ∈ u, op.act.low n') (hw : Wordless u) (hnn : n ≤ n')
  (hR : ∀ b o, R' b = some o → R b = some o ∨ (∃ o', (b, o') ∈ H) ∨ n ≤ b) (hH : ∀ b o, (b, o) ∈ H' → (∃ o', (b, o') ∈ H) ∨ n ≤ b) :
  TrI (updT th i (some ⟨R', H'⟩)) ch cls n' (t ++ u) := by
 have lt_of {j : Nat} {y : Th} (hy : th j = some y) : (∀ b o, y.R b = some o → b < n) ∧ (∀ b o, (b, o) ∈ y.H → b < n) :=
  ⟨fun b o x => hn ▸ lt_of_heap ((hM.fits j y hy).r b o x), fun b o x => hn ▸ lt_of_heap ((hM.fits j y hy).h b o x)⟩
 have lt_ch : ∀ c o, (c, o) ∈ ch → c < n := fun c o hc => hn ▸ lt_of_heap (hM.chans c o hc)
 have new_own : ∀ k op, (t ++ u)[k]? = some op → op ∈ u → Kn (t ++ u) i k := fun k op h1 h2 => by
  have := knows_own h1; rwa [hu op h2] at this
 refine ⟨fun j y hy b o hb k a hk hab => ?_, fun j y hy b o hb k a hk hab hwr => ?_, fun c o hc j y hy k a hk hab => ?_, fun op hop => ?_, fun k a hk hm => ?_, fun said => ?_, h.quiet.append hw⟩
 ·by_cases hj : j = i
  ·subst hj; rw [updT_same] at hy; cases hy
   rcases new_or_old hk with ⟨_, hk'⟩ | ⟨op, h1, h2, _⟩
   ·rcases hH b o hb with ⟨o', ho'⟩ | hge
    ·exact (h.own j _ hi b o' ho' k a hk' hab).app u
    ·have := lt_of_touchAt h.low hk' hab; omega
   ·exact new_own k op h1 h2
  ·rw [updT_ne hj] at hy
   rcases new_or_old hk with ⟨_, hk'⟩ | ⟨op, h1, h2, h3⟩
   ·exact (h.own j y hy b o hb k a hk' hab).app u
   ·obtain ⟨b', hb', hc⟩ := ht op h2 a h3
    rw [hab] at hb'; cases hb'
    have hap := hM.apart j i _ _ hj hy hi b o hb
    rcases hc with ⟨_, o', x⟩ | ⟨o', x⟩ | x | ⟨_, o', x⟩
    ·exact nn hap.1 x
    ·exact absurd x (hap.2 o')
    ·have := (lt_of hy).2 b o hb; omega
    ·exact absurd hb ((hM.chapart b o' x j y hy).2 o)
 ·by_cases hj : j = i
  ·subst hj; rw [updT_same] at hy; cases hy
   rcases new_or_old hk with ⟨_, hk'⟩ | ⟨op, h1, h2, _⟩
   ·rcases hR b o hb with x | ⟨o', x⟩ | x
    ·exact (h.read j _ hi b o x k a hk' hab hwr).app u
    ·exact (h.own j _ hi b o' x k a hk' hab).app u
    ·have := lt_of_touchAt h.low hk' hab; omega
   ·exact new_own k op h1 h2
  ·rw [updT_ne hj] at hy
   rcases new_or_old hk with ⟨_, hk'⟩ | ⟨op, h1, h2, h3⟩
   ·exact (h.read j y hy b o hb k a hk' hab hwr).app u
   ·obtain ⟨b', hb', hc⟩ := ht op h2 a h3
    rw [hab] at hb'; cases hb'
    rcases hc with ⟨x, _⟩ | ⟨o', x⟩ | x | ⟨_, o', x⟩
    ·rw [hwr] at x; cases x
    ·exact nn (hM.apart i j _ _ (Ne.symm hj) hi hy b o' x).1 hb
    ·have := (lt_of hy).1 b o hb; omega
    ·exact nn (hM.chapart b o' x j y hy).1 hb
 ·by_cases hj : j = i
  ·subst hj
   rcases new_or_old hk with ⟨_, hk'⟩ | ⟨op, h1, h2, _⟩
   ·exact (h.chk c o hc j _ hi k a hk' hab).imp id (·.app u)
   ·exact .inr (new_own k op h1 h2)
  ·rw [updT_ne hj] at hy
   rcases new_or_old hk with ⟨_, hk'⟩ | ⟨op, h1, h2, h3⟩
   ·exact (h.chk c o hc j y hy k a hk' hab).imp id (·.app u)
   ·obtain ⟨b', hb', hcc⟩ := ht op h2 a h3
    rw [hab] at hb'; cases hb'
    rcases hcc with ⟨_, o', x⟩ | ⟨o', x⟩ | x | ⟨x, _⟩
    ·exact nn (hM.chapart c o hc i _ hi).1 x
    ·exact absurd x ((hM.chapart c o hc i _ hi).2 o')
    ·have := lt_ch c o hc; omega
    ·exact .inl x
 ·rcases Array.mem_append.1 hop with x | x
  ·exact MemAct.low_mono hnn (h.low op x)
  ·exact hl op x
 ·rcases new_or_old hk with ⟨_, hk'⟩ | ⟨op, h1, h2, _⟩
  ·rcases h.all k a hk' hm with ⟨j, y, hy, hkn⟩ | hcl
   ·by_cases hj : j = i
    ·subst hj; exact .inl ⟨j, _, updT_same _ _ _, hkn.app u⟩
    ·exact .inl ⟨j, y, by rw [updT_ne hj]; exact hy, hkn.app u⟩
   ·exact .inr (closed_app hcl)
  ·exact .inl ⟨i, _, updT_same _ _ _, new_own k op h1 h2⟩
 ·refine noRace_append (h.clean said) hu fun k a hk op hop b hb hc => ?_
  obtain ⟨hloc, hmem, hwr, hpl⟩ := hc
  obtain ⟨bb, hbb, hcs⟩ := ht op hop b hb
  have hab : blk a.loc = some bb := by rw [hloc]; exact hbb
  rcases hcs with ⟨x, o, ho⟩ | ⟨o, x⟩ | x | ⟨x, o, ho⟩
  ·have haw : a.write = true := by
    rcases hwr with y | y
    ·exact y
    ·rw [x] at y; cases y
   exact h.read i _ hi bb o ho k a hk hab haw
  ·exact h.own i _ hi bb o x k a hk hab
  ·have := lt_of_touchAt h.low hk hab; omega
  ·rcases h.chk bb o ho i _ hi k a hk hab with y | y
   ·rcases hpl with z | z | ⟨_, z, _⟩
    ·rw [y] at z; cases z
    ·rw [x] at z; cases z
    ·rw [y] at z; cases z
   ·exact y
theorem noRace_mute {said : Bool} (h : ¬ Race said t) (hu : ∀ op ∈ u, op.act.touch? = none) : ¬ Race said (t ++ u) := by
 rintro ⟨i, j, hij, ⟨a, b, ha, hb, hc⟩, n1, n2⟩
 rcases new_or_old (u := u) (a := a) (k := i) ha with ⟨hi, ha'⟩ | ⟨op, _, h2, h3⟩
 ·rcases new_or_old (u := u) (a := b) (k := j) hb with ⟨hj, hb'⟩ | ⟨op, _, h2, h3⟩
  ·exact h ⟨i, j, hij, ⟨a, b, ha', hb', hc⟩, fun e => n1 (hb_app u e), fun e => n2 (hb_app u e)⟩
  ·rw [hu op h2] at h3; cases h3
 ·rw [hu op h2] at h3; cases h3
theorem TrI.mute (h : TrI th ch cls n t) (hu : ∀ op ∈ u, op.act.touch? = none) (hl : ∀ op ∈ u, op.act.low n) (hw : Wordless u) : TrI th ch cls n (t ++ u) := by
 have old : ∀ {k a}, touchAt (t ++ u) k = some a → touchAt t k = some a := fun {k a} hk => by
  rcases new_or_old hk with ⟨_, x⟩ | ⟨op, _, h2, h3⟩
  ·exact x
  ·rw [hu op h2] at h3; cases h3
 exact ⟨fun j y hy b o hb k a hk hab => (h.own j y hy b o hb k a (old hk) hab).app u, fun j y hy b o hb k a hk hab hwr => (h.read j y hy b o hb k a (old hk) hab hwr).app u,
  fun c o hc j y hy k a hk hab => (h.chk c o hc j y hy k a (old hk) hab).imp id (·.app u), fun op hop => (Array.mem_append.1 hop).elim (h.low op) (hl op),
  fun k a hk hm => (h.all k a (old hk) hm).imp (fun ⟨j, y, hy, hkn⟩ => ⟨j, y, hy, hkn.app u⟩) closed_app, fun said => noRace_mute (h.clean said) hu, h.quiet.append hw⟩
theorem kn_spawn {g c : Nat} {x y : MemOp} (hw : Wordless (t ++ #[x, y])) (hx : x.g = g) (hxa : x.act = .go c) (hy : y.g = c) (hya : y.act = .start) {k : Nat} (h : Kn t g k) : Kn (t ++ #[x, y]) c k := by
 have e1 : (t ++ #[x, y])[t.size]? = some x := by simp
 have e2 : (t ++ #[x, y])[t.size + 1]? = some y := by simp [Array.getElem?_append]
 have h1 := Go.Conc.Knows.hb_new h (Nat.le_refl _) e1 hx
 exact ⟨t.size + 1, y, e2, hy, .inr (h1.trans (.single (.inr ⟨.spawn (child := c) (by rw [act?_of e1, hxa]) (by rw [act?_of e2, hya]) (by simp [Trace.g?, e2, hy]), hw.heard e1, hw.heard e2⟩)))⟩
theorem kn_meet {a b c s p q : Nat} {x y : MemOp} (hw : Wordless (t ++ u)) (hp : t.size ≤ p) (h1 : (t ++ u)[p]? = some x) (hx : x.g = a) (hxa : x.act = .send c s) (h2 : (t ++ u)[q]? = some y) (hy : y.g = b) (hya : y.act = .recvDone c s) {k : Nat} (h : Kn t a k) : Kn (t ++ u) b k := by
 have e := Go.Conc.Knows.hb_new h hp h1 hx
 exact ⟨q, y, h2, hy, .inr (e.trans (.single (.inr ⟨.handOver (c := c) (k := s) (by rw [act?_of h1, hxa]) (by rw [act?_of h2, hya]), hw.heard h1, hw.heard h2⟩)))⟩
theorem kn_closed {b c p : Nat} {y : MemOp} (hw : Wordless (t ++ #[y])) (hp : t.act? p = some (.close c)) (hy : y.g = b) (hya : y.act = .recvClosed c) {k : Nat} (h : Before t k p) : Kn (t ++ #[y]) b k := by
 have e2 : (t ++ #[y])[t.size]? = some y := by simp
 obtain ⟨x, hx, _⟩ := Option.map_eq_some_iff.1 hp
 have hx' : (t ++ #[y])[p]? = some x := by rw [getElem?_append_old (lt_size_of_getElem? hx)]; exact hx
 exact ⟨t.size, y, e2, hy, .inr ((h.app #[y]).hb (.single (.inr ⟨.closed (c := c) (by rw [act?_old (lt_of_act? hp)]; exact hp) (by rw [act?_of e2, hya]), hw.heard hx', hw.heard e2⟩)))⟩
end
end Go.Lg
