/- The machine, fifth part: the workers' machine of LgReck runs to its end: whoever acts, the invariant is kept and the measure falls; somebody can always act; in the end goroutine 0 is alone with leavers. Conditions: none; over any program. -/
import Derived.Test.YtabamagholjdcaaGreatDoorQLgReck
namespace Go.Lg
open Go.Conc
def mu (D : Nat → Dt) (n : Nat) : Nat × List Ms := (sumT n (fun i => (D i).pot), (List.range n).map fun i => (D i).msr)
def MuLt (a b : Nat × List Ms) : Prop := a.1 < b.1 ∨ (a.1 = b.1 ∧ One MLt a.2 b.2)
theorem MuLt.wf : WellFounded MuLt := by
 have key : ∀ p, ∀ l, Acc MuLt (p, l) := by
  intro p
  induction p using Nat.strongRecOn with
  | ind p ihp =>
   intro l
   induction l using One.wf.induction with
   | _ l ihl =>
    refine ⟨_, fun y hy => ?_⟩
    obtain ⟨q, m⟩ := y
    rcases hy with h | ⟨h1, h2⟩
    ·exact ihp q h m
    ·simp only at h1; subst h1; exact ihl m h2
 exact ⟨fun ⟨p, l⟩ => key p l⟩
theorem mu_msr {D : Nat → Dt} {n i : Nat} {x : Dt} {a b : Ms} (hi : i < n) (hb : (D i).msr = b) (ha : x.msr = a) (hl : MLt a b) (hp : x.pot = (D i).pot) : MuLt (mu (updD D i x) n) (mu D n) := by
 refine .inr ⟨?_, ?_⟩
 ·show sumT n (fun j => (updD D i x j).pot) = sumT n (fun j => (D j).pot)
  have := sumT_upd (f := fun j => (D j).pot) (g := fun j => (updD D i x j).pot) hi (fun k hk => by simp only [updD_ne hk])
  simp only [updD_same] at this
  omega
 ·have e : (List.range n).map (fun j => (updD D i x j).msr) = ((List.range n).map fun j => (D j).msr).set i a := by
   apply List.ext_getElem?
   intro j
   rw [List.getElem?_set]
   by_cases hj : i = j
   ·subst hj; simp [hi, updD_same, ha]
   ·simp only [hj, if_false, List.getElem?_map]
    cases hr : (List.range n)[j]? with
    | none => rfl
    | some k =>
     have hk : k = j := by
      have := List.getElem?_eq_some_iff.1 hr
      obtain ⟨_, h2⟩ := this
      simpa using h2.symm
     subst hk
     simp [updD_ne (Ne.symm hj)]
  show One MLt ((List.range n).map _) _
  rw [e]
  exact One.set (by simp [hi, hb]) hl
theorem mu_pot2 {D : Nat → Dt} {n i j : Nat} {x y : Dt} (hi : i < n) (hj : j < n) (hij : j ≠ i) (hp : x.pot + y.pot < (D i).pot + (D j).pot) : MuLt (mu (updD (updD D j y) i x) n) (mu D n) := by
 refine .inl ?_
 show sumT n (fun k => (updD (updD D j y) i x k).pot) < sumT n (fun k => (D k).pot)
 have h1 := sumT_upd (f := fun k => (updD D j y k).pot) (g := fun k => (updD (updD D j y) i x k).pot) hi (fun k hk => by simp only [updD_ne hk])
 have h2 := sumT_upd (f := fun k => (D k).pot) (g := fun k => (updD D j y k).pot) hj (fun k hk => by simp only [updD_ne hk])
 simp only [updD_same, updD_ne (Ne.symm hij)] at h1 h2
 omega
theorem mu_new {D : Nat → Dt} {n : Nat} {x y : Dt} (hn : 0 < n) (hp : x.pot + y.pot < (D 0).pot) : MuLt (mu (updD (updD D n y) 0 x) (n + 1)) (mu D n) := by
 refine .inl ?_
 show sumT (n + 1) (fun k => (updD (updD D n y) 0 x k).pot) < sumT n (fun k => (D k).pot)
 have h1 := sumT_upd (f := fun k => (D k).pot) (g := fun k => (updD D 0 x k).pot) hn (fun k hk => by simp only [updD_ne hk])
 have h2 : sumT n (fun k => (updD (updD D n y) 0 x k).pot) = sumT n (fun k => (updD D 0 x k).pot) := sumT_congr fun k hk => by
  by_cases h0 : k = 0
  ·subst h0; rw [updD_same, updD_same]
  ·rw [updD_ne h0, updD_ne h0, updD_ne (by omega)]
 simp only [sumT, h2, updD_ne (show n ≠ 0 by omega), updD_same] at h1 ⊢
 omega
theorem OwnT.unf {P : Program} {B : Base} {main : Bool} {K : RMap → HList → Goroutine → Prop} {T : Tree} {R : RMap} {H : HList} {g : Goroutine} (h : OwnT P B main K T R H g) (hs : ∀ R H g, K R H g → g.status = .running) : g.status = .running := by
 induction T generalizing R H g with
 | node ι f ih =>
  rcases h with h | ⟨h, _⟩ | ⟨R', H', i, _, h⟩
  ·exact hs _ _ _ h
  ·exact h
  ·exact ih i h
section
variable {P : Program} {B : Base} {cf cd : Nat} {MJ' : RMap → HList → Goroutine → Prop} {main : Bool}
theorem KW1.run {v : Value} {R : RMap} {H : HList} {g : Goroutine} (h : KW1 P B cf cd v R H g) : g.status = .running := by obtain ⟨_, h⟩ := h; exact h.1
theorem KW2.run {R : RMap} {H : HList} {g : Goroutine} (h : KW2 P B cd R H g) : g.status = .running := by obtain ⟨_, h⟩ := h; exact h.1
theorem CK.run {k : Nat} {R : RMap} {H : HList} {g : Goroutine} (h : CK P B cf cd k R H g) : g.status = .running := by
 cases k with
 | zero => exact h.1
 | succ k => obtain ⟨_, h⟩ := h; exact h.1
theorem MSk.run {k : Nat} {sp : List Value} {R : RMap} {H : HList} {g : Goroutine} (h : MSk P B cf cd MJ' k sp R H g) : g.status = .running := by
 cases k <;> exact h.1
theorem MRk.run {k : Nat} {rem : List Value} {R : RMap} {H : HList} {g : Goroutine} (h : MRk P B cf MJ' k rem R H g) : g.status = .running := by
 cases k <;> (obtain ⟨_, h⟩ := h; exact h.1)
theorem Sit.look {i : Nat} {d : Dt} {x : Option Th} {g : Goroutine} (h : Sit P B cf cd MJ' i d x g) :
  (g.status = .running ∧ ∃ T, d.msr = some T) ∨ (g.status = .finished) ∨
  (∃ v g0 z, d = .w1 v none ∧ g = parked (core g0) #[scase cf v z] .send) ∨
  (∃ g0 z, d = .w2 none ∧ g = parked (core g0) #[scase cd (.bool true) z] .send) ∨
  (∃ k g0 z, d = .cl (k + 1) none ∧ g = parked (core g0) #[rcase cd z] (.recv false)) ∨
  (∃ rem g0 z, d = .mr rem none ∧ g = parked (core g0) #[rcase cf z] (.recv true)) := by
 cases d with
 | lv n =>
  obtain ⟨_, h, _⟩ := h
  rcases h.status with h | h
  ·exact .inl ⟨h, _, rfl⟩
  ·exact .inr (.inl h)
 | w1 v m =>
  obtain ⟨⟨y, _, ⟨T, rfl, h⟩ | ⟨rfl, g0, z, _, h⟩⟩, _⟩ := h
  ·exact .inl ⟨h.unf fun _ _ _ => KW1.run, _, rfl⟩
  ·exact .inr (.inr (.inl ⟨v, g0, z, rfl, h⟩))
 | w2 m =>
  obtain ⟨⟨y, _, ⟨T, rfl, h⟩ | ⟨rfl, g0, z, _, h⟩⟩, _⟩ := h
  ·exact .inl ⟨h.unf fun _ _ _ => KW2.run, _, rfl⟩
  ·exact .inr (.inr (.inr (.inl ⟨g0, z, rfl, h⟩)))
 | cl k m =>
  obtain ⟨⟨y, _, ⟨T, rfl, h⟩ | ⟨rfl, h⟩⟩, _⟩ := h
  ·exact .inl ⟨h.unf fun _ _ _ => CK.run, _, rfl⟩
  ·cases k with
   | zero => exact h.elim
   | succ k => obtain ⟨g0, z, _, h⟩ := h; exact .inr (.inr (.inr (.inr (.inl ⟨k, g0, z, rfl, h⟩))))
 | ms k sp m =>
  obtain ⟨⟨y, _, ⟨T, rfl, h⟩ | ⟨rfl, h⟩⟩, _⟩ := h
  ·exact .inl ⟨h.unf fun _ _ _ => MSk.run, _, rfl⟩
  ·exact h.elim
 | mr rem m =>
  obtain ⟨⟨y, _, ⟨T, rfl, h⟩ | ⟨rfl, h⟩⟩, _⟩ := h
  ·exact .inl ⟨h.unf fun _ _ _ => MRk.run, _, rfl⟩
  ·have : ∃ g0 z, g = parked (core g0) #[rcase cf z] (.recv true) := by
    generalize rem.length = k at h
    cases k <;> (obtain ⟨g0, z, _, h⟩ := h; exact ⟨g0, z, h⟩)
   obtain ⟨g0, z, h⟩ := this
   exact .inr (.inr (.inr (.inr (.inr ⟨rem, g0, z, rfl, h⟩))))
theorem Sit.offers {i : Nat} {d : Dt} {x : Option Th} {g : Goroutine} (h : Sit P B cf cd MJ' i d x g) (_ : cf ≠ cd) {c : Nat} {send : Bool} {k : Nat} (hk : k ∈ offersAt g c send) :
  k = 0 ∧ ((c = cf ∧ send = true ∧ ∃ v g0 z, d = .w1 v none ∧ g = parked (core g0) #[scase cf v z] .send) ∨
  (c = cd ∧ send = true ∧ ∃ g0 z, d = .w2 none ∧ g = parked (core g0) #[scase cd (.bool true) z] .send) ∨
  (c = cd ∧ send = false ∧ ∃ k g0 z, d = .cl (k + 1) none ∧ g = parked (core g0) #[rcase cd z] (.recv false)) ∨
  (c = cf ∧ send = false ∧ ∃ rem g0 z, d = .mr rem none ∧ g = parked (core g0) #[rcase cf z] (.recv true))) := by
 rcases h.look with ⟨h, _⟩ | h | ⟨v, g0, z, h1, h2⟩ | ⟨g0, z, h1, h2⟩ | ⟨k', g0, z, h1, h2⟩ | ⟨rem, g0, z, h1, h2⟩
 ·rw [offersAt_of_not_blocked (by rw [h]; intro e; cases e)] at hk; cases hk
 ·rw [offersAt_of_not_blocked (by rw [h]; intro e; cases e)] at hk; cases hk
 all_goals (subst h2; cases send)
 ·rw [offersAt_parked_send'] at hk; cases hk
 ·rw [offersAt_parked_send] at hk
  split at hk
  ·simp at hk; rename_i e; exact ⟨hk, .inl ⟨e.symm, rfl, v, g0, z, h1, rfl⟩⟩
  ·cases hk
 ·rw [offersAt_parked_send'] at hk; cases hk
 ·rw [offersAt_parked_send] at hk
  split at hk
  ·simp at hk; rename_i e; exact ⟨hk, .inr (.inl ⟨e.symm, rfl, g0, z, h1, rfl⟩)⟩
  ·cases hk
 ·rw [offersAt_parked_recv] at hk
  split at hk
  ·simp at hk; rename_i e; exact ⟨hk, .inr (.inr (.inl ⟨e.symm, rfl, k', g0, z, h1, rfl⟩))⟩
  ·cases hk
 ·rw [offersAt_parked_recv'] at hk; cases hk
 ·rw [offersAt_parked_recv] at hk
  split at hk
  ·simp at hk; rename_i e; exact ⟨hk, .inr (.inr (.inr ⟨e.symm, rfl, rem, g0, z, h1, rfl⟩))⟩
  ·cases hk
 ·rw [offersAt_parked_recv'] at hk; cases hk
theorem Sit.awake {i : Nat} {d : Dt} {x : Option Th} {g : Goroutine} (h : Sit P B cf cd MJ' i d x g) : awake g := by
 rcases h.look with ⟨h, _⟩ | h | ⟨v, g0, z, h1, rfl⟩ | ⟨g0, z, h1, rfl⟩ | ⟨k', g0, z, h1, rfl⟩ | ⟨rem, g0, z, h1, rfl⟩
 ·exact awake_of (.inl h)
 ·exact awake_of (.inr (.inr h))
 all_goals exact awake_of (.inr (.inl rfl))
theorem Sit.again {i : Nat} {d : Dt} {x : Option Th} {g a a' : Goroutine} {w : World} {s1 s2 : Nat} {tm1 tm2 : Bool} (h : Sit P B cf cd MJ' i d x g) (h2 : w.heap[cd]? = some (.chan 0 #[] false s2 s2 tm2))
  (h1 : w.heap[cf]? = some (.chan 0 #[] false s1 s1 tm1) ∨ ((∀ v, d ≠ .w1 v none) ∧ ∀ rem, d ≠ .mr rem none)) : woken P a a' w g = g := by
 unfold woken
 split
 ·rcases h.look with ⟨h, _⟩ | h | ⟨v, g0, z, e, rfl⟩ | ⟨g0, z, e, rfl⟩ | ⟨k', g0, z, e, rfl⟩ | ⟨rem, g0, z, e, rfl⟩
  ·exact again_running _ (.inl h)
  ·exact again_running _ (.inr h)
  ·rcases h1 with h1 | h1
   ·exact again_parked_open rfl h1
   ·exact absurd e (h1.1 v)
  ·exact again_parked_open rfl h2
  ·exact again_parked_open rfl h2
  ·rcases h1 with h1 | h1
   ·exact again_parked_open rfl h1
   ·exact absurd e (h1.2 rem)
 ·rfl
end
end Go.Lg
