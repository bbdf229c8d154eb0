/- The logic, on: loops and joins with several ways out; calls of functions that are handed over. Conditions: none; over any program. -/
import Derived.Test.YtabamagholjdcaaGreatDoorQLgGen
namespace Go.Lg
open Go.Conc
theorem subKeep {h l1 l2 : HList} (p : List.Sublist l1 l2) : List.Sublist (h ++ l1) (h ++ l2) := List.Sublist.append (List.Sublist.refl _) p
theorem subDrop {h l1 l2 : HList} (p : List.Sublist l1 l2) : List.Sublist l1 (h ++ l2) := by
 induction h with
 | nil => exact p
 | cons a h ih => exact ih.cons a
def CArr {α : Type} (f : α → Value) (n : Nat) : CRel (List α) := fun _ xs es => xs.length = n ∧ es = [] ++ (xs.map f ++ [])
theorem putCells_whole {vs : List Value} {cs : Array Value} (h : vs.length = cs.size) : putCells cs 0 vs = vs.toArray := by
 have hs : (putCells cs 0 vs).size = cs.size := putCells_size _ _ _
 apply Array.ext_getElem?
 intro j
 rw [putCells_get vs cs 0 j (by omega)]
 by_cases hj : j < vs.length
 ·rw [if_pos (by omega)]; simp
 ·rw [if_neg (by omega)]
  rw [Array.getElem?_eq_none (by omega)]
  simp [Nat.not_lt.1 hj]
section
variable {P : Program} {B : Base} {main : Bool} {𝒥 : Jd P B main} {c : Ctx} {R : RMap} {H : HList} {st : St} {k : List Item} {o : Oper} {C : RMap → HList → St → Prop}
theorem At.loopE0R {S Q ρ : Type} {body : S → Option (S ⊕ Q)} {s0 : S} {code : Code} {g : Q → Option ρ} {r : ρ} (hM : (Go.Lg.loopM body s0).bind g = some r) (I : S → RMap → HList → St → Prop) (h0 : I s0 R H st) (hb : ∀ s R H st, I s R H st → ∀ x, body s = some x → (∀ s', x = Sum.inl s' → ∀ R' H' st', I s' R' H' st' → At 𝒥 c R' H' st' (.inLoop code :: k)) → (∀ p, x = (Sum.inr p) → g p = some r) → At 𝒥 c R H st (.code code :: .inLoop code :: k)) : At 𝒥 c R H st (.code (.loop code) :: k) := At.loopM hM I (fun s R H st hI x hx again out => hb s R H st hI x hx again (fun _ hp => out _ hp)) h0
theorem At.loopE1 {S P0 ρ : Type} {body : S → Option (S ⊕ P0)} {s0 : S} {code : Code} {f0 : P0 → Option ρ} {r : ρ} {k0 : List Item} (hM : (Go.Lg.loopM body s0).bind f0 = some r) (I : S → RMap → HList → St → Prop) (E0 : P0 → RMap → HList → St → Prop) (id0 : Nat) (_ : exitTo id0 k = some k0) (h0 : I s0 R H st) (ha0 : ∀ p R H st, E0 p R H st → f0 p = some r → At 𝒥 c R H st k0) (hb : ∀ s R H st, I s R H st → ∀ x, body s = some x → (∀ s', x = Sum.inl s' → ∀ R' H' st', I s' R' H' st' → At 𝒥 c R' H' st' (.inLoop code :: k)) → (∀ p, x = (Sum.inr p) → ∀ R' H' st', E0 p R' H' st' → At 𝒥 c R' H' st' k0) → At 𝒥 c R H st (.code code :: .inLoop code :: k)) : At 𝒥 c R H st (.code (.loop code) :: k) := At.loopM hM I (fun s R H st hI x hx again out => hb s R H st hI x hx again (fun p hp R' H' st' hE => ha0 p R' H' st' hE (out _ hp))) h0
theorem At.loopE1R {S P0 Q ρ : Type} {body : S → Option (S ⊕ (P0 ⊕ Q))} {s0 : S} {code : Code} {f0 : P0 → Option ρ} {g : Q → Option ρ} {r : ρ} {k0 : List Item} (hM : (Go.Lg.loopM body s0).bind (Sum.elim f0 g) = some r) (I : S → RMap → HList → St → Prop) (E0 : P0 → RMap → HList → St → Prop) (id0 : Nat) (_ : exitTo id0 k = some k0) (h0 : I s0 R H st) (ha0 : ∀ p R H st, E0 p R H st → f0 p = some r → At 𝒥 c R H st k0) (hb : ∀ s R H st, I s R H st → ∀ x, body s = some x → (∀ s', x = Sum.inl s' → ∀ R' H' st', I s' R' H' st' → At 𝒥 c R' H' st' (.inLoop code :: k)) → (∀ p, x = (Sum.inr (Sum.inl p)) → ∀ R' H' st', E0 p R' H' st' → At 𝒥 c R' H' st' k0) → (∀ p, x = (Sum.inr (Sum.inr p)) → g p = some r) → At 𝒥 c R H st (.code code :: .inLoop code :: k)) : At 𝒥 c R H st (.code (.loop code) :: k) := At.loopM hM I (fun s R H st hI x hx again out => hb s R H st hI x hx again (fun p hp R' H' st' hE => ha0 p R' H' st' hE (out _ hp)) (fun _ hp => out _ hp)) h0
theorem At.joinE1 {P0 ρ : Type} {A : Option P0} {it : Item} {f0 : P0 → Option ρ} {r : ρ} (hM : A.bind f0 = some r) (E0 : P0 → RMap → HList → St → Prop) (ha0 : ∀ p R H st, E0 p R H st → f0 p = some r → At 𝒥 c R H st k) (hb : ∀ x, A = some x → (∀ p, x = p → ∀ R' H' st', E0 p R' H' st' → At 𝒥 c R' H' st' k) → At 𝒥 c R H st (it :: k)) : At 𝒥 c R H st (it :: k) := by
 obtain ⟨x, h1, h2⟩ := bnd hM
 exact hb x h1 (fun p hp R' H' st' hE => ha0 p R' H' st' hE (by subst hp; exact h2))
theorem Ox.callFun {α β : Type} {A : VRel α} {D : VRel β} {f : α → Option β} {x y : Operand} {ts : Array TypeId} {v va : Value} {a : α} {r : β} {H0 : HList} (h : FunR 𝒥 R H0 A D v f)
  (hop : o.op = .call ⟨.value x, #[y], ts⟩) (hx : evalS st x = some v) (hy : evalS st y = some va) (hA : A R a va) (hf : f a = some r) (hd : dstLt o.dst c.n) (hH : ∀ p ∈ H0, p ∈ H)
  (hC : ∀ w R', RLe R R' → D R' r w → ∃ st', SubL (putS o.dst w st) st' ∧ C R' H st') : OpTo 𝒥 c o R H st C := by
 obtain ⟨fid, first, captured, rfl, he, hk⟩ := h
 refine Ox.callV (vs := [va]) hop rfl hx (by simp [argsS, hy]) he rfl hd ((hk R H (RLe.refl _) hH a r va hA hf).mono fun w R' H' h => ?_)
 obtain ⟨h1, rfl, h3⟩ := h
 exact hC w R' h1 h3
end
end Go.Lg
