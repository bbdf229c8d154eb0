/- Models that can be reckoned: the same words with a bound on each loop say no more than the models. Conditions: none. -/
import Derived.Test.YtabamagholjdcaaGreatDoorQLgMapw
import Derived.Test.YtabamagholjdcaaGreatDoorQLgIter
namespace Go.Lg
def LeO {α : Type} (a b : Option α) : Prop := ∀ r, a = some r → b = some r
theorem LeO.refl {α : Type} (a : Option α) : LeO a a := fun _ h => h
theorem LeO.none {α : Type} {b : Option α} : LeO none b := fun _ h => by cases h
theorem LeO.bind {α β : Type} {a a' : Option α} {f f' : α → Option β} (h : LeO a a') (hf : ∀ x, LeO (f x) (f' x)) : LeO (a.bind f) (a'.bind f') := by
 intro r hr
 obtain ⟨x, hx, hr⟩ := bnd hr
 rw [h x hx]
 exact hf x r hr
theorem LeO.sel {α : Type} {t : Bool} {a a' b b' : Option α} (h : LeO a a') (h' : LeO b b') : LeO (sel t a b) (sel t a' b') := by
 cases t
 ·exact h'
 ·exact h
def loopC {S O : Type} (body : S → Option (S ⊕ O)) (s : S) : Option O := loopF body 200 s
theorem LeO.loopF {S O : Type} {body body' : S → Option (S ⊕ O)} (h : ∀ s, LeO (body s) (body' s)) : ∀ (n : Nat) (s : S), LeO (Go.Lg.loopF body n s) (loopM body' s)
 | 0, _ => fun _ hr => by cases hr
 | n + 1, s => fun r hr => by
  simp only [Go.Lg.loopF] at hr
  cases hb : body s with
  | none => rw [hb] at hr; cases hr
  | some x =>
   rw [hb] at hr
   have hb' := h s x hb
   cases x with
   | inl s' => rw [loopM_next hb']; exact LeO.loopF h n s' r hr
   | inr o => cases hr; exact loopM_stop hb'
theorem LeO.loop {S O : Type} {body body' : S → Option (S ⊕ O)} {s : S} (h : ∀ s, LeO (body s) (body' s)) : LeO (loopC body s) (loopM body' s) := LeO.loopF h 200 s
theorem LeO.elim {α β γ : Type} {f f' : α → Option γ} {g g' : β → Option γ} (h : ∀ x, LeO (f x) (f' x)) (h' : ∀ x, LeO (g x) (g' x)) (x : α ⊕ β) : LeO (Sum.elim f g x) (Sum.elim f' g' x) := by
 cases x
 ·exact h _
 ·exact h' _
theorem LeO.runY {α S O : Type} {f f' : α → S → Option (S ⊕ O)} (h : ∀ x s, LeO (f x s) (f' x s)) (x : α) (s : S ⊕ O) : LeO (Go.Lg.runY f x s) (Go.Lg.runY f' x s) := by
 intro r hr
 cases s with
 | inr s => cases hr
 | inl s =>
  simp only [Go.Lg.runY] at hr ⊢
  cases hf : f x s with
  | none => rw [hf] at hr; cases hr
  | some z => rw [hf] at hr; rw [h x s z hf]; exact hr
theorem LeO.mapM {α β : Type} {f f' : α → Option β} (h : ∀ x, LeO (f x) (f' x)) : ∀ l : List α, LeO (l.mapM f) (l.mapM f')
 | [] => LeO.refl _
 | a :: l => by
  intro r hr
  rw [List.mapM_cons] at hr ⊢
  cases ha : f a with
  | none => rw [ha] at hr; simp at hr
  | some b =>
   cases hl : l.mapM f with
   | none => rw [ha, hl] at hr; simp at hr
   | some bs =>
    rw [ha, hl] at hr
    rw [h a b ha, LeO.mapM h l bs hl]
    exact hr
end Go.Lg
