/- Plain laws of chapter 6. Conditions: none. -/
import Derived.Test.YtabamagholjdcaaGreatDoorQGHuM
namespace Go.Proofs.YtabamagholjdcaaGreatDoor
open Go.Lg Go.Proofs
set_option maxRecDepth 10000
theorem wZ {S O : Type} {body : S → Option (S ⊕ O)} (st : Nat → S) (n : Nat) {o : O} (h : ∀ i, i < n → body (st i) = some (.inl (st (i + 1)))) (hn : body (st n) = some (.inr o)) : br body (st 0) = some o := by
 have key : ∀ k, k ≤ n → br body (st (n - k)) = some o := by
  intro k
  induction k with
  | zero => intro _; exact gS hn
  | succ k ih =>
   intro hk
   rw [sM (h (n - (k + 1)) (by omega)), show n - (k + 1) + 1 = n - k by omega]
   exact ih (by omega)
 have := key n (Nat.le_refl _)
 rwa [Nat.sub_self] at this
def dm {O : Type} (e : Nat → Option O) : Nat → Nat → Option O
 | _, 0 => none
 | i, k + 1 => match e i with | some o => some o | none => dm e (i + 1) k
def ab3 {S O : Type} (s : S) : Option O → S ⊕ O
 | some o => .inr o
 | none => .inl s
theorem aaH {S O : Type} {body : S → Option (S ⊕ O)} (st : Nat → S) (e : Nat → Option O) (i0 n : Nat) {o : O} (h : ∀ i, i0 ≤ i → i < n → body (st i) = some (ab3 (st (i + 1)) (e i))) (hn : body (st n) = some (.inr o)) (h0 : i0 ≤ n) : br body (st i0) = some ((dm e i0 (n - i0)).getD o) := by
 have key : ∀ k, k ≤ n - i0 → br body (st (n - k)) = some ((dm e (n - k) k).getD o) := by
  intro k
  induction k with
  | zero => intro _; exact gS hn
  | succ k ih =>
   intro hk
   have hb := h (n - (k + 1)) (by omega) (by omega)
   unfold dm
   cases he : e (n - (k + 1)) with
   | some o' =>
    rw [he] at hb
    exact gS hb
   | none =>
    rw [he] at hb
    rw [sM hb, show n - (k + 1) + 1 = n - k by omega]
    exact ih (by omega)
 have := key (n - i0) (Nat.le_refl _)
 rwa [show n - (n - i0) = i0 by omega] at this
theorem axl {S O : Type} {body : S → Option (S ⊕ O)} (st : Nat → S) (e : Nat → Option O) (n : Nat) {o : O} (h : ∀ i, i < n → body (st i) = some (ab3 (st (i + 1)) (e i))) (hn : body (st n) = some (.inr o)) : br body (st 0) = some ((dm e 0 n).getD o) := by
 simpa using aaH st e 0 n (λ i _ hi => h i hi) hn (Nat.zero_le _)
theorem aiy {O : Type} {e e' : Nat → Option O} : ∀ (k i : Nat), (∀ j, i ≤ j → j < i + k → e j = e' j) → dm e i k = dm e' i k
 | 0, _, _ => rfl
 | k + 1, i, h => by
  unfold dm
  rw [h i (Nat.le_refl _) (by omega), aiy k (i + 1) (λ j h1 h2 => h j (by omega) (by omega))]
theorem tF {O : Type} {e : Nat → Option O} : ∀ {k i : Nat}, dm e i k = none ↔ ∀ j, i ≤ j → j < i + k → e j = none
 | 0, i => by simp [dm]; omega
 | k + 1, i => by
  unfold dm
  cases he : e i with
  | some o => simp; exact ⟨i, Nat.le_refl _, by omega, by rw [he]; simp⟩
  | none =>
   simp only
   rw [tF]
   constructor
   ·intro h j h1 h2
    by_cases hj : j = i
    ·subst hj; exact he
    ·exact h j (by omega) (by omega)
   ·intro h j h1 h2; exact h j (by omega) (by omega)
theorem vZ {O : Type} {e : Nat → Option O} : ∀ {k i : Nat} {o : O}, dm e i k = some o → ∃ j, i ≤ j ∧ j < i + k ∧ e j = some o ∧ ∀ m, i ≤ m → m < j → e m = none
 | 0, i, o, h => by cases h
 | k + 1, i, o, h => by
  unfold dm at h
  cases he : e i with
  | some o' => rw [he] at h; cases h; exact ⟨i, Nat.le_refl _, by omega, he, λ m h1 h2 => by omega⟩
  | none =>
   rw [he] at h
   obtain ⟨j, h1, h2, h3, h4⟩ := vZ h
   refine ⟨j, by omega, by omega, h3, λ m JR hm2 => ?_⟩
   by_cases hm : m = i
   ·subst hm; exact he
   ·exact h4 m (by omega) hm2
@[simp] theorem bJ {α : Type} {a b : Option α} : ai true a b = a := rfl
@[simp] theorem bz {α : Type} {a b : Option α} : ai false a b = b := rfl
@[simp] theorem cw {α : Type} (xs : List α) (k : Nat) : idx xs (k : Int) = xs[k]? := by simp [idx]
theorem dQ {z : Int} (h1 : -4611686018427387904 ≤ z) (h2 : z ≤ 4611686018427387904) : i64 z = z := SU (by omega)
theorem cJ {i : Nat} (h : i ≤ 1000000000) : i64 ((i : Int) + 1) = ((i + 1 : Nat) : Int) := by rw [dQ (by omega) (by omega)]; omega
theorem iX {i : Nat} (h : i ≤ 1000000000) (h0 : 0 < i) : i64 ((i : Int) - 1) = ((i - 1 : Nat) : Int) := by rw [dQ (by omega) (by omega)]; omega
theorem Nv {α : Type} {xs : List α} {k : Nat} (h : k ≤ xs.length) : jN xs 0 (k : Int) = some (xs.take k) := by simp [jN, h]
theorem vE {α : Type} {xs ys : List α} (h : xs.length + ys.length ≤ 16777216) : eH xs ys = some (xs ++ ys) := by simp [eH, h]
def dF (n a c : Int) : Bool := decide (a ≤ n) && decide (n ≤ c)
theorem xh (n a c : Int) : kQ n a c = some (dF n a c) := by
 unfold kQ dF
 cases decide (a ≤ n) <;> rfl
theorem tG (n a c : Int) : l5 n a c = some (dF n a c) := by
 unfold l5 dF
 cases decide (a ≤ n) <;> rfl
def jK (x : Reach) (a c : Int) : Bool := decide (a ≤ x.ao) && (decide (x.ao ≤ x.ax) && decide (x.ax ≤ c))
theorem aaM (x : Reach) (a c : Int) : Cs x a c = some (jK x a c) := by
 unfold Cs jK
 cases decide (a ≤ x.ao) <;> cases decide (x.ao ≤ x.ax) <;> rfl
def j3 (x : Reach) (w : Int) : Bool := decide (x.ax - x.ao < w)
theorem acN {x : Reach} {a c w : Int} (ha : -1000000 ≤ a) (hc : c ≤ 1000000) (h : jK x a c = true) : i64 (x.ax - x.ao) = x.ax - x.ao := by
 simp only [jK, Bool.and_eq_true, decide_eq_true_eq] at h
 exact dQ (by omega) (by omega)
theorem Vo {x : Reach} {a c w : Int} (ha : -1000000 ≤ a) (hc : c ≤ 1000000) : uM x a c w = some (jK x a c && j3 x w) := by
 unfold uM jK j3
 by_cases h1 : a ≤ x.ao
 ·by_cases h2 : x.ao ≤ x.ax
  ·by_cases h3 : x.ax ≤ c
   ·simp [h1, h2, h3, dQ (z := x.ax - x.ao) (by omega) (by omega)]
   ·simp [h1, h2, h3]
  ·simp [h1, h2]
 ·simp [h1]
def nth {α : Type} [Inhabited α] (l : List α) (i : Nat) : α := l.getD i default
theorem bH {α : Type} [Inhabited α] {l : List α} {i : Nat} (h : i < l.length) : l[i]? = some (nth l i) := by
 unfold nth
 rw [List.getD_eq_getElem?_getD, List.getElem?_eq_getElem h]; rfl
theorem nJ {α : Type} [Inhabited α] {l : List α} {i : Nat} (h : i < l.length) : nth l i ∈ l := List.mem_of_getElem? (bH h)
theorem KE {α : Type} [Inhabited α] {l : List α} {x : α} (h : x ∈ l) : ∃ i, i < l.length ∧ nth l i = x := by
 obtain ⟨i, hi, rfl⟩ := List.mem_iff_getElem.1 h
 refine ⟨i, hi, ?_⟩
 have := bH hi
 rw [List.getElem?_eq_getElem hi] at this
 exact (Option.some.inj this).symm
theorem abc {α : Type} [Inhabited α] {l : List α} {i k : Nat} (h : i < k) : nth (l.take k) i = nth l i := by
 unfold nth
 rw [List.getD_eq_getElem?_getD, List.getD_eq_getElem?_getD, List.getElem?_take_of_lt h]
instance : Inhabited cG := ⟨⟨⟨#[]⟩, 0, ⟨0, 0⟩, []⟩⟩
instance : Inhabited cF := ⟨⟨0, 0⟩⟩
theorem jf {S O β : Type} {body : S → Option (S ⊕ O)} {s : S} {o : O} {f : O → Option β} (h : br body s = some o) : (br body s).bind f = f o := by rw [h]; rfl
theorem dec_lt {i : Nat} {n : Nat} (h : i < n) : decide ((i : Int) < (n : Int)) = true := by simpa using h
theorem fP {n : Nat} : decide ((n : Int) < (n : Int)) = false := by simp
theorem Nz {i : Nat} (h : 0 < i) : decide ((i : Int) > 0) = true := by simpa using h
theorem agp {i : Nat} (h : ¬ 0 < i) : decide ((i : Int) > 0) = false := by simpa using h
theorem agv {O : Type} {f : Option O} {g : Unit → Option O} {d : O} (hd : g () = some d) : Sum.elim g (λ q => some q) (((f.map Sum.inr).getD (.inl ())) : Unit ⊕ O) = some (f.getD d) := by
 cases f with
 | none => exact hd
 | some o => rfl
theorem Od {O Q : Type} (g : O → Q) (e : Nat → Option O) : ∀ (k i : Nat), dm (λ j => (e j).map g) i k = (dm e i k).map g
 | 0, _ => rfl
 | k + 1, i => by
  unfold dm
  cases e i with
  | none => exact Od g e k (i + 1)
  | some o => rfl
theorem search {O : Type} {body : Int → Option (Int ⊕ (Unit ⊕ O))} (e : Nat → Option O) (i0 n : Nat) {d : O} {g : Unit → Option O} (h : ∀ i, i0 ≤ i → i < n → body (i : Int) = some (match e i with | some o => .inr (.inr o) | none => .inl ((i + 1 : Nat) : Int))) (hn : body (n : Int) = some (.inr (.inl ()))) (h0 : i0 ≤ n) (hd : g () = some d) :
  (br body (i0 : Int)).bind (Sum.elim g λ q => some q) = some ((dm e i0 (n - i0)).getD d) := by
 refine (jf (aaH (λ i => (i : Int)) (λ i => (e i).map Sum.inr) i0 n (o := .inl ()) (λ i h1 h2 => ?_) hn h0)).trans ?_
 ·rw [h i h1 h2]
  cases e i <;> rfl
 ·rw [Od]
  exact agv hd
theorem l6 {O : Type} {body : Int → Option (Int ⊕ (Unit ⊕ O))} (e : Nat → Option O) (n : Nat) {d : O} {g : Unit → Option O} (h : ∀ i, i < n → body (i : Int) = some (match e i with | some o => .inr (.inr o) | none => .inl ((i + 1 : Nat) : Int))) (hn : body (n : Int) = some (.inr (.inl ()))) (hd : g () = some d) :
  (br body 0).bind (Sum.elim g λ q => some q) = some ((dm e 0 n).getD d) := search e 0 n (λ i _ hi => h i hi) hn (Nat.zero_le _) hd
def Ey (l : List Int) (below : Int) (i : Nat) : Option Int :=
 if dF (nth l i) 0 (below - 1) = false then some 6 else if 0 < i then (if nth l i ≤ nth l (i - 1) then some 7 else none) else none
def tX (l : List Int) (below : Int) : Int := (dm (Ey l below) 0 l.length).getD 0
theorem axH {l : List Int} {below : Int} (hl : l.length ≤ 1000) (h0 : 0 ≤ below) (h1 : below ≤ 1000) : uN l below = some (tX l below) := by
 unfold uN
 refine l6 (Ey l below) l.length (λ i hi => ?_) (by simp only [fP, bz]) rfl
 simp only [dec_lt hi, bJ, cw, bH hi, Option.bind_some, xh, dQ (z := below - 1) (by omega) (by omega), cJ (i := i) (by omega)]
 unfold Ey
 cases dF (nth l i) 0 (below - 1) with
 | false => rfl
 | true =>
  by_cases hp : 0 < i
  ·simp only [Nz hp, Bool.not_true, bz, bJ, iX (i := i) (by omega) hp, cw, bH (show i - 1 < l.length by omega), Option.bind_some, hp, if_true, Bool.true_eq_false, if_false]
   by_cases hc : nth l i ≤ nth l (i - 1) <;> simp [hc]
  ·simp [hp]
theorem ay8 {l : List Int} {below : Int} (hl : l.length ≤ 1000) (h0 : 0 ≤ below) (h1 : below ≤ 1000) : GR l below = some (tX l below) := by
 unfold GR
 refine l6 (Ey l below) l.length (λ i hi => ?_) (by simp only [fP, bz]) rfl
 simp only [dec_lt hi, bJ, cw, bH hi, Option.bind_some, tG, dQ (z := below - 1) (by omega) (by omega), cJ (i := i) (by omega)]
 unfold Ey
 cases dF (nth l i) 0 (below - 1) with
 | false => rfl
 | true =>
  by_cases hp : 0 < i
  ·simp only [Nz hp, Bool.not_true, bz, bJ, iX (i := i) (by omega) hp, cw, bH (show i - 1 < l.length by omega), Option.bind_some, hp, if_true, Bool.true_eq_false, if_false]
   by_cases hc : nth l i ≤ nth l (i - 1) <;> simp [hc]
  ·simp [hp]
theorem Oe {α : Type} [Inhabited α] (p : α → Bool) (l : List α) : (dm (λ i => if p (nth l i) then some true else none) 0 l.length).getD false = l.any p := by
 cases h : dm (λ i => if p (nth l i) then some true else none) 0 l.length with
 | none =>
  rw [tF] at h
  symm
  rw [Option.getD_none, List.any_eq_false]
  intro x hx
  obtain ⟨i, hi, rfl⟩ := KE hx
  have := h i (Nat.zero_le _) (by omega)
  simpa using this
 | some o =>
  obtain ⟨j, _, hj, he, _⟩ := vZ h
  split at he
  ·rename_i hp
   cases he
   symm
   rw [Option.getD_some, List.any_eq_true]
   exact ⟨nth l j, nJ (by omega), hp⟩
  ·cases he
theorem afD (l : List Int) (n : Int) : (l.any λ x => n == x) = l.contains n := by
 rw [Bool.eq_iff_iff, List.any_eq_true, List.contains_iff_mem]
 constructor
 ·rintro ⟨x, hx, h⟩
  rw [beq_iff_eq] at h; subst h; exact hx
 ·intro h; exact ⟨n, h, by simp⟩
theorem afC (l : List Int) (n : Int) : (l.any λ x => x == n) = l.contains n := by
 rw [Bool.eq_iff_iff, List.any_eq_true, List.contains_iff_mem]
 constructor
 ·rintro ⟨x, hx, h⟩
  rw [beq_iff_eq] at h; subst h; exact hx
 ·intro h; exact ⟨n, h, by simp⟩
theorem HW {l : List Int} {n : Int} (hl : l.length ≤ 1000) : sS l n = some (l.contains n) := by
 unfold sS
 refine (l6 (λ i => if (nth l i == n) then some true else none) l.length (d := false) (λ i hi => ?_) (by simp only [fP, bz]) rfl).trans ?_
 ·simp only [dec_lt hi, bJ, cw, bH hi, Option.bind_some, cJ (i := i) (by omega)]
  cases nth l i == n <;> rfl
 ·rw [Oe (λ x => x == n) l]
  rw [afC]
theorem Jp {α : Type} [Inhabited α] (p : α → Bool) (l : List α) : decide ((dm (λ i => if p (nth l i) then some (i : Int) else none) 0 l.length).getD (-1) ≥ 0) = l.any p := by
 rw [← Oe p l]
 cases h : dm (λ i => if p (nth l i) then some (i : Int) else none) 0 l.length with
 | none =>
  rw [tF] at h
  have : dm (λ i => if p (nth l i) then some true else none) 0 l.length = none := by
   rw [tF]
   intro j h1 h2
   have := h j h1 h2
   cases hp : p (nth l j) with
   | true => rw [hp] at this; cases this
   | false => rfl
  rw [this]; rfl
 | some o =>
  obtain ⟨j, h1, h2, h3, h4⟩ := vZ h
  split at h3
  ·rename_i hp
   cases h3
   have : dm (λ i => if p (nth l i) then some true else none) 0 l.length = some true := by
    cases hf : dm (λ i => if p (nth l i) then some true else none) 0 l.length with
    | none => rw [tF] at hf; have := hf j h1 h2; rw [if_pos hp] at this; cases this
    | some b =>
     obtain ⟨_, _, _, hb, _⟩ := vZ hf
     split at hb
     ·cases hb; rfl
     ·cases hb
   rw [this]
   simp
  ·cases h3
theorem ayi {l : List Int} {n : Int} (hl : l.length ≤ 1000) : Ao l n = some (l.contains n) := by
 unfold Ao CD
 rw [l6 (λ i => if (n == nth l i) then some (i : Int) else none) l.length (d := (-1)) (λ i hi => ?_) (by simp only [fP, bz]) rfl]
 ·rw [Option.bind_some, Jp (λ x => n == x) l]
  rw [afD]
 ·simp only [dec_lt hi, bJ, cw, bH hi, Option.bind_some, cJ (i := i) (by omega)]
  cases n == nth l i <;> rfl
theorem axZ {l : List Int} {f : Int → Option Bool} {p : Int → Bool} (hl : l.length ≤ 1000) (hf : ∀ x ∈ l, f x = some (p x)) : xm l f = some (l.any p) := by
 unfold xm CA
 rw [l6 (λ i => if p (nth l i) then some (i : Int) else none) l.length (d := (-1)) (λ i hi => ?_) (by simp only [fP, bz]) rfl]
 ·rw [Option.bind_some, Jp p l]
 ·simp only [dec_lt hi, bJ, cw, bH hi, Option.bind_some, hf _ (nJ hi), cJ (i := i) (by omega)]
  cases p (nth l i) <;> rfl
theorem ayR {l : List cG} {f : cG → Option Bool} {p : cG → Bool} (hl : l.length ≤ 1000) (hf : ∀ x ∈ l, f x = some (p x)) : Ax l f = some (l.any p) := by
 unfold Ax CF
 rw [l6 (λ i => if p (nth l i) then some (i : Int) else none) l.length (d := (-1)) (λ i hi => ?_) (by simp only [fP, bz]) rfl]
 ·rw [Option.bind_some, Jp p l]
 ·simp only [dec_lt hi, bJ, cw, bH hi, Option.bind_some, hf _ (nJ hi), cJ (i := i) (by omega)]
  cases p (nth l i) <;> rfl
theorem ax3 {l : List cF} {f : cF → Option Bool} {p : cF → Bool} (hl : l.length ≤ 1000) (hf : ∀ x ∈ l, f x = some (p x)) : Aj l f = some (l.any p) := by
 unfold Aj CC
 rw [l6 (λ i => if p (nth l i) then some (i : Int) else none) l.length (d := (-1)) (λ i hi => ?_) (by simp only [fP, bz]) rfl]
 ·rw [Option.bind_some, Jp p l]
 ·simp only [dec_lt hi, bJ, cw, bH hi, Option.bind_some, hf _ (nJ hi), cJ (i := i) (by omega)]
  cases p (nth l i) <;> rfl
end Go.Proofs.YtabamagholjdcaaGreatDoor
namespace Go.Proofs.YtabamagholjdcaaGreatDoor
open Go.Lg Go.Proofs
set_option maxRecDepth 10000
theorem aAT {O : Type} {body : Int → Option (Int ⊕ (Unit ⊕ O))} (e : Nat → Option O) (n : Nat) (h : ∀ i, i < n → body (i : Int) = some (match e i with | some o => .inr (.inr o) | none => .inl ((i + 1 : Nat) : Int))) (hn : body (n : Int) = some (.inr (.inl ()))) :
  br body 0 = some (match dm e 0 n with | some o => .inr o | none => .inl ()) := by
 refine (axl (λ i => (i : Int)) (λ i => (e i).map Sum.inr) n (o := .inl ()) (λ i hi => ?_) hn).trans ?_
 ·rw [h i hi]
  cases e i <;> rfl
 ·rw [Od]
  cases dm e 0 n <;> rfl
theorem aiz {α O : Type} [Inhabited α] (p : α → Bool) (c : O) (l : List α) (n : Nat) (hn : n ≤ l.length) : dm (λ k => if p (nth l k) then some c else none) 0 n = if (l.take n).any p then some c else none := by
 cases h : dm (λ k => if p (nth l k) then some c else none) 0 n with
 | none =>
  rw [tF] at h
  have : (l.take n).any p = false := by
   rw [List.any_eq_false]
   intro x hx
   obtain ⟨i, hi, rfl⟩ := KE hx
   have hi' : i < n := by simp at hi; omega
   rw [abc hi']
   have := h i (Nat.zero_le _) (by omega)
   simpa using this
  rw [this]; rfl
 | some o =>
  obtain ⟨j, _, hj, he, _⟩ := vZ h
  split at he
  ·rename_i hp
   cases he
   have : (l.take n).any p = true := by
    rw [List.any_eq_true]
    refine ⟨nth l j, ?_, hp⟩
    rw [← abc (l := l) (show j < n by omega)]
    exact nJ (by simp; omega)
   rw [this]; rfl
  ·cases he
theorem collect {α : Type} {body : List α × Int → Option ((List α × Int) ⊕ List α)} (g : Nat → Option α) (n : Nat) (h : ∀ i acc, i < n → acc.length ≤ i → body (acc, (i : Int)) = some (.inl (acc ++ (g i).toList, ((i + 1 : Nat) : Int)))) (hn : ∀ acc, body (acc, (n : Int)) = some (.inr acc)) :
  br body ([], 0) = some ((List.range n).filterMap g) := by
 refine (wZ (λ i => ((List.range i).filterMap g, (i : Int))) n (λ i hi => ?_) (hn _) : br body ([], (0 : Int)) = _)
 have hl : ((List.range i).filterMap g).length ≤ i := by
  have := List.length_filterMap_le g (List.range i)
  simpa using this
 rw [h i _ hi hl, List.range_succ, List.filterMap_append, show List.filterMap g [i] = (g i).toList by cases hg : g i <;> simp [hg]]
structure Small (b : av) : Prop where
 pieces : b.au.length ≤ 20
 out : b.Out.length ≤ 20
 DS : b.aU.length ≤ 20
 each : ∀ p ∈ b.au, p.Name.size ≤ 100 ∧ p.On.length ≤ 20
def yU (b : av) : Bool :=
 decide (20 < b.au.length) || (decide (20 < b.Out.length) || (decide (20 < b.aU.length) || b.au.any λ p => decide (100 < p.Name.size) || decide (20 < p.On.length)))
theorem yS {n m : Nat} : decide ((n : Int) > (m : Int)) = decide (m < n) := by
 by_cases h : m < n <;> simp [h]
theorem ayB (b : av) : GM b = some (yU b) := by
 unfold GM yU
 have e1 : decide ((b.au.length : Int) > 20) = decide (20 < b.au.length) := yS (m := 20)
 have e2 : decide ((b.Out.length : Int) > 20) = decide (20 < b.Out.length) := yS (m := 20)
 have e3 : decide ((b.aU.length : Int) > 20) = decide (20 < b.aU.length) := yS (m := 20)
 rw [e1, e2, e3]
 by_cases h1 : 20 < b.au.length
 ·simp [h1]
 by_cases h2 : 20 < b.Out.length
 ·simp [h1, h2]
 by_cases h3 : 20 < b.aU.length
 ·simp [h1, h2, h3]
 simp only [h1, h2, h3, decide_false, bz, Option.bind_some, Bool.false_or]
 rw [l6 (λ i => if (decide (100 < (nth b.au i).Name.size) || decide (20 < (nth b.au i).On.length)) then some true else none) b.au.length (d := false) (λ i hi => ?_) (by simp only [fP, bz]) rfl]
 ·rw [Oe (λ p : cG => decide (100 < p.Name.size) || decide (20 < p.On.length)) b.au]
 ·have f1 : decide (((nth b.au i).Name.size : Int) > 100) = decide (100 < (nth b.au i).Name.size) := yS (m := 100)
  have f2 : decide (((nth b.au i).On.length : Int) > 20) = decide (20 < (nth b.au i).On.length) := yS (m := 20)
  simp only [dec_lt hi, bJ, cw, bH hi, Option.bind_some, f1, f2, cJ (i := i) (by omega)]
  cases decide (100 < (nth b.au i).Name.size) <;> cases decide (20 < (nth b.au i).On.length) <;> rfl
theorem Yt {b : av} (h : yU b = false) : Small b := by
 simp only [yU, Bool.or_eq_false_iff, decide_eq_false_iff_not, List.any_eq_false, Bool.not_eq_true] at h
 obtain ⟨h1, h2, h3, h4⟩ := h
 refine ⟨by omega, by omega, by omega, λ p hp => ?_⟩
 have := h4 p hp
 omega
def isLet (n : Int) : Bool := dF n 97 122
def Gr (n : Int) : Bool := dF n 48 57
theorem Lc (s : ByteArray) : (eO s).length = s.size := by simp [eO]
theorem Ug {s : ByteArray} {i : Nat} (h : i < s.size) : 0 ≤ nth (eO s) i ∧ nth (eO s) i < 256 := by
 have hm : nth (eO s) i ∈ eO s := nJ (by rw [Lc]; exact h)
 unfold eO at hm
 obtain ⟨b, _, hb⟩ := List.mem_map.1 hm
 unfold eO
 rw [← hb]
 have := b.toNat_lt
 omega
def oF (s : ByteArray) (i : Nat) : Option Bool := if isLet (nth (eO s) i) = false then (if i = 0 then some false else if Gr (nth (eO s) i) = false then some false else none) else none
def zZ (s : ByteArray) : Bool := (dm (oF s) 0 s.size).getD (dF (s.size : Int) 1 12)
theorem ayP {s : ByteArray} (hs : s.size ≤ 1000) : Aw s = some (zZ s) := by
 unfold Aw zZ
 have e := Lc s
 rw [e]
 refine l6 (oF s) s.size (λ i hi => ?_) (by simp only [fP, bz]) (by rw [xh]; rfl)
 have hi' : i < (eO s).length := by omega
 obtain ⟨h1, h2⟩ := Ug hi
 simp only [dec_lt hi, bJ, cw, bH hi', Option.bind_some, xh, dQ (z := nth (eO s) i) (by omega) (by omega), cJ (i := i) (by omega)]
 unfold oF isLet Gr
 cases dF (nth (eO s) i) 97 122 with
 | true => rfl
 | false =>
  by_cases h0 : i = 0
  ·subst h0; rfl
  ·have : ((i : Int) == 0) = false := by simpa using h0
   simp only [this, Bool.not_false, bJ, bz, h0, if_false, if_true]
   cases dF (nth (eO s) i) 48 57 <;> rfl
theorem aaU {n : Int} (h1 : 0 ≤ n) (h2 : n < 256) : An n = some (isLet n) := by unfold An isLet; rw [dQ (by omega) (by omega), tG]; rfl
theorem ayf {n : Int} (h1 : 0 ≤ n) (h2 : n < 256) : CB n = some (Gr n) := by unfold CB Gr; rw [dQ (by omega) (by omega), tG]; rfl
theorem awt {s : ByteArray} {k i : Nat} {o : Bool} (h : dm (oF s) i k = some o) : o = false := by
 obtain ⟨j, _, _, he, _⟩ := vZ h
 unfold oF at he
 split at he
 ·split at he
  ·cases he; rfl
  ·split at he
   ·cases he; rfl
   ·cases he
 ·cases he
theorem ax1 {s : ByteArray} (hs : s.size ≤ 1000) : GK s = some (zZ s) := by
 unfold GK zZ
 rw [tG, Option.bind_some]
 cases hb : dF (s.size : Int) 1 12 with
 | false =>
  simp only [Bool.not_false, bJ, Option.bind_some]
  congr 1
  cases hf : dm (oF s) 0 s.size with
  | none => rfl
  | some o => rw [awt hf]; rfl
 | true =>
  have h1 : 1 ≤ s.size := by
   simp only [dF, Bool.and_eq_true, decide_eq_true_eq] at hb
   omega
  have hi' : 0 < (eO s).length := by rw [Lc]; omega
  obtain ⟨g1, g2⟩ := Ug (s := s) (i := 0) (by omega)
  have hs0 : qX s 0 = some (nth (eO s) 0) := by unfold qX; rw [← bH hi']; exact cw _ 0
  simp only [Bool.not_true, bz, hs0, Option.bind_some, aaU g1 g2]
  have hu : dm (oF s) 0 s.size = match oF s 0 with | some o => some o | none => dm (oF s) 1 (s.size - 1) := by
   obtain ⟨k, hk⟩ : ∃ k, s.size = k + 1 := ⟨s.size - 1, by omega⟩
   rw [hk]
   simp only [dm, Nat.add_sub_cancel, Nat.zero_add]
   cases oF s 0 <;> rfl
  rw [hu]
  unfold oF
  cases hl : isLet (nth (eO s) 0) with
  | false => rfl
  | true =>
   simp only [Bool.not_true, bz, Bool.true_eq_false, if_false]
   have e2 := search (body := λ (nO : Int) =>
    ai (decide (nO < (s.size : Int)))
    ((qX s nO).bind λ kC =>
    (An kC).bind λ oT =>
    ai (!oT)
    ((qX s nO).bind λ nX =>
    (CB nX).bind λ Mb =>
    ai (!Mb)
    (some (.inr (.inr false)))
    (some (.inl (i64 (nO + 1)))))
    (some (.inl (i64 (nO + 1)))))
    (some (.inr (.inl ())))) (oF s) 1 s.size (d := true) (g := λ _ => some true) (λ i hi1 hi => ?_) (by simp only [fP, bz]) h1 rfl
   ·exact e2
   ·have hi2 : i < (eO s).length := by rw [Lc]; exact hi
    obtain ⟨k1, k2⟩ := Ug hi
    have hsi : qX s (i : Int) = some (nth (eO s) i) := by unfold qX; rw [← bH hi2]; exact cw _ i
    simp only [dec_lt hi, bJ, hsi, Option.bind_some, aaU k1 k2, ayf k1 k2, cJ (i := i) (by omega)]
    have h0 : i ≠ 0 := by omega
    unfold oF
    cases isLet (nth (eO s) i) with
    | true => rfl
    | false =>
     simp only [Bool.not_false, bJ, h0, if_false, if_true]
     cases Gr (nth (eO s) i) <;> rfl
def oO (p q : cG) : Bool := q.Name.toList == p.Name.toList
def sZ (b : av) (i : Nat) : Option Int :=
 if zZ (nth b.au i).Name = false then some 4
 else if (b.au.take i).any (oO (nth b.au i)) = true then some 5
 else if (dF (nth b.au i).dg (-9) 9 && (jK (nth b.au i).Weight 1 99 && j3 (nth b.au i).Weight 3)) = false then some 1
 else if tX (nth b.au i).On (i : Int) ≠ 0 then some (tX (nth b.au i).On (i : Int)) else none
def kq (b : av) : Int := if dF (b.au.length : Int) 1 5 = false then 2 else (dm (sZ b) 0 b.au.length).getD 0
theorem ayJ {b : av} (h : Small b) : As b = some (kq b) := by
 unfold As kq
 rw [xh, Option.bind_some]
 cases dF (b.au.length : Int) 1 5 with
 | false => rfl
 | true =>
  simp only [Bool.not_true, bz, Bool.true_eq_false, if_false]
  have hp := h.pieces
  refine l6 (sZ b) b.au.length (λ i hi => ?_) (by simp only [fP, bz]) rfl
  obtain ⟨hn, ho⟩ := h.each _ (nJ hi)
  simp only [dec_lt hi, bJ, cw, bH hi, Option.bind_some, ayP (show (nth b.au i).Name.size ≤ 1000 by omega), Nv (show i ≤ b.au.length by omega), Vo (x := (nth b.au i).Weight) (a := 1) (c := 99) (w := 3) (by omega) (by omega), xh,
   ayR (l := b.au.take i) (f := λ y => Ay y (nth b.au i)) (p := oO (nth b.au i)) (by simp; omega) (λ x _ => rfl), axH (l := (nth b.au i).On) (below := (i : Int)) (by omega) (by omega) (by omega), cJ (i := i) (by omega)]
  unfold sZ
  cases zZ (nth b.au i).Name with
  | false => rfl
  | true =>
   cases (b.au.take i).any (oO (nth b.au i)) with
   | true => rfl
   | false =>
    cases dF (nth b.au i).dg (-9) 9 with
    | false => rfl
    | true =>
     cases (jK (nth b.au i).Weight 1 99 && j3 (nth b.au i).Weight 3) with
     | false => rfl
     | true =>
      by_cases hc : tX (nth b.au i).On (i : Int) = 0
      ·simp [hc]
      ·have : (tX (nth b.au i).On (i : Int) != 0) = true := by simpa using hc
       simp [hc, this]
theorem axJ {b : av} (h : Small b) : GI b = some (kq b) := by
 unfold GI kq
 rw [tG, Option.bind_some]
 cases dF (b.au.length : Int) 1 5 with
 | false => rfl
 | true =>
  simp only [Bool.not_true, bz, Bool.true_eq_false, if_false]
  have hp := h.pieces
  refine l6 (sZ b) b.au.length (λ i hi => ?_) (by simp only [fP, bz]) rfl
  obtain ⟨hn, ho⟩ := h.each _ (nJ hi)
  simp only [dec_lt hi, bJ, cw, bH hi, Option.bind_some, ax1 (show (nth b.au i).Name.size ≤ 1000 by omega)]
  rw [aAT (λ k => if oO (nth b.au i) (nth b.au k) then some (5 : Int) else none) i (λ k hk => ?_) (by simp only [fP, bz])]
  ·rw [aiz (oO (nth b.au i)) (5 : Int) b.au i (by omega)]
   simp only [aaM, tG, Option.bind_some, ay8 (l := (nth b.au i).On) (below := (i : Int)) (by omega) (by omega) (by omega), cJ (i := i) (by omega)]
   unfold sZ
   cases zZ (nth b.au i).Name with
   | false => rfl
   | true =>
    cases (b.au.take i).any (oO (nth b.au i)) with
    | true => rfl
    | false =>
     cases dF (nth b.au i).dg (-9) 9 with
     | false => rfl
     | true =>
      cases hr : jK (nth b.au i).Weight 1 99 with
      | false => rfl
      | true =>
       have hw : decide (i64 ((nth b.au i).Weight.ax - (nth b.au i).Weight.ao) ≥ 3) = !j3 (nth b.au i).Weight 3 := by
        rw [acN (w := 3) (by omega) (by omega) hr]
        unfold j3
        by_cases hx : (nth b.au i).Weight.ax - (nth b.au i).Weight.ao < 3
        ·simp [hx]
        ·simp [hx]; omega
       simp only [Bool.not_true, bz, Sum.elim_inl, Option.bind_some, hw, Bool.false_eq_true, if_false, Bool.true_and, Bool.true_eq_false]
       cases j3 (nth b.au i).Weight 3 with
       | false => rfl
       | true =>
        by_cases hc : tX (nth b.au i).On (i : Int) = 0
        ·simp [hc]
        ·have : (tX (nth b.au i).On (i : Int) != 0) = true := by simpa using hc
         simp [hc, this]
  ·simp only [dec_lt hk, bJ, cw, bH (show k < b.au.length by omega), Option.bind_some, cJ (i := k) (by omega)]
   rw [show ((nth b.au k).Name.toList == (nth b.au i).Name.toList) = oO (nth b.au i) (nth b.au k) from rfl]
   cases oO (nth b.au i) (nth b.au k) <;> rfl
end Go.Proofs.YtabamagholjdcaaGreatDoor
namespace Go.Proofs.YtabamagholjdcaaGreatDoor
open Go.Lg Go.Proofs
set_option maxRecDepth 10000
def fQ (out : List Int) : List Bool := (List.range 5).map λ (i : Nat) => out.contains (i : Int)
theorem Yu : fQ [] = [false, false, false, false, false] := rfl
def vL (l : List Int) : Prop := ∀ x ∈ l, 0 ≤ x ∧ x < 5
theorem Gq (out : List Int) {p : Int} (h0 : 0 ≤ p) (h5 : p < 5) : idx (fQ out) p = some (out.contains p) := by
 obtain ⟨k, rfl⟩ : ∃ k : Nat, p = (k : Int) := ⟨p.toNat, by omega⟩
 have hk : k < 5 := by omega
 rw [cw]
 simp [fQ, hk]
theorem aiH (out : List Int) {p : Int} (h0 : 0 ≤ p) (h5 : p < 5) : (fQ out).set p.toNat true = fQ (out ++ [p]) := by
 obtain ⟨k, rfl⟩ : ∃ k : Nat, p = (k : Int) := ⟨p.toNat, by omega⟩
 have hk : k < 5 := by omega
 apply List.ext_getElem?
 intro i
 rw [Int.toNat_natCast, List.getElem?_set]
 by_cases hi : i < 5
 ·by_cases hik : k = i
  ·subst hik
   simp [fQ, hk]
  ·have : ¬ (i : Int) = (k : Int) := by omega
   simp [fQ, hi, hik, this]
 ·rw [if_neg (by omega)]
  simp [fQ, hi]
theorem aa3 {l out : List Int} (hl : vL l) (hn : l.length ≤ 1000) : iQ (fQ out) l = some (fQ (out ++ l)) := by
 unfold iQ
 refine (jf (o := fQ (out ++ l)) ?_).trans rfl
 have e0 : ((0 : Int), fQ out) = (λ i : Nat => ((i : Int), fQ (out ++ l.take i))) 0 := by simp
 rw [e0]
 refine wZ (λ i : Nat => ((i : Int), fQ (out ++ l.take i))) l.length (λ i hi => ?_) ?_
 ·obtain ⟨h0, h5⟩ := hl _ (nJ hi)
  simp only [dec_lt hi, bJ, cw, bH hi, Option.bind_some, Gq _ h0 h5, aiH _ h0 h5, cJ (i := i) (by omega)]
  rw [List.append_assoc, List.take_add_one, bH hi]
  rfl
 ·simp only [fP, bz, List.take_length]
theorem azd {l : List Int} (hl : vL l) (hn : l.length ≤ 1000) : iQ [false, false, false, false, false] l = some (fQ l) := by
 have := aa3 (out := []) hl hn
 rwa [List.nil_append, Yu] at this
def nM (b : av) (p : Int) (i : Nat) : Bool := (nth b.au i).On.contains p
def o3 (b : av) (out : List Int) (p : Int) : Bool := !out.contains p && (List.range b.au.length).all λ (i : Nat) => out.contains (i : Int) || !nM b p i
theorem Yp (p : Nat → Bool) (n : Nat) : (dm (λ i => if p i = true then some false else none) 0 n).getD true = (List.range n).all λ i => !p i := by
 cases h : dm (λ i => if p i = true then some false else none) 0 n with
 | none =>
  rw [tF] at h
  symm
  rw [Option.getD_none, List.all_eq_true]
  intro i hi
  have hi' : i < n := by simpa using hi
  have := h i (Nat.zero_le _) (by omega)
  simpa using this
 | some o =>
  obtain ⟨j, _, hj, he, _⟩ := vZ h
  split at he
  ·rename_i hp
   cases he
   symm
   rw [Option.getD_some, List.all_eq_false]
   exact ⟨j, by simp; omega, by simp [hp]⟩
  ·cases he
theorem axQ {b : av} (h : Small b) {out : List Int} {p : Int} (ho : out.length ≤ 1000) : Cw b out p = some (o3 b out p) := by
 unfold Cw o3
 have hp := h.pieces
 rw [HW ho, Option.bind_some]
 cases out.contains p with
 | true => rfl
 | false =>
  rw [bz, Bool.not_false, Bool.true_and]
  rw [l6 (λ i => if (!(out.contains (i : Int)) && nM b p i) = true then some false else none) b.au.length (d := true) (λ i hi => ?_) (by simp only [fP, bz]) rfl]
  ·rw [Yp]
   congr 1
   congr 1
   funext i
   cases out.contains (i : Int) <;> simp
  ·obtain ⟨_, Vl⟩ := h.each _ (nJ hi)
   simp only [dec_lt hi, bJ, cw, bH hi, Option.bind_some, HW ho, HW (l := (nth b.au i).On) (n := p) (by omega), cJ (i := i) (by omega)]
   rw [show (nth b.au i).On.contains p = nM b p i from rfl]
   cases out.contains (i : Int) with
   | true => rfl
   | false => cases nM b p i <;> rfl
theorem ax9 {b : av} (h : Small b) (p : Int) : Al b p = some ((List.range b.au.length).filterMap λ i => if nM b p i = true then some (i : Int) else none) := by
 unfold Al
 have hp := h.pieces
 rw [collect (λ i => if nM b p i = true then some (i : Int) else none) b.au.length (λ i acc hi hacc => ?_) (λ acc => by simp only [fP, bz])]
 ·rfl
 ·obtain ⟨_, Vl⟩ := h.each _ (nJ hi)
  simp only [dec_lt hi, bJ, cw, bH hi, Option.bind_some, ayi (l := (nth b.au i).On) (n := p) (by omega), cJ (i := i) (by omega)]
  rw [show (nth b.au i).On.contains p = nM b p i from rfl]
  cases nM b p i with
  | true => simp [vE (xs := acc) (ys := [(i : Int)]) (by simp; omega)]
  | false => simp
theorem axP {b : av} (h : Small b) (h5 : b.au.length ≤ 5) {out : List Int} {p : Int} (hp0 : 0 ≤ p) (P7 : p < 5) : uO b (fQ out) p = some (o3 b out p) := by
 unfold uO o3
 rw [Gq out hp0 P7, Option.bind_some]
 cases out.contains p with
 | true => rfl
 | false =>
  rw [Bool.not_false, bJ, ax9 h, Option.bind_some, axZ (p := λ n => !out.contains n) (l := (List.range b.au.length).filterMap λ i => if nM b p i = true then some (i : Int) else none) (by
   have := List.length_filterMap_le (λ i => if nM b p i = true then some (i : Int) else none) (List.range b.au.length)
   simp at this; omega) (λ x hx => ?_)]
  ·rw [Option.bind_some, Bool.true_and]
   congr 1
   rw [Bool.eq_iff_iff, Bool.not_eq_true', List.any_eq_false, List.all_eq_true]
   constructor
   ·intro hh i hi
    cases hr : nM b p i with
    | false => simp
    | true =>
     have := hh (i : Int) (List.mem_filterMap.2 ⟨i, hi, by rw [hr]; rfl⟩)
     simpa using this
   ·intro hh x hx
    obtain ⟨i, hi, hx⟩ := List.mem_filterMap.1 hx
    split at hx
    ·rename_i hr
     cases hx
     have := hh i hi
     rw [hr] at this
     simpa using this
    ·cases hx
  ·obtain ⟨i, hi, hx⟩ := List.mem_filterMap.1 hx
   have hi' : i < b.au.length := by simpa using hi
   split at hx
   ·cases hx
    unfold Am
    rw [Gq out (by omega) (by omega)]; rfl
   ·cases hx
def iA (b : av) (p : Int) : Bool := dF p 0 ((b.au.length : Int) - 1)
theorem Vn {b : av} (h : Small b) (p : Int) : sO b p = some (iA b p) := by
 unfold sO iA
 have := h.pieces
 rw [xh, dQ (by omega) (by omega)]; rfl
theorem axz {b : av} (h : Small b) (p : Int) : Cr b p = some (iA b p) := by
 unfold Cr iA
 have := h.pieces
 rw [tG, dQ (by omega) (by omega)]; rfl
theorem Cj {b : av} {p : Int} : iA b p = true ↔ 0 ≤ p ∧ p < (b.au.length : Int) := by
 simp only [iA, dF, Bool.and_eq_true, decide_eq_true_eq]
 omega
def wX (b : av) (out : List Int) (p : Int) : Option Int :=
 if iA b p = false then some 6 else if out.contains p = true then some 5 else if o3 b out p = false then some 7 else none
def jx (b : av) : List Int → List Int → Int
 | _, [] => 0
 | out, p :: r => match wX b out p with | some h => h | none => jx b (out ++ [p]) r
theorem axB {b : av} (h : Small b) {out l : List Int} (ho : out.length ≤ 100) (hl : l.length ≤ 100) : GG b out l = some (jx b out l) := by
 unfold GG
 rw [vE (by simp; omega), Option.bind_some, List.nil_append]
 have key : ∀ k, k ≤ l.length → ∀ acc : List Int, acc.length + k ≤ 400 → (br (λ (gG : ((List Int) × Int)) =>
   ai (decide (gG.2 < (l.length : Int)))
   ((idx l gG.2).bind λ HE =>
   (Cr b HE).bind λ LL =>
   ai (!LL)
   (some (.inr (.inr 6)))
   ((idx l gG.2).bind λ gK =>
   (sS gG.1 gK).bind λ gW =>
   ai gW
   (some (.inr (.inr 5)))
   ((idx l gG.2).bind λ HF =>
   (Cw b gG.1 HF).bind λ Bv =>
   ai (!Bv)
   (some (.inr (.inr 7)))
   ((idx l gG.2).bind λ gL =>
   (eH gG.1 [gL]).bind λ LN =>
   some (.inl (LN, i64 (gG.2 + 1)))))))
   (some (.inr (.inl ())))) (acc, ((l.length - k : Nat) : Int))).bind (Sum.elim (λ (_ : Unit) => some 0) (λ (q : Int) => some q)) = some (jx b acc (l.drop (l.length - k))) := by
  intro k
  induction k with
  | zero =>
   intro _ acc _
   rw [Nat.sub_zero, List.drop_length, gS (o := .inl ()) (by simp only [fP, bz])]
   rfl
  | succ k ih =>
   intro hk acc hacc
   have hi : l.length - (k + 1) < l.length := by omega
   have hd : l.drop (l.length - (k + 1)) = nth l (l.length - (k + 1)) :: l.drop (l.length - k) := by
    rw [List.drop_eq_getElem_cons hi, show l.length - (k + 1) + 1 = l.length - k by omega]
    congr 1
    have := bH hi
    rw [List.getElem?_eq_getElem hi] at this
    exact Option.some.inj this
   rw [hd]
   unfold jx wX
   have Jf := axz h (nth l (l.length - (k + 1)))
   have NB := HW (l := acc) (n := nth l (l.length - (k + 1))) (by omega)
   have Xz := axQ h (out := acc) (p := nth l (l.length - (k + 1))) (by omega)
   cases h1 : iA b (nth l (l.length - (k + 1))) with
   | false =>
    rw [gS (o := .inr 6) (by simp only [dec_lt hi, bJ, cw, bH hi, Option.bind_some, Jf, h1, Bool.not_false])]
    rfl
   | true =>
    cases h2 : acc.contains (nth l (l.length - (k + 1))) with
    | true =>
     rw [gS (o := .inr 5) (by simp only [dec_lt hi, bJ, bz, cw, bH hi, Option.bind_some, Jf, h1, NB, h2, Bool.not_true])]
     rfl
    | false =>
     cases h3 : o3 b acc (nth l (l.length - (k + 1))) with
     | false =>
      rw [gS (o := .inr 7) (by simp only [dec_lt hi, bJ, bz, cw, bH hi, Option.bind_some, Jf, h1, NB, h2, Xz, h3, Bool.not_true, Bool.not_false])]
      rfl
     | true =>
      rw [sM (s' := (acc ++ [nth l (l.length - (k + 1))], ((l.length - k : Nat) : Int))) (by
       simp only [dec_lt hi, bJ, bz, cw, bH hi, Option.bind_some, Jf, h1, NB, h2, Xz, h3, Bool.not_true, vE (xs := acc) (ys := [nth l (l.length - (k + 1))]) (by simp; omega), cJ (i := l.length - (k + 1)) (by omega), show l.length - (k + 1) + 1 = l.length - k by omega])]
      rw [ih (by omega) _ (by simp; omega)]
      rfl
 have := key l.length (Nat.le_refl _) out (by omega)
 rw [Nat.sub_self, List.drop_zero] at this
 exact this
theorem azf {b : av} (h : Small b) (h5 : b.au.length ≤ 5) {l : List Int} (hl : l.length ≤ 100) : ∀ (out : List Int), ∃ g, uU b (fQ out) l = some (g, jx b out l) ∧ (jx b out l = 0 → g = fQ (out ++ l) ∧ vL l) := by
 unfold uU
 have key : ∀ k, k ≤ l.length → ∀ acc : List Int, ∃ g, (br (λ (fK : (Int × (List Bool))) =>
   ai (decide (fK.1 < (l.length : Int)))
   ((idx l fK.1).bind λ gL =>
   (sO b gL).bind λ A4 =>
   ai (!A4)
   (some (.inr (.inr (fK.2, 6))))
   ((idx fK.2 gL).bind λ HG =>
   ai HG
   (some (.inr (.inr (fK.2, 5))))
   ((uO b fK.2 gL).bind λ tv =>
   ai (!tv)
   (some (.inr (.inr (fK.2, 7))))
   ((iQ fK.2 [gL]).bind λ LO =>
   some (.inl (i64 (fK.1 + 1), LO))))))
   (some (.inr (.inl fK.2)))) (((l.length - k : Nat) : Int), fQ acc)).bind (Sum.elim (λ (AI : (List Bool)) =>
   some (AI, 0)) (λ (q : (List Bool) × Int) => some q)) = some (g, jx b acc (l.drop (l.length - k))) ∧ (jx b acc (l.drop (l.length - k)) = 0 → g = fQ (acc ++ l.drop (l.length - k)) ∧ vL (l.drop (l.length - k))) := by
  intro k
  induction k with
  | zero =>
   intro _ acc
   refine ⟨fQ acc, ?_, λ _ => ?_⟩
   ·rw [Nat.sub_zero, List.drop_length, gS (o := .inl (fQ acc)) (by simp only [fP, bz])]
    rfl
   ·rw [Nat.sub_zero, List.drop_length, List.append_nil]
    exact ⟨rfl, λ x hx => by cases hx⟩
  | succ k ih =>
   intro hk acc
   have hi : l.length - (k + 1) < l.length := by omega
   have hd : l.drop (l.length - (k + 1)) = nth l (l.length - (k + 1)) :: l.drop (l.length - k) := by
    rw [List.drop_eq_getElem_cons hi, show l.length - (k + 1) + 1 = l.length - k by omega]
    congr 1
    have := bH hi
    rw [List.getElem?_eq_getElem hi] at this
    exact Option.some.inj this
   rw [hd]
   unfold jx wX
   have Je := Vn h (nth l (l.length - (k + 1)))
   cases h1 : iA b (nth l (l.length - (k + 1))) with
   | false =>
    rw [gS (o := .inr (fQ acc, 6)) (by simp only [dec_lt hi, bJ, cw, bH hi, Option.bind_some, Je, h1, Bool.not_false])]
    exact ⟨_, rfl, λ e => by cases e⟩
   | true =>
    obtain ⟨g0, g1⟩ := Cj.1 h1
    have g5 : nth l (l.length - (k + 1)) < 5 := by omega
    have NC := Gq acc g0 g5
    have Xy := axP h h5 (out := acc) g0 g5
    cases h2 : acc.contains (nth l (l.length - (k + 1))) with
    | true =>
     rw [gS (o := .inr (fQ acc, 5)) (by simp only [dec_lt hi, bJ, bz, cw, bH hi, Option.bind_some, Je, h1, NC, h2, Bool.not_true])]
     exact ⟨_, rfl, λ e => by cases e⟩
    | false =>
     cases h3 : o3 b acc (nth l (l.length - (k + 1))) with
     | false =>
      rw [gS (o := .inr (fQ acc, 7)) (by simp only [dec_lt hi, bJ, bz, cw, bH hi, Option.bind_some, Je, h1, NC, h2, Xy, h3, Bool.not_true, Bool.not_false])]
      exact ⟨_, rfl, λ e => by cases e⟩
     | true =>
      have e93 := aa3 (out := acc) (l := [nth l (l.length - (k + 1))]) (λ x hx => by simp at hx; subst hx; exact ⟨g0, g5⟩) (by simp)
      rw [sM (s' := (((l.length - k : Nat) : Int), fQ (acc ++ [nth l (l.length - (k + 1))]))) (by
       simp only [dec_lt hi, bJ, bz, cw, bH hi, Option.bind_some, Je, h1, NC, h2, Xy, h3, e93, Bool.not_true, cJ (i := l.length - (k + 1)) (by omega), show l.length - (k + 1) + 1 = l.length - k by omega])]
      obtain ⟨g, hg1, hg2⟩ := ih (by omega) (acc ++ [nth l (l.length - (k + 1))])
      refine ⟨g, hg1, λ e => ?_⟩
      obtain ⟨k1, k2⟩ := hg2 e
      refine ⟨by rw [k1, List.append_assoc]; rfl, λ x hx => ?_⟩
      rcases List.mem_cons.1 hx with rfl | hx
      ·exact ⟨g0, g5⟩
      ·exact k2 x hx
 intro out
 have := key l.length (Nat.le_refl _) out
 rw [Nat.sub_self, List.drop_zero] at this
 exact this
def wz (b : av) (i : Nat) : Option Int := if dF (nth b.aU i).dN 0 (b.Out.length : Int) = false then some 6 else if dF (nth b.aU i).dX 0 2 = false then some 1 else none
def zb (b : av) : Int := if 4 < b.aU.length then 2 else (dm (wz b) 0 b.aU.length).getD 0
theorem ayN {b : av} (h : Small b) : Av b = some (zb b) := by
 unfold Av zb
 have e3 : decide ((b.aU.length : Int) > 4) = decide (4 < b.aU.length) := yS (m := 4)
 have hh := h.DS
 rw [e3]
 by_cases h4 : 4 < b.aU.length
 ·simp [h4]
 simp only [h4, decide_false, bz, if_false]
 refine l6 (wz b) b.aU.length (λ i hi => ?_) (by simp only [fP, bz]) rfl
 simp only [dec_lt hi, bJ, cw, bH hi, Option.bind_some, xh, cJ (i := i) (by omega)]
 unfold wz
 cases dF (nth b.aU i).dN 0 (b.Out.length : Int) with
 | false => rfl
 | true =>
  simp only [Bool.not_true, bz, Bool.true_eq_false, if_false]
  generalize (nth b.aU i).dX = s
  by_cases h0 : s = 0
  ·subst h0; rfl
  by_cases h1 : s = 1
  ·subst h1; rfl
  by_cases h2 : s = 2
  ·subst h2; rfl
  have : dF s 0 2 = false := by
   cases hb : dF s 0 2 with
   | false => rfl
   | true =>
    simp only [dF, Bool.and_eq_true, decide_eq_true_eq] at hb
    omega
  have e0 : (s == 0) = false := by simpa using h0
  have e1 : (s == 1) = false := by simpa using h1
  have e2 : (s == 2) = false := by simpa using h2
  rw [e0, e1, e2, this]
  rfl
def qM (b : av) : Int := jx b [] b.Out
def uD (b : av) : Bool := dF b.aD 0 9999 && (jK b.af (-999) 999 && j3 b.af 3)
def de (b : av) : Int := if uD b = false then 1 else if kq b ≠ 0 then kq b else if qM b ≠ 0 then qM b else zb b
theorem ayH (b : av) : Ar b = some (if uD b = false then 1 else 0) := by
 unfold Ar uD
 rw [xh, Option.bind_some, Vo (by omega) (by omega)]
 cases dF b.aD 0 9999 with
 | false => rfl
 | true => cases jK b.af (-999) 999 && j3 b.af 3 <;> rfl
theorem abx {b : av} (h : kq b = 0) : 1 ≤ b.au.length ∧ b.au.length ≤ 5 := by
 unfold kq at h
 split at h
 ·cases h
 ·rename_i hb
  simp only [dF, Bool.and_eq_false_iff, decide_eq_false_iff_not, not_or, Decidable.not_not] at hb
  omega
theorem qI {a : Int} (h : a ≠ 0) : (a != 0) = true := by simpa using h
theorem ayL {b : av} (h : Small b) (h5 : b.au.length ≤ 5) : Au b = some (qM b) := by
 unfold Au
 have := h.out
 obtain ⟨g, hg, _⟩ := azf h h5 (l := b.Out) (by omega) []
 rw [Yu] at hg
 rw [hg]; rfl
theorem TA {b : av} (h : Small b) : lK b = some (de b) := by
 unfold lK de
 rw [show (⟨b.aD, ⟨b.af.ao, b.af.ax⟩, b.au, b.Out, b.aU⟩ : av) = b from rfl, ayH, Option.bind_some]
 cases uD b with
 | false => rfl
 | true =>
  rw [if_neg (by decide), ayJ h]
  by_cases hp : kq b = 0
  ·obtain ⟨_, h5⟩ := abx hp
   rw [ayL h h5, ayN h]
   by_cases ho : qM b = 0
   ·by_cases hh : zb b = 0
    ·simp [hp, ho, hh]
    ·simp [hp, ho, qI hh]
   ·simp [hp, ho, qI ho]
  ·simp [hp, qI hp]
theorem ay5 {b : av} (h : Small b) : GQ b = some (de b) := by
 unfold GQ de uD
 rw [tG, Option.bind_some, aaM, axJ h, axB h (by simp) (by have := h.out; omega)]
 cases dF b.aD 0 9999 with
 | false => rfl
 | true =>
  cases hr : jK b.af (-999) 999 with
  | false => rfl
  | true =>
   have hw : decide (i64 (b.af.ax - b.af.ao) ≥ 3) = !j3 b.af 3 := by
    rw [acN (w := 3) (by omega) (by omega) hr]
    unfold j3
    by_cases hx : b.af.ax - b.af.ao < 3
    ·simp [hx]
    ·simp [hx]; omega
   simp only [Bool.not_true, bz, Option.bind_some, hw, Bool.true_and]
   cases j3 b.af 3 with
   | false => rfl
   | true =>
    simp only [Bool.not_true, bz, Bool.true_eq_false, if_false]
    by_cases hp : kq b = 0
    ·by_cases ho : qM b = 0
     ·have ho' : jx b [] b.Out = 0 := ho
      have e3 : decide ((b.aU.length : Int) > 4) = decide (4 < b.aU.length) := yS (m := 4)
      have hh := h.DS
      simp only [hp, ho, ho', bne_self_eq_false, bz, ne_eq, not_true_eq_false, if_false, e3]
      unfold zb
      by_cases h4 : 4 < b.aU.length
      ·simp [h4]
      simp only [h4, decide_false, bz, if_false]
      refine l6 (wz b) b.aU.length (λ i hi => ?_) (by simp only [fP, bz]) rfl
      simp only [dec_lt hi, bJ, cw, bH hi, Option.bind_some, tG, cJ (i := i) (by omega)]
      unfold wz
      cases dF (nth b.aU i).dN 0 (b.Out.length : Int) with
      | false => rfl
      | true => cases dF (nth b.aU i).dX 0 2 <;> rfl
     ·have ho' : jx b [] b.Out ≠ 0 := ho
      simp only [hp, bne_self_eq_false, bz, ne_eq, not_true_eq_false, if_false, qI ho', bJ]
      rw [if_pos ho]
      rfl
    ·simp [hp, qI hp]
end Go.Proofs.YtabamagholjdcaaGreatDoor
namespace Go.Proofs.YtabamagholjdcaaGreatDoor
open Go.Lg Go.Proofs
set_option maxRecDepth 10000
structure aeu (b : av) (i : Nat) : Prop where
 arm : -9 ≤ (nth b.au i).dg ∧ (nth b.au i).dg ≤ 9
 weight : 1 ≤ (nth b.au i).Weight.ao ∧ (nth b.au i).Weight.ao ≤ (nth b.au i).Weight.ax ∧ (nth b.au i).Weight.ax ≤ 99 ∧ (nth b.au i).Weight.ax - (nth b.au i).Weight.ao < 3
 on : tX (nth b.au i).On (i : Int) = 0
structure Valid (b : av) : Prop where
 small : Small b
 limit : 0 ≤ b.aD ∧ b.aD ≤ 9999
 fq : -999 ≤ b.af.ao ∧ b.af.ao ≤ b.af.ax ∧ b.af.ax ≤ 999 ∧ b.af.ax - b.af.ao < 3
 n1 : 1 ≤ b.au.length
 n5 : b.au.length ≤ 5
 each : ∀ i, i < b.au.length → aeu b i
 out : jx b [] b.Out = 0
 DS : b.aU.length ≤ 4
 akL : ∀ x ∈ b.aU, 0 ≤ x.dN ∧ x.dN ≤ (b.Out.length : Int) ∧ 0 ≤ x.dX ∧ x.dX ≤ 2
theorem Md {n a c : Int} : dF n a c = true ↔ a ≤ n ∧ n ≤ c := by simp [dF]
theorem Ml {x : Reach} {a c : Int} : jK x a c = true ↔ a ≤ x.ao ∧ x.ao ≤ x.ax ∧ x.ax ≤ c := by simp [jK]
theorem Mn {x : Reach} {w : Int} : j3 x w = true ↔ x.ax - x.ao < w := by simp [j3]
theorem Og {e : Nat → Option Int} {n : Nat} (hne : ∀ i, e i ≠ some 0) (h : (dm e 0 n).getD 0 = 0) : ∀ i, i < n → e i = none := by
 cases hf : dm e 0 n with
 | none => rw [tF] at hf; exact λ i hi => hf i (Nat.zero_le _) (by omega)
 | some o =>
  rw [hf] at h
  obtain ⟨j, _, _, he, _⟩ := vZ hf
  have : o = 0 := h
  subst this
  exact absurd he (hne j)
theorem abw {b : av} (i : Nat) : sZ b i ≠ some 0 := by
 unfold sZ
 split
 ·intro e; cases e
 ·split
  ·intro e; cases e
  ·split
   ·intro e; cases e
   ·split
    ·rename_i h; intro e; injection e with e; exact h e
    ·intro e; cases e
theorem akM {b : av} (i : Nat) : wz b i ≠ some 0 := by
 unfold wz
 split
 ·intro e; cases e
 ·split
  ·intro e; cases e
  ·intro e; cases e
theorem AT {b : av} (hs : Small b) (h : de b = 0) : Valid b := by
 unfold de at h
 split at h
 ·cases h
 rename_i h1
 have h1 : uD b = true := by simpa using h1
 split at h
 ·rename_i h2; exact absurd h h2
 rename_i h2
 have h2 : kq b = 0 := by simpa using h2
 split at h
 ·rename_i h3; exact absurd h h3
 rename_i h3
 have h3 : qM b = 0 := by simpa using h3
 unfold uD at h1
 simp only [Bool.and_eq_true, Md, Ml, Mn] at h1
 obtain ⟨g1, g2, g3⟩ := h1
 obtain ⟨n1, n5⟩ := abx h2
 have hp : ∀ i, i < b.au.length → sZ b i = none := by
  unfold kq at h2
  split at h2
  ·cases h2
  ·exact Og abw h2
 unfold zb at h
 split at h
 ·cases h
 rename_i h4
 have hh := Og akM h
 refine ⟨hs, g1, ⟨g2.1, g2.2.1, g2.2.2, g3⟩, n1, n5, λ i hi => ?_, h3, by omega, λ x hx => ?_⟩
 ·have := hp i hi
  unfold sZ at this
  split at this
  ·cases this
  split at this
  ·cases this
  split at this
  ·cases this
  rename_i hb
  have hb : (dF (nth b.au i).dg (-9) 9 && (jK (nth b.au i).Weight 1 99 && j3 (nth b.au i).Weight 3)) = true := by simpa using hb
  simp only [Bool.and_eq_true, Md, Ml, Mn] at hb
  split at this
  ·cases this
  rename_i hc
  exact ⟨hb.1, ⟨hb.2.1.1, hb.2.1.2.1, hb.2.1.2.2, hb.2.2⟩, by simpa using hc⟩
 ·obtain ⟨i, hi, rfl⟩ := KE hx
  have := hh i hi
  unfold wz at this
  split at this
  ·cases this
  rename_i k1
  split at this
  ·cases this
  rename_i k2
  have k1 : dF (nth b.aU i).dN 0 (b.Out.length : Int) = true := by simpa using k1
  have k2 : dF (nth b.aU i).dX 0 2 = true := by simpa using k2
  rw [Md] at k1 k2
  exact ⟨k1.1, k1.2, k2.1, k2.2⟩
theorem axj {b : av} {out : List Int} {p : Int} {r : List Int} : jx b out (p :: r) = 0 ↔ iA b p = true ∧ out.contains p = false ∧ o3 b out p = true ∧ jx b (out ++ [p]) r = 0 := by
 conv => lhs; unfold jx wX
 cases iA b p <;> cases out.contains p <;> cases o3 b out p <;> simp
theorem aaE {b : av} : ∀ {l out : List Int}, jx b out l = 0 → ∀ x ∈ l, iA b x = true
 | [], _, _, x, hx => by cases hx
 | p :: r, out, h, x, hx => by
  obtain ⟨h1, _, _, h4⟩ := axj.1 h
  rcases List.mem_cons.1 hx with rfl | hx
  ·exact h1
  ·exact aaE h4 x hx
theorem awi {b : av} (h5 : b.au.length ≤ 5) {l : List Int} (h : ∀ x ∈ l, iA b x = true) : vL l := λ x hx => by
 have := Cj.1 (h x hx)
 omega
theorem Valid.in5 {b : av} (h : Valid b) : vL b.Out := awi h.n5 (aaE h.out)
def lM (b : av) (bT : Int) (ws out : List Int) : Nat → Int
 | 0 => bT
 | i + 1 => if out.contains (i : Int) then lM b bT ws out i else lM b bT ws out i + (nth b.au i).dg * nth ws i
def nH (b : av) (bT : Int) (ws out : List Int) : Int := lM b bT ws out b.au.length
structure vI (b : av) (bT : Int) (ws : List Int) : Prop where
 bT : -999 ≤ bT ∧ bT ≤ 999
 len : b.au.length ≤ ws.length
 each : ∀ i, i < b.au.length → 0 ≤ nth ws i ∧ nth ws i ≤ 99
theorem abb {a w : Int} (h1 : -9 ≤ a) (h2 : a ≤ 9) (h3 : 0 ≤ w) (h4 : w ≤ 99) : -891 ≤ a * w ∧ a * w ≤ 891 := by
 constructor
 ·have : -9 * w ≤ a * w := Int.mul_le_mul_of_nonneg_right h1 h3
  omega
 ·have : a * w ≤ 9 * w := Int.mul_le_mul_of_nonneg_right h2 h3
  omega
theorem TG {b : av} (hv : Valid b) {bT : Int} {ws out : List Int} (hf : vI b bT ws) : ∀ i, i ≤ b.au.length → -(999 + 891 * (i : Int)) ≤ lM b bT ws out i ∧ lM b bT ws out i ≤ 999 + 891 * (i : Int)
 | 0, _ => by have := hf.bT; simp only [lM]; omega
 | i + 1, hi => by
  have ih := TG hv hf (out := out) i (by omega)
  have hp := (hv.each i (by omega)).arm
  have hw := hf.each i (by omega)
  have hm := abb hp.1 hp.2 hw.1 hw.2
  unfold lM
  split
  ·push_cast; omega
  ·push_cast; omega
theorem azr {b : av} (hv : Valid b) {bT : Int} {ws out : List Int} (hf : vI b bT ws) : -6000 ≤ nH b bT ws out ∧ nH b bT ws out ≤ 6000 := by
 have := TG hv hf (out := out) _ (Nat.le_refl _)
 have := hv.n5
 unfold nH
 omega
theorem axw {b : av} (hv : Valid b) {bT : Int} {ws out : List Int} (hf : vI b bT ws) : pA b ⟨bT, ws⟩ (fQ out) = some (nH b bT ws out) := by
 unfold pA
 have h5 := hv.n5
 refine (jf (o := nH b bT ws out) (wZ (λ i => (lM b bT ws out i, (i : Int))) b.au.length (λ i hi => ?_) ?_ : br _ (bT, (0 : Int)) = _)).trans rfl
 ·have hp := (hv.each i hi).arm
  have hw := hf.each i hi
  have hm := abb hp.1 hp.2 hw.1 hw.2
  have hb := TG hv hf (out := out) i (by omega)
  have hl := hf.len
  simp only [dec_lt hi, bJ, cw, bH hi, bH (show i < ws.length by omega), Option.bind_some, Gq out (p := (i : Int)) (by omega) (by omega), cJ (i := i) (by omega), dQ (z := (nth b.au i).dg * nth ws i) (by omega) (by omega), dQ (z := lM b bT ws out i + (nth b.au i).dg * nth ws i) (by omega) (by omega)]
  conv => rhs; unfold lM
  cases out.contains (i : Int) <;> rfl
 ·simp only [fP, bz]; rfl
theorem aa8 {b : av} {bT : Int} {ws ws' out out' : List Int} : ∀ n, (∀ i, i < n → nth ws i = nth ws' i) → (∀ i : Nat, i < n → out.contains (i : Int) = out'.contains (i : Int)) → lM b bT ws out n = lM b bT ws' out' n
 | 0, _, _ => rfl
 | n + 1, h1, h2 => by
  unfold lM
  rw [h1 n (by omega), h2 n (by omega), aa8 n (λ i hi => h1 i (by omega)) (λ i hi => h2 i (by omega))]
def AM (b : av) (m : Int) : Bool := decide (m > b.aD) || decide (m < -b.aD)
def Df (m : Int) : Int := if m > 0 then 2 else if m < 0 then 1 else 0
theorem azo {m : Int} (h1 : -1000000 ≤ m) (h2 : m ≤ 1000000) : kR m [i64 (0 - m)] = if -m > m then -m else m := by
 rw [dQ (by omega) (by omega), show (0 - m) = -m by omega]
 rfl
theorem axv {b : av} {m : Int} (h1 : -1000000 ≤ m) (h2 : m ≤ 1000000) : uL b m = some (AM b m) := by
 unfold uL AM
 rw [azo h1 h2]
 congr 1
 by_cases h : -m > m
 ·rw [if_pos h]
  by_cases h3 : -m > b.aD
  ·simp [h3, show m < -b.aD by omega]
  ·simp [h3, show ¬ m < -b.aD by omega, show ¬ m > b.aD by omega]
 ·rw [if_neg h]
  by_cases h3 : m > b.aD
  ·simp [h3]
  ·simp [h3, show ¬ m < -b.aD by omega]
theorem ax6 (m : Int) : Ak m = some (Df m) := by
 unfold Ak Df
 by_cases h1 : m > 0
 ·simp [h1]
 ·by_cases h2 : m < 0 <;> simp [h1, h2]
def mo (b : av) (bT : Int) (ws : List Int) (n : Nat) : Int := nH b bT ws (b.Out.take n)
def lR (b : av) (bT : Int) (ws : List Int) : Bool := ((List.range (b.Out.length + 1)).all λ n => !AM b (mo b bT ws n)) && b.aU.all λ x => Df (mo b bT ws x.dN.toNat) == x.dX
theorem awj {l : List Int} (h : vL l) (n : Nat) : vL (l.take n) := λ x hx => h x (List.mem_of_mem_take hx)
theorem axM {b : av} (hv : Valid b) {bT : Int} {ws : List Int} (hf : vI b bT ws) : xg b ⟨bT, ws⟩ = some (lR b bT ws) := by
 unfold xg
 have ho := hv.small.out
 have hhl := hv.DS
 rw [cJ (i := b.Out.length) (by omega)]
 rw [l6 (λ n => if (AM b (mo b bT ws n) || b.aU.any λ x => x.dN == (n : Int) && x.dX != Df (mo b bT ws n)) = true then some false else none) (b.Out.length + 1) (d := true) (λ n hn => ?_) (by simp only [fP, bz]) rfl]
 ·rw [Yp]
  congr 1
  unfold lR
  rw [Bool.eq_iff_iff]
  simp only [List.all_eq_true, List.mem_range, Bool.and_eq_true, Bool.not_eq_true', Bool.or_eq_false_iff, List.any_eq_false]
  constructor
  ·intro h
   refine ⟨λ n hn => (h n hn).1, λ x hx => ?_⟩
   obtain ⟨k1, k2, _⟩ := hv.akL x hx
   have := (h x.dN.toNat (by omega)).2 x hx
   have e : ((x.dN.toNat : Nat) : Int) = x.dN := Int.toNat_of_nonneg k1
   rw [e] at this
   rw [beq_iff_eq]
   exact Classical.byContradiction λ hne => this ⟨by simp, by simpa using λ hx => hne hx.symm⟩
  ·rintro ⟨h1, h2⟩ n hn
   refine ⟨h1 n hn, λ x hx => ?_⟩
   have := h2 x hx
   by_cases SN : x.dN = (n : Int)
   ·rw [SN, Int.toNat_natCast, beq_iff_eq] at this
    simp only [SN, this, bne_self_eq_false, Bool.false_eq_true, and_false, not_false_eq_true]
   ·simp [SN]
 ·have hb := azr hv hf (out := b.Out.take n)
  simp only [dec_lt hn, bJ, Nv (show n ≤ b.Out.length by omega), Option.bind_some, azd (awj hv.in5 n) (by simp; omega), axw hv hf, axv (b := b) (m := nH b bT ws (b.Out.take n)) (by omega) (by omega), cJ (i := n) (by omega),
   ax3 (l := b.aU) (f := λ y => xo y (n : Int) (nH b bT ws (b.Out.take n))) (p := λ x => x.dN == (n : Int) && x.dX != Df (mo b bT ws n)) (by omega) (λ x _ => by
    unfold xo mo
    rw [ax6]
    cases x.dN == (n : Int) <;> rfl)]
  rw [show AM b (nH b bT ws (b.Out.take n)) = AM b (mo b bT ws n) from rfl]
  cases AM b (mo b bT ws n) with
  | true => rfl
  | false =>
   cases b.aU.any λ x => x.dN == (n : Int) && x.dX != Df (mo b bT ws n) <;> rfl
theorem Mi {ws : List Int} {i : Nat} (h : i < ws.length) (h5 : ws.length ≤ 5) : nth (eY [0, 0, 0, 0, 0] ws) i = nth ws i := by
 unfold eY nth
 rw [List.getD_eq_getElem?_getD, List.getD_eq_getElem?_getD, List.getElem?_append_left (by simp; omega), List.getElem?_take_of_lt (by simp; omega)]
theorem HR {ws : List Int} (h5 : ws.length ≤ 5) : (eY [0, 0, 0, 0, 0] ws).length = 5 := by
 unfold eY
 simp only [List.length_append, List.length_take, List.length_drop, List.length_cons, List.length_nil]
 omega
theorem agl {b : av} (hv : Valid b) {bT : Int} {ws : List Int} (hl : ws.length = b.au.length) (hf : vI b bT ws) : vI b bT (eY [0, 0, 0, 0, 0] ws) := by
 have := hv.n5
 refine ⟨hf.bT, by rw [HR (by omega)]; omega, λ i hi => ?_⟩
 rw [Mi (by omega) (by omega)]
 exact hf.each i hi
theorem azs {b : av} (hv : Valid b) {bT : Int} {ws out : List Int} (hl : ws.length = b.au.length) : nH b bT (eY [0, 0, 0, 0, 0] ws) out = nH b bT ws out := by
 have := hv.n5
 exact aa8 _ (λ i hi => Mi (by omega) (by omega)) (λ _ _ => rfl)
theorem aAU {b : av} (hv : Valid b) {bT : Int} {ws : List Int} (hl : ws.length = b.au.length) : lR b bT (eY [0, 0, 0, 0, 0] ws) = lR b bT ws := by
 unfold lR mo
 simp only [azs hv hl]
end Go.Proofs.YtabamagholjdcaaGreatDoor
namespace Go.Proofs.YtabamagholjdcaaGreatDoor
open Go.Lg Go.Proofs
set_option maxRecDepth 10000
set_option maxRecDepth 1000000 in
theorem ayZ (b : av) : CN b = some (!yU b && (de b == 0)) := by
 unfold CN
 rw [ayB, Option.bind_some]
 cases hg : yU b with
 | true => rfl
 | false => rw [ay5 (Yt hg)]; rfl
end Go.Proofs.YtabamagholjdcaaGreatDoor
namespace Go.Proofs.YtabamagholjdcaaGreatDoor
open Go.Lg Go.Proofs
set_option maxRecDepth 10000
def lu {α S : Type} (ys : α → S → Option (S × Bool)) : List α → S → Option (S × Bool)
 | [], s => some (s, true)
 | a :: l, s => (ys a s).bind λ r => if r.2 = true then lu ys l r.1 else some (r.1, false)
theorem Yq {α S : Type} (ys : α → S → Option (S × Bool)) : ∀ (l m : List α) (s : S), lu ys (l ++ m) s = (lu ys l s).bind λ r => if r.2 = true then lu ys m r.1 else some (r.1, false)
 | [], _, _ => by simp [lu]
 | a :: l, m, s => by
  simp only [List.cons_append, lu]
  cases ys a s with
  | none => rfl
  | some r =>
   simp only [Option.bind_some]
   cases hr : r.2 with
   | true => simp only [if_true]; exact Yq ys l m r.1
   | false => simp
theorem aaI {α S X E : Type} {ys : α → S → Option (S × Bool)} {body : S × X → Option ((S × X) ⊕ (S ⊕ E))} (g : S → E) (x : Nat → X) (seg : Nat → List α) (n : Nat)
  (h : ∀ j s r, j < n → lu ys (seg j) s = some r → body (s, x j) = some (if r.2 = true then .inl (r.1, x (j + 1)) else .inr (.inr (g r.1)))) (hn : ∀ s, body (s, x n) = some (.inr (.inl s))) {s : S} {r : S × Bool}
  (hr : lu ys ((List.range n).flatMap seg) s = some r) : br body (s, x 0) = some (if r.2 = true then .inl r.1 else .inr (g r.1)) := by
 have key : ∀ k, k ≤ n → ∀ s, lu ys ((List.range' (n - k) k).flatMap seg) s = some r → br body (s, x (n - k)) = some (if r.2 = true then .inl r.1 else .inr (g r.1)) := by
  intro k
  induction k with
  | zero =>
   intro _ s hr
   simp only [List.range'_zero, List.flatMap_nil, lu, Option.some.injEq] at hr
   subst hr
   exact gS (hn s)
  | succ k ih =>
   intro hk s hr
   have e : n - k = n - (k + 1) + 1 := by omega
   rw [List.range'_succ, List.flatMap_cons, Yq] at hr
   obtain ⟨q, hq, hr⟩ := aj hr
   have hb := h (n - (k + 1)) s q (by omega) hq
   split at hr
   ·rename_i h2
    rw [if_pos h2] at hb
    rw [sM hb, ← e]
    exact ih (by omega) _ (by rw [e]; exact hr)
   ·rename_i h2
    rw [if_neg h2] at hb
    cases hr
    rw [gS hb]
    simp
 have := key n (Nat.le_refl n) s (by rw [Nat.sub_self, ← List.range_eq_range']; exact hr)
 rwa [Nat.sub_self] at this
def gE (x : Reach) : List Int := (List.range (x.ax + 1 - x.ao).toNat).map λ (j : Nat) => x.ao + (j : Int)
theorem DV {x : Reach} {n : Int} : n ∈ gE x ↔ x.ao ≤ n ∧ n ≤ x.ax := by
 simp only [gE, List.mem_map, List.mem_range]
 constructor
 ·rintro ⟨j, hj, rfl⟩; omega
 ·intro h; exact ⟨(n - x.ao).toNat, by omega, by omega⟩
theorem abN {x : Reach} (h : x.ax - x.ao < 3) : (gE x).length ≤ 3 := by simp [gE]; omega
def iV (b : av) : Nat → Nat → List (List Int)
 | 0, _ => [[]]
 | j + 1, i => (gE (nth b.au i).Weight).flatMap λ n => (iV b j (i + 1)).map (n :: ·)
def s5 (b : av) : Nat → List (List Int)
 | 0 => [[]]
 | i + 1 => (s5 b i).flatMap λ a => (gE (nth b.au i).Weight).map λ n => a ++ [n]
def n7 (b : av) : List (List Int) := iV b b.au.length 0
theorem abC (b : av) : ∀ j i, (s5 b i).flatMap (λ a => (iV b j i).map (a ++ ·)) = s5 b (i + j)
 | 0, i => by simp [iV]
 | j + 1, i => by
  rw [show i + (j + 1) = i + 1 + j by omega, ← abC b j (i + 1)]
  simp only [s5, iV, List.map_flatMap, List.flatMap_assoc, List.map_map, List.flatMap_map]
  congr 1
  funext a
  congr 1
  funext n
  congr 1
  funext l
  simp
theorem aAp (b : av) : s5 b b.au.length = n7 b := by
 have := abC b b.au.length 0
 rw [Nat.zero_add] at this
 rw [← this]
 simp [s5, n7]
theorem ab6 (b : av) : ∀ j i l, l ∈ iV b j i → l.length = j ∧ ∀ k, k < j → (nth b.au (i + k)).Weight.ao ≤ nth l k ∧ nth l k ≤ (nth b.au (i + k)).Weight.ax
 | 0, _, l, h => by simp [iV] at h; subst h; exact ⟨rfl, λ k hk => by omega⟩
 | j + 1, i, l, h => by
  simp only [iV, List.mem_flatMap, List.mem_map] at h
  obtain ⟨n, hn, m, hm, rfl⟩ := h
  obtain ⟨h1, h2⟩ := ab6 b j (i + 1) m hm
  refine ⟨by simp [h1], λ k hk => ?_⟩
  cases k with
  | zero => exact DV.1 hn
  | succ k =>
   have := h2 k (by omega)
   rw [show i + 1 + k = i + (k + 1) by omega] at this
   exact this
theorem Wt {b : av} {l : List Int} (h : l ∈ n7 b) : l.length = b.au.length ∧ ∀ k, k < b.au.length → (nth b.au k).Weight.ao ≤ nth l k ∧ nth l k ≤ (nth b.au k).Weight.ax := by
 have := ab6 b b.au.length 0 l h
 simpa using this
def bU (b : av) : List gM := (gE b.af).flatMap λ n => ((n7 b).filter (lR b n)).map λ w => ⟨n, w⟩
abbrev Z5 : List Int := [0, 0, 0, 0, 0]
def o4 (c : gM) : bn := ⟨c.af, eY Z5 c.eX⟩
theorem aA3 {pre : List Int} (h : pre.length < 5) (n : Int) : (eY Z5 pre).set pre.length n = eY Z5 (pre ++ [n]) ∧ ∀ m : Int, (eY Z5 (pre ++ [m])).set pre.length n = eY Z5 (pre ++ [n]) := by
 match pre, h with
 | [], _ => exact ⟨rfl, λ _ => rfl⟩
 | [_], _ => exact ⟨rfl, λ _ => rfl⟩
 | [_, _], _ => exact ⟨rfl, λ _ => rfl⟩
 | [_, _, _], _ => exact ⟨rfl, λ _ => rfl⟩
 | [_, _, _, _], _ => exact ⟨rfl, λ _ => rfl⟩
def Iy (l : List Int) : Prop := ∀ i, i < l.length → 0 ≤ nth l i ∧ nth l i ≤ 99
theorem awl {l : List Int} {n : Int} (h : Iy l) (h0 : 0 ≤ n) (h9 : n ≤ 99) : Iy (l ++ [n]) := λ i hi => by
 simp only [List.length_append, List.length_cons, List.length_nil] at hi
 by_cases hl : i < l.length
 ·rw [show nth (l ++ [n]) i = nth l i by unfold nth; rw [List.getD_eq_getElem?_getD, List.getD_eq_getElem?_getD, List.getElem?_append_left hl]]
  exact h i hl
 ·rw [show nth (l ++ [n]) i = n by unfold nth; rw [List.getD_eq_getElem?_getD, List.getElem?_append_right (by omega), show i - l.length = 0 by omega]; rfl]
  exact ⟨h0, h9⟩
theorem aiA {b : av} {bT : Int} {w : List Int} (hb : -999 ≤ bT ∧ bT ≤ 999) (hl : w.length = b.au.length) (h : Iy w) : vI b bT w := ⟨hb, by omega, λ i hi => h i (by omega)⟩
theorem aaR {b : av} (hv : Valid b) {S : Type} (ys : bn → S → Option (S × Bool)) {bT : Int} (hb : -999 ≤ bT ∧ bT ≤ 999) : ∀ (j k : Nat) (pre : List Int) (s : S) (r : S × Bool), pre.length + j = b.au.length → j < k → Iy pre →
  lu ys ((((iV b j pre.length).map (pre ++ ·)).filter (lR b bT)).map λ w => o4 ⟨bT, w⟩) s = some r → qD ys k ⟨bT, eY Z5 pre⟩ (pre.length : Int) b s = some r
 | 0, 0, _, _, _, _, hk, _, _ => by omega
 | 0, k + 1, pre, s, r, hl, _, hin, hr => by
  rw [Nat.add_zero] at hl
  unfold qD
  have hf := aiA hb hl hin
  rw [show ((pre.length : Int) == (b.au.length : Int)) = true by rw [hl]; simp, bJ, axM hv (agl hv hl hf), aAU hv hl, Option.bind_some]
  simp only [iV, List.map_cons, List.map_nil, List.append_nil] at hr
  cases hs : lR b bT pre with
  | true =>
   simp only [List.filter_cons, hs, if_true, List.filter_nil, List.map_cons, List.map_nil, lu] at hr
   obtain ⟨q, hq, hr⟩ := aj hr
   rw [show ys ⟨bT, eY Z5 pre⟩ s = some q from hq]
   simp only [Bool.not_true, bz, Option.bind_some]
   split at hr
   ·rename_i h2; cases hr; rw [h2]
   ·rename_i h2; cases hr; simp at h2; rw [h2]
  | false =>
   simp [List.filter_cons, hs, lu] at hr
   subst hr
   rfl
 | j + 1, 0, _, _, _, _, hk, _, _ => by omega
 | j + 1, k + 1, pre, s, r, hl, hk, hin, hr => by
  unfold qD
  have h5 := hv.n5
  have hw := (hv.each pre.length (by omega)).weight
  rw [show ((pre.length : Int) == (b.au.length : Int)) = false by simp; omega, bz, cw, bH (by omega), Option.bind_some]
  generalize hX : (nth b.au pre.length).Weight = X at hw
  have e0 : (X.ao, eY Z5 pre) = (λ q : Nat => (X.ao + (q : Int), if q = 0 then eY Z5 pre else eY Z5 (pre ++ [X.ao + ((q - 1 : Nat) : Int)]))) 0 := by simp
  rw [e0]
  refine (jf (aaI (ys := ys) (E := S × Bool) (λ s => (s, false)) (λ q : Nat => (X.ao + (q : Int), if q = 0 then eY Z5 pre else eY Z5 (pre ++ [X.ao + ((q - 1 : Nat) : Int)])))
    (λ q => (((iV b j (pre.length + 1)).map ((pre ++ [X.ao + (q : Int)]) ++ ·)).filter (lR b bT)).map λ w => o4 ⟨bT, w⟩) (X.ax + 1 - X.ao).toNat (λ q s r hq hr => ?_) (λ s => ?_) (s := s) (r := r) ?_)).trans ?_
  rotate_right
  ·cases h2 : r.2 with
   | true => simp only [if_true, Sum.elim_inl]; rw [← h2]
   | false => simp only [Bool.false_eq_true, if_false, Sum.elim_inr]; rw [← h2]
  ·have zu : (if q = 0 then eY Z5 pre else eY Z5 (pre ++ [X.ao + ((q - 1 : Nat) : Int)])).set pre.length (X.ao + (q : Int)) = eY Z5 (pre ++ [X.ao + (q : Int)]) := by
    have hs := aA3 (pre := pre) (by omega) (X.ao + (q : Int))
    split
    ·exact hs.1
    ·exact hs.2 _
   have hlen : (if q = 0 then eY Z5 pre else eY Z5 (pre ++ [X.ao + ((q - 1 : Nat) : Int)])).length = 5 := by
    split
    ·exact HR (by omega)
    ·exact HR (by simp; omega)
   have ih := aaR hv ys hb j k (pre ++ [X.ao + (q : Int)]) s r (by simp; omega) (by omega) (awl hin (by omega) (by omega)) (by simpa using hr)
   simp only [List.length_append, List.length_cons, List.length_nil, Nat.zero_add] at ih
   simp only [show decide (X.ao + (q : Int) ≤ X.ax) = true by simp; omega, bJ, cw, Int.toNat_natCast, cJ (i := pre.length) (by omega), zu]
   rw [bH (by rw [hlen]; omega), Option.bind_some, ih, Option.bind_some]
   have e1 : i64 (X.ao + (q : Int) + 1) = X.ao + ((q + 1 : Nat) : Int) := by rw [dQ (by omega) (by omega)]; omega
   cases r.2 with
   | true => simp [e1, bz]
   | false => simp [bJ]
  ·simp only [show decide (X.ao + (((X.ax + 1 - X.ao).toNat : Nat) : Int) ≤ X.ax) = false by simp; omega, bz]
  ·rw [← hr]
   congr 1
   simp only [iV, hX, gE, List.flatMap_map, List.map_flatMap, List.filter_flatMap, List.map_map]
   congr 1
   funext q
   congr 2
   congr 1
   funext l
   simp
theorem Tk {b : av} (hv : Valid b) {S : Type} (ys : bn → S → Option (S × Bool)) {s : S} {r : S × Bool} (hr : lu ys ((bU b).map o4) s = some r) : oI ys b s = some r.1 := by
 unfold oI
 have h5 := hv.n5
 have hw := hv.fq
 generalize hX : b.af = X at hw
 have e0 : X.ao = (λ q : Nat => X.ao + (q : Int)) 0 := by simp
 rw [e0]
 refine (jf (aaI (ys := ys) (E := S) (λ s => s) (λ q : Nat => X.ao + (q : Int)) (λ q => ((n7 b).filter (lR b (X.ao + (q : Int)))).map λ w => o4 ⟨X.ao + (q : Int), w⟩) (X.ax + 1 - X.ao).toNat (λ q s r hq hr => ?_) (λ s => ?_) (s := s) (r := r) ?_)).trans ?_
 rotate_right
 ·cases h2 : r.2 with
  | true => simp
  | false => simp
 ·have h := aaR hv ys (bT := X.ao + (q : Int)) (by omega) b.au.length 9 [] s r (by simp) (by omega) (λ i hi => by simp at hi) (by simpa [n7] using hr)
  have h' : qD ys 9 ⟨X.ao + (q : Int), [0, 0, 0, 0, 0]⟩ 0 b s = some r := h
  have e1 : i64 (X.ao + (q : Int) + 1) = X.ao + ((q + 1 : Nat) : Int) := by rw [dQ (by omega) (by omega)]; omega
  simp only [show decide (X.ao + (q : Int) ≤ X.ax) = true by simp; omega, bJ, h', Option.bind_some, e1]
  cases r.2 with
  | true => simp [bz]
  | false => simp [bJ]
 ·simp only [show decide (X.ao + (((X.ax + 1 - X.ao).toNat : Nat) : Int) ≤ X.ax) = false by simp; omega, bz]
 ·rw [← hr]
  congr 1
  simp only [bU, hX, gE, List.flatMap_map, List.map_flatMap, List.map_map]
  rfl
theorem abB {b : av} (hv : Valid b) : ∀ i, i ≤ b.au.length → (s5 b i).length ≤ 3 ^ i
 | 0, _ => by simp [s5]
 | i + 1, hi => by
  have ih := abB hv i (by omega)
  have hr := abN (hv.each i (by omega)).weight.2.2.2
  have key : ∀ l : List (List Int), (l.flatMap λ a => (gE (nth b.au i).Weight).map λ n => a ++ [n]).length ≤ l.length * 3 := by
   intro l
   induction l with
   | nil => simp
   | cons a l ih => simp only [List.flatMap_cons, List.length_append, List.length_map, List.length_cons]; omega
  have := key (s5 b i)
  simp only [s5]
  rw [Nat.pow_succ]
  omega
theorem aAo {i : Nat} (h : i ≤ 5) : 3 ^ i ≤ 243 := by
 match i, h with
 | 0, _ => decide
 | 1, _ => decide
 | 2, _ => decide
 | 3, _ => decide
 | 4, _ => decide
 | 5, _ => decide
end Go.Proofs.YtabamagholjdcaaGreatDoor
namespace Go.Proofs.YtabamagholjdcaaGreatDoor
open Go.Lg Go.Proofs
set_option maxRecDepth 10000
theorem Of {α S O : Type} {body : α → S → Option (S ⊕ O)} (I : Nat → S → Prop) (f : α → S → S) : ∀ (l : List α) (k : Nat) (s : S), I k s → (∀ j s a, j < k + l.length → I j s → a ∈ l → body a s = some (.inl (f a s)) ∧ I (j + 1) (f a s)) →
  lu (dh body) l (.inl s) = some (.inl (l.foldl (λ s a => f a s) s), true)
 | [], _, _, _, _ => rfl
 | a :: l, k, s, hI, h => by
  obtain ⟨h1, h2⟩ := h k s a (by simp) hI (by simp)
  simp only [lu, dh, h1, Option.map_some, Option.bind_some, Sum.isLeft_inl, if_true, List.foldl_cons]
  exact Of I f l (k + 1) _ h2 (λ j s a' hj hI ha => h j s a' (by simp only [List.length_cons]; omega) hI (by simp [ha]))
theorem afA {b : av} (hv : Valid b) : (n7 b).length ≤ 243 := by
 rw [← aAp]
 exact Nat.le_trans (abB hv _ (Nat.le_refl _)) (aAo hv.n5)
theorem DO {b : av} (hv : Valid b) : (bU b).length ≤ 729 := by
 have h1 := afA hv
 have h2 := abN hv.fq.2.2.2
 have key : ∀ l : List Int, (l.flatMap λ n => ((n7 b).filter (lR b n)).map λ w => (⟨n, w⟩ : gM)).length ≤ l.length * 243 := by
  intro l
  induction l with
  | nil => simp
  | cons a l ih =>
   have := List.length_filter_le (lR b a) (n7 b)
   simp only [List.flatMap_cons, List.length_append, List.length_map, List.length_cons]
   omega
 have := key (gE b.af)
 unfold bU
 omega
def BO (b : av) : Int × Int := if de b ≠ 0 then (0, de b) else ((bU b).length, 0)
theorem aa0 {b : av} (hs : Small b) : oJ b = some (BO b) := by
 unfold oJ BO
 rw [TA hs, Option.bind_some]
 by_cases h1 : de b = 0
 ·have hv := AT hs h1
  have hl := DO hv
  simp only [h1, bne_self_eq_false, bz, ne_eq, not_true_eq_false, if_false]
  rw [show (⟨b.aD, ⟨b.af.ao, b.af.ax⟩, b.au, b.Out, b.aU⟩ : av) = b from rfl]
  rw [Tk hv _ (r := (.inl ((((bU b).map o4).foldl (λ (s : Int) _ => s + 1) 0)), true)) (Of (λ k s => s = (k : Int)) (λ _ s => s + 1) _ 0 0 rfl (λ j s a hj hs _ => by
   subst hs
   simp only [List.length_map] at hj
   rw [cJ (i := j) (by omega)]
   exact ⟨rfl, rfl⟩))]
  have key : ∀ (l : List bn) (s : Int), l.foldl (λ s _ => s + 1) s = s + l.length := by
   intro l
   induction l with
   | nil => simp
   | cons a l ih => intro s; rw [List.foldl_cons, ih]; simp; omega
  rw [Option.bind_some, Sum.elim_inl, key]
  simp
 ·simp only [h1, ne_eq, not_false_eq_true, if_true, qI h1, bJ]
theorem axN {b : av} (hv : Valid b) : Ag (λ y s => oI y b s) = some ((bU b).map o4) := by
 unfold Ag Cz
 have hl := DO hv
 have key : ∀ (l a : List bn), l.foldl (λ s c => s ++ [c]) a = a ++ l := by
  intro l
  induction l with
  | nil => simp
  | cons c l ih => intro a; rw [List.foldl_cons, ih]; simp
 dsimp only
 rw [Tk hv _ (r := (.inl ((((bU b).map o4).foldl (λ (s : List bn) c => s ++ [c]) [])), true)) (Of (λ k s => s.length = k) (λ c s => s ++ [c]) _ 0 [] rfl (λ j s a hj hs _ => by
  simp only [List.length_map] at hj
  rw [vE (by simp; omega)]
  exact ⟨rfl, by simp [hs]⟩))]
 rw [key]
 rfl
def TI : cR := ⟨⟨0, ⟨0, 0⟩, [], [], []⟩, [], kS⟩
def Mj (b : av) (own : Int) : cR × Int :=
 if de b ≠ 0 then (TI, de b) else if own ≠ 0 then (TI, own) else if bU b = [] then (TI, 9) else (⟨b, (bU b).map o4, []⟩, 0)
theorem adp {b : av} (hs : Small b) {f : av → Option Int} {own : Int} (hf : de b = 0 → f b = some own) : mN b f = some (Mj b own) := by
 unfold mN Mj
 rw [TA hs, Option.bind_some]
 by_cases h1 : de b = 0
 ·have hv := AT hs h1
  simp only [h1, bne_self_eq_false, bz, ne_eq, not_true_eq_false, if_false, hf h1, Option.bind_some]
  by_cases h2 : own = 0
  ·simp only [h2, bne_self_eq_false, bz, not_true_eq_false, if_false, axN hv, Option.bind_some, List.length_map]
   cases hc : bU b with
   | nil => rfl
   | cons c l =>
    rw [if_neg (by simp), show ((((c :: l).length : Nat) : Int) == 0) = false by simp; omega, bz]
  ·simp only [h2, not_false_eq_true, if_true, qI h2, bJ]
   rfl
 ·simp only [h1, ne_eq, not_false_eq_true, if_true, qI h1, bJ]
  rfl
end Go.Proofs.YtabamagholjdcaaGreatDoor
