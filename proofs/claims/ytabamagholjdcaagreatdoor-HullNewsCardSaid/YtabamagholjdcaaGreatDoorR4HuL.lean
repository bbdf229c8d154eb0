/- Plain laws of chapter 6. Conditions: none. -/
import Derived.Test.YtabamagholjdcaaGreatDoorQAHuM
import Derived.Test.YtabamagholjdcaaGreatDoorQAHuC
namespace Go.Proofs.YtabamagholjdcaaGreatDoor
open Go.Lg Go.Proofs
set_option maxRecDepth 10000
theorem qN {S O : Type} {body : S → Option (S ⊕ O)} (st : Nat → S) (n : Nat) {o : O} (h : ∀ i, i < n → body (st i) = some (.inl (st (i + 1)))) (hn : body (st n) = some (.inr o)) : bt body (st 0) = some o := by
 have key : ∀ k, k ≤ n → bt body (st (n - k)) = some o := by
  intro k
  induction k with
  | zero => intro _; exact nW hn
  | succ k ih =>
   intro hk
   rw [D1 (h (n - (k + 1)) (by omega)), show n - (k + 1) + 1 = n - k by omega]
   exact ih (by omega)
 have := key n (Nat.le_refl _)
 rwa [Nat.sub_self] at this
def dA {O : Type} (e : Nat → Option O) : Nat → Nat → Option O
 | _, 0 => none
 | i, k + 1 => match e i with | some o => some o | none => dA e (i + 1) k
def acD {S O : Type} (s : S) : Option O → S ⊕ O
 | some o => .inr o
 | none => .inl s
theorem abp {S O : Type} {body : S → Option (S ⊕ O)} (st : Nat → S) (e : Nat → Option O) (i0 n : Nat) {o : O} (h : ∀ i, i0 ≤ i → i < n → body (st i) = some (acD (st (i + 1)) (e i))) (hn : body (st n) = some (.inr o)) (h0 : i0 ≤ n) : bt body (st i0) = some ((dA e i0 (n - i0)).getD o) := by
 have key : ∀ k, k ≤ n - i0 → bt body (st (n - k)) = some ((dA e (n - k) k).getD o) := by
  intro k
  induction k with
  | zero => intro _; exact nW hn
  | succ k ih =>
   intro hk
   have hb := h (n - (k + 1)) (by omega) (by omega)
   unfold dA
   cases he : e (n - (k + 1)) with
   | some o' =>
    rw [he] at hb
    exact nW hb
   | none =>
    rw [he] at hb
    rw [D1 hb, show n - (k + 1) + 1 = n - k by omega]
    exact ih (by omega)
 have := key (n - i0) (Nat.le_refl _)
 rwa [show n - (n - i0) = i0 by omega] at this
theorem awB {S O : Type} {body : S → Option (S ⊕ O)} (st : Nat → S) (e : Nat → Option O) (n : Nat) {o : O} (h : ∀ i, i < n → body (st i) = some (acD (st (i + 1)) (e i))) (hn : body (st n) = some (.inr o)) : bt body (st 0) = some ((dA e 0 n).getD o) := by
 simpa using abp st e 0 n (λ i _ hi => h i hi) hn (Nat.zero_le _)
theorem ake {O : Type} {e e' : Nat → Option O} : ∀ (k i : Nat), (∀ j, i ≤ j → j < i + k → e j = e' j) → dA e i k = dA e' i k
 | 0, _, _ => rfl
 | k + 1, i, h => by
  unfold dA
  rw [h i (Nat.le_refl _) (by omega), ake k (i + 1) (λ j h1 h2 => h j (by omega) (by omega))]
theorem uv {O : Type} {e : Nat → Option O} : ∀ {k i : Nat}, dA e i k = none ↔ ∀ j, i ≤ j → j < i + k → e j = none
 | 0, i => by simp [dA]; omega
 | k + 1, i => by
  unfold dA
  cases he : e i with
  | some o => simp; exact ⟨i, Nat.le_refl _, by omega, by rw [he]; simp⟩
  | none =>
   simp only
   rw [uv]
   constructor
   ·intro h j h1 h2
    by_cases hj : j = i
    ·subst hj; exact he
    ·exact h j (by omega) (by omega)
   ·intro h j h1 h2; exact h j (by omega) (by omega)
theorem vV {O : Type} {e : Nat → Option O} : ∀ {k i : Nat} {o : O}, dA e i k = some o → ∃ j, i ≤ j ∧ j < i + k ∧ e j = some o ∧ ∀ m, i ≤ m → m < j → e m = none
 | 0, i, o, h => by cases h
 | k + 1, i, o, h => by
  unfold dA at h
  cases he : e i with
  | some o' => rw [he] at h; cases h; exact ⟨i, Nat.le_refl _, by omega, he, λ m h1 h2 => by omega⟩
  | none =>
   rw [he] at h
   obtain ⟨j, h1, h2, h3, h4⟩ := vV h
   refine ⟨j, by omega, by omega, h3, λ m hm1 hm2 => ?_⟩
   by_cases hm : m = i
   ·subst hm; exact he
   ·exact h4 m (by omega) hm2
@[simp] theorem cm {α : Type} {a b : Option α} : ah true a b = a := rfl
@[simp] theorem bF {α : Type} {a b : Option α} : ah false a b = b := rfl
@[simp] theorem dD {α : Type} (xs : List α) (k : Nat) : idx xs (k : Int) = xs[k]? := by simp [idx]
theorem jk {z : Int} (h1 : -4611686018427387904 ≤ z) (h2 : z ≤ 4611686018427387904) : i64 z = z := TM (by omega)
theorem eo {i : Nat} (h : i ≤ 1000000000) : i64 ((i : Int) + 1) = ((i + 1 : Nat) : Int) := by rw [jk (by omega) (by omega)]; omega
theorem aa9 {i : Nat} (h : i ≤ 1000000000) (h0 : 0 < i) : i64 ((i : Int) - 1) = ((i - 1 : Nat) : Int) := by rw [jk (by omega) (by omega)]; omega
theorem Pj {α : Type} {xs : List α} {k : Nat} (h : k ≤ xs.length) : mX xs 0 (k : Int) = some (xs.take k) := by simp [mX, h]
theorem mU {α : Type} {xs ys : List α} (h : xs.length + ys.length ≤ 16777216) : cy xs ys = some (xs ++ ys) := by simp [cy, h]
def dH (n a c : Int) : Bool := decide (a ≤ n) && decide (n ≤ c)
theorem vX (n a c : Int) : kH n a c = some (dH n a c) := by
 unfold kH dH
 cases decide (a ≤ n) <;> rfl
theorem vb (n a c : Int) : nB n a c = some (dH n a c) := by
 unfold nB dH
 cases decide (a ≤ n) <;> rfl
def lD (x : Reach) (a c : Int) : Bool := decide (a ≤ x.an) && (decide (x.an ≤ x.ax) && decide (x.ax ≤ c))
theorem Wi (x : Reach) (a c : Int) : AH x a c = some (lD x a c) := by
 unfold AH lD
 cases decide (a ≤ x.an) <;> cases decide (x.an ≤ x.ax) <;> rfl
def lQ (x : Reach) (w : Int) : Bool := decide (x.ax - x.an < w)
theorem adq {x : Reach} {a c w : Int} (ha : -1000000 ≤ a) (hc : c ≤ 1000000) (h : lD x a c = true) : i64 (x.ax - x.an) = x.ax - x.an := by
 simp only [lD, Bool.and_eq_true, decide_eq_true_eq] at h
 exact jk (by omega) (by omega)
theorem Wh {x : Reach} {a c w : Int} (ha : -1000000 ≤ a) (hc : c ≤ 1000000) : u6 x a c w = some (lD x a c && lQ x w) := by
 unfold u6 lD lQ
 by_cases h1 : a ≤ x.an
 ·by_cases h2 : x.an ≤ x.ax
  ·by_cases h3 : x.ax ≤ c
   ·simp [h1, h2, h3, jk (z := x.ax - x.an) (by omega) (by omega)]
   ·simp [h1, h2, h3]
  ·simp [h1, h2]
 ·simp [h1]
def nth {α : Type} [Inhabited α] (l : List α) (i : Nat) : α := l.getD i default
theorem cO {α : Type} [Inhabited α] {l : List α} {i : Nat} (h : i < l.length) : l[i]? = some (nth l i) := by
 unfold nth
 rw [List.getD_eq_getElem?_getD, List.getElem?_eq_getElem h]; rfl
theorem jy {α : Type} [Inhabited α] {l : List α} {i : Nat} (h : i < l.length) : nth l i ∈ l := List.mem_of_getElem? (cO h)
theorem HB {α : Type} [Inhabited α] {l : List α} {x : α} (h : x ∈ l) : ∃ i, i < l.length ∧ nth l i = x := by
 obtain ⟨i, hi, rfl⟩ := List.mem_iff_getElem.1 h
 refine ⟨i, hi, ?_⟩
 have := cO hi
 rw [List.getElem?_eq_getElem hi] at this
 exact (Option.some.inj this).symm
theorem aB6 {α : Type} [Inhabited α] {l m : List α} (h : l.length = m.length) (he : ∀ i, i < l.length → nth l i = nth m i) : l = m := by
 apply List.ext_getElem?
 intro i
 by_cases hi : i < l.length
 ·rw [cO hi, cO (h ▸ hi), he i hi]
 ·rw [List.getElem?_eq_none (by omega), List.getElem?_eq_none (by omega)]
theorem abN {α : Type} [Inhabited α] {l : List α} {i k : Nat} (h : i < k) : nth (l.take k) i = nth l i := by
 unfold nth
 rw [List.getD_eq_getElem?_getD, List.getD_eq_getElem?_getD, List.getElem?_take_of_lt h]
instance : Inhabited cG := ⟨⟨⟨#[]⟩, 0, ⟨0, 0⟩, []⟩⟩
instance : Inhabited bW := ⟨⟨0, 0⟩⟩
theorem lz {S O β : Type} {body : S → Option (S ⊕ O)} {s : S} {o : O} {f : O → Option β} (h : bt body s = some o) : (bt body s).bind f = f o := by rw [h]; rfl
theorem dec_lt {i : Nat} {n : Nat} (h : i < n) : decide ((i : Int) < (n : Int)) = true := by simpa using h
theorem aKQ {i : Nat} {n : Nat} (h : i ≤ n) : decide ((i : Int) ≤ (n : Int)) = true := by simpa using h
theorem eR {n : Nat} : decide ((n : Int) < (n : Int)) = false := by simp
theorem aKR {n : Nat} : decide (((n + 1 : Nat) : Int) ≤ (n : Int)) = false := by simp; omega
theorem YD {i : Nat} (h : 0 < i) : decide ((i : Int) > 0) = true := by simpa using h
theorem aKS {i : Nat} (h : ¬ 0 < i) : decide ((i : Int) > 0) = false := by simpa using h
theorem ah9 {O : Type} {f : Option O} {g : Unit → Option O} {d : O} (hd : g () = some d) : Sum.elim g (λ q => some q) (((f.map Sum.inr).getD (.inl ())) : Unit ⊕ O) = some (f.getD d) := by
 cases f with
 | none => exact hd
 | some o => rfl
theorem PX {O Q : Type} (g : O → Q) (e : Nat → Option O) : ∀ (k i : Nat), dA (λ j => (e j).map g) i k = (dA e i k).map g
 | 0, _ => rfl
 | k + 1, i => by
  unfold dA
  cases e i with
  | none => exact PX g e k (i + 1)
  | some o => rfl
theorem search {O : Type} {body : Int → Option (Int ⊕ (Unit ⊕ O))} (e : Nat → Option O) (i0 n : Nat) {d : O} {g : Unit → Option O} (h : ∀ i, i0 ≤ i → i < n → body (i : Int) = some (match e i with | some o => .inr (.inr o) | none => .inl ((i + 1 : Nat) : Int))) (hn : body (n : Int) = some (.inr (.inl ()))) (h0 : i0 ≤ n) (hd : g () = some d) :
  (bt body (i0 : Int)).bind (Sum.elim g λ q => some q) = some ((dA e i0 (n - i0)).getD d) := by
 refine (lz (abp (λ i => (i : Int)) (λ i => (e i).map Sum.inr) i0 n (o := .inl ()) (λ i h1 h2 => ?_) hn h0)).trans ?_
 ·rw [h i h1 h2]
  cases e i <;> rfl
 ·rw [PX]
  exact ah9 hd
theorem lO {O : Type} {body : Int → Option (Int ⊕ (Unit ⊕ O))} (e : Nat → Option O) (n : Nat) {d : O} {g : Unit → Option O} (h : ∀ i, i < n → body (i : Int) = some (match e i with | some o => .inr (.inr o) | none => .inl ((i + 1 : Nat) : Int))) (hn : body (n : Int) = some (.inr (.inl ()))) (hd : g () = some d) :
  (bt body 0).bind (Sum.elim g λ q => some q) = some ((dA e 0 n).getD d) := search e 0 n (λ i _ hi => h i hi) hn (Nat.zero_le _) hd
def Bv (l : List Int) (below : Int) (i : Nat) : Option Int :=
 if dH (nth l i) 0 (below - 1) = false then some 6 else if 0 < i then (if nth l i ≤ nth l (i - 1) then some 7 else none) else none
def od (l : List Int) (below : Int) : Int := (dA (Bv l below) 0 l.length).getD 0
theorem afr {l : List Int} {below : Int} (hl : l.length ≤ 1000) (h0 : 0 ≤ below) (h1 : below ≤ 1000) : u7 l below = some (od l below) := by
 unfold u7
 refine lO (Bv l below) l.length (λ i hi => ?_) (by simp only [eR, bF]) rfl
 simp only [dec_lt hi, cm, dD, cO hi, Option.bind_some, vX, jk (z := below - 1) (by omega) (by omega), eo (i := i) (by omega)]
 unfold Bv
 cases dH (nth l i) 0 (below - 1) with
 | false => rfl
 | true =>
  by_cases hp : 0 < i
  ·simp only [YD hp, Bool.not_true, bF, cm, aa9 (i := i) (by omega) hp, dD, cO (show i - 1 < l.length by omega), Option.bind_some, hp, if_true, Bool.true_eq_false, if_false]
   by_cases hc : nth l i ≤ nth l (i - 1) <;> simp [hc]
  ·simp [hp]
theorem afD {l : List Int} {below : Int} (hl : l.length ≤ 1000) (h0 : 0 ≤ below) (h1 : below ≤ 1000) : AZ l below = some (od l below) := by
 unfold AZ
 refine lO (Bv l below) l.length (λ i hi => ?_) (by simp only [eR, bF]) rfl
 simp only [dec_lt hi, cm, dD, cO hi, Option.bind_some, vb, jk (z := below - 1) (by omega) (by omega), eo (i := i) (by omega)]
 unfold Bv
 cases dH (nth l i) 0 (below - 1) with
 | false => rfl
 | true =>
  by_cases hp : 0 < i
  ·simp only [YD hp, Bool.not_true, bF, cm, aa9 (i := i) (by omega) hp, dD, cO (show i - 1 < l.length by omega), Option.bind_some, hp, if_true, Bool.true_eq_false, if_false]
   by_cases hc : nth l i ≤ nth l (i - 1) <;> simp [hc]
  ·simp [hp]
theorem PY {α : Type} [Inhabited α] (p : α → Bool) (l : List α) : (dA (λ i => if p (nth l i) then some true else none) 0 l.length).getD false = l.any p := by
 cases h : dA (λ i => if p (nth l i) then some true else none) 0 l.length with
 | none =>
  rw [uv] at h
  symm
  rw [Option.getD_none, List.any_eq_false]
  intro x hx
  obtain ⟨i, hi, rfl⟩ := HB hx
  have := h i (Nat.zero_le _) (by omega)
  simpa using this
 | some o =>
  obtain ⟨j, _, hj, he, _⟩ := vV h
  split at he
  ·rename_i hp
   cases he
   symm
   rw [Option.getD_some, List.any_eq_true]
   exact ⟨nth l j, jy (by omega), hp⟩
  ·cases he
theorem ahu (l : List Int) (n : Int) : (l.any λ x => n == x) = l.contains n := by
 rw [Bool.eq_iff_iff, List.any_eq_true, List.contains_iff_mem]
 constructor
 ·rintro ⟨x, hx, h⟩
  rw [beq_iff_eq] at h; subst h; exact hx
 ·intro h; exact ⟨n, h, by simp⟩
theorem aht (l : List Int) (n : Int) : (l.any λ x => x == n) = l.contains n := by
 rw [Bool.eq_iff_iff, List.any_eq_true, List.contains_iff_mem]
 constructor
 ·rintro ⟨x, hx, h⟩
  rw [beq_iff_eq] at h; subst h; exact hx
 ·intro h; exact ⟨n, h, by simp⟩
theorem IF {l : List Int} {n : Int} (hl : l.length ≤ 1000) : sZ l n = some (l.contains n) := by
 unfold sZ
 refine (lO (λ i => if (nth l i == n) then some true else none) l.length (d := false) (λ i hi => ?_) (by simp only [eR, bF]) rfl).trans ?_
 ·simp only [dec_lt hi, cm, dD, cO hi, Option.bind_some, eo (i := i) (by omega)]
  cases nth l i == n <;> rfl
 ·rw [PY (λ x => x == n) l]
  rw [aht]
theorem Ng {α : Type} [Inhabited α] (p : α → Bool) (l : List α) : decide ((dA (λ i => if p (nth l i) then some (i : Int) else none) 0 l.length).getD (-1) ≥ 0) = l.any p := by
 rw [← PY p l]
 cases h : dA (λ i => if p (nth l i) then some (i : Int) else none) 0 l.length with
 | none =>
  rw [uv] at h
  have : dA (λ i => if p (nth l i) then some true else none) 0 l.length = none := by
   rw [uv]
   intro j h1 h2
   have := h j h1 h2
   cases hp : p (nth l j) with
   | true => rw [hp] at this; cases this
   | false => rfl
  rw [this]; rfl
 | some o =>
  obtain ⟨j, h1, h2, h3, h4⟩ := vV h
  split at h3
  ·rename_i hp
   cases h3
   have : dA (λ i => if p (nth l i) then some true else none) 0 l.length = some true := by
    cases hf : dA (λ i => if p (nth l i) then some true else none) 0 l.length with
    | none => rw [uv] at hf; have := hf j h1 h2; rw [if_pos hp] at this; cases this
    | some b =>
     obtain ⟨_, _, _, hb, _⟩ := vV hf
     split at hb
     ·cases hb; rfl
     ·cases hb
   rw [this]
   simp
  ·cases h3
theorem axn {l : List Int} {n : Int} (hl : l.length ≤ 1000) : AN l n = some (l.contains n) := by
 unfold AN C1
 rw [lO (λ i => if (n == nth l i) then some (i : Int) else none) l.length (d := (-1)) (λ i hi => ?_) (by simp only [eR, bF]) rfl]
 ·rw [Option.bind_some, Ng (λ x => n == x) l]
  rw [ahu]
 ·simp only [dec_lt hi, cm, dD, cO hi, Option.bind_some, eo (i := i) (by omega)]
  cases n == nth l i <;> rfl
theorem afv {l : List Int} {f : Int → Option Bool} {p : Int → Bool} (hl : l.length ≤ 1000) (hf : ∀ x ∈ l, f x = some (p x)) : xJ l f = some (l.any p) := by
 unfold xJ CY
 rw [lO (λ i => if p (nth l i) then some (i : Int) else none) l.length (d := (-1)) (λ i hi => ?_) (by simp only [eR, bF]) rfl]
 ·rw [Option.bind_some, Ng p l]
 ·simp only [dec_lt hi, cm, dD, cO hi, Option.bind_some, hf _ (jy hi), eo (i := i) (by omega)]
  cases p (nth l i) <;> rfl
theorem axF {l : List cG} {f : cG → Option Bool} {p : cG → Bool} (hl : l.length ≤ 1000) (hf : ∀ x ∈ l, f x = some (p x)) : AU l f = some (l.any p) := by
 unfold AU C2
 rw [lO (λ i => if p (nth l i) then some (i : Int) else none) l.length (d := (-1)) (λ i hi => ?_) (by simp only [eR, bF]) rfl]
 ·rw [Option.bind_some, Ng p l]
 ·simp only [dec_lt hi, cm, dD, cO hi, Option.bind_some, hf _ (jy hi), eo (i := i) (by omega)]
  cases p (nth l i) <;> rfl
theorem aCM {l : List bW} {f : bW → Option Bool} {p : bW → Bool} (hl : l.length ≤ 1000) (hf : ∀ x ∈ l, f x = some (p x)) : BC l f = some (l.any p) := by
 unfold BC D3
 rw [lO (λ i => if p (nth l i) then some (i : Int) else none) l.length (d := (-1)) (λ i hi => ?_) (by simp only [eR, bF]) rfl]
 ·rw [Option.bind_some, Ng p l]
 ·simp only [dec_lt hi, cm, dD, cO hi, Option.bind_some, hf _ (jy hi), eo (i := i) (by omega)]
  cases p (nth l i) <;> rfl
end Go.Proofs.YtabamagholjdcaaGreatDoor
namespace Go.Proofs.YtabamagholjdcaaGreatDoor
open Go.Lg Go.Proofs
set_option maxRecDepth 10000
theorem ae2 {O : Type} {body : Int → Option (Int ⊕ (Unit ⊕ O))} (e : Nat → Option O) (n : Nat) (h : ∀ i, i < n → body (i : Int) = some (match e i with | some o => .inr (.inr o) | none => .inl ((i + 1 : Nat) : Int))) (hn : body (n : Int) = some (.inr (.inl ()))) :
  bt body 0 = some (match dA e 0 n with | some o => .inr o | none => .inl ()) := by
 refine (awB (λ i => (i : Int)) (λ i => (e i).map Sum.inr) n (o := .inl ()) (λ i hi => ?_) hn).trans ?_
 ·rw [h i hi]
  cases e i <;> rfl
 ·rw [PX]
  cases dA e 0 n <;> rfl
theorem akf {α O : Type} [Inhabited α] (p : α → Bool) (c : O) (l : List α) (n : Nat) (hn : n ≤ l.length) : dA (λ k => if p (nth l k) then some c else none) 0 n = if (l.take n).any p then some c else none := by
 cases h : dA (λ k => if p (nth l k) then some c else none) 0 n with
 | none =>
  rw [uv] at h
  have : (l.take n).any p = false := by
   rw [List.any_eq_false]
   intro x hx
   obtain ⟨i, hi, rfl⟩ := HB hx
   have hi' : i < n := by simp at hi; omega
   rw [abN hi']
   have := h i (Nat.zero_le _) (by omega)
   simpa using this
  rw [this]; rfl
 | some o =>
  obtain ⟨j, _, hj, he, _⟩ := vV h
  split at he
  ·rename_i hp
   cases he
   have : (l.take n).any p = true := by
    rw [List.any_eq_true]
    refine ⟨nth l j, ?_, hp⟩
    rw [← abN (l := l) (show j < n by omega)]
    exact jy (by simp; omega)
   rw [this]; rfl
  ·cases he
theorem collect {α : Type} {body : List α × Int → Option ((List α × Int) ⊕ List α)} (g : Nat → Option α) (n : Nat) (h : ∀ i acc, i < n → acc.length ≤ i → body (acc, (i : Int)) = some (.inl (acc ++ (g i).toList, ((i + 1 : Nat) : Int)))) (hn : ∀ acc, body (acc, (n : Int)) = some (.inr acc)) :
  bt body ([], 0) = some ((List.range n).filterMap g) := by
 refine (qN (λ i => ((List.range i).filterMap g, (i : Int))) n (λ i hi => ?_) (hn _) : bt body ([], (0 : Int)) = _)
 have hl : ((List.range i).filterMap g).length ≤ i := by
  have := List.length_filterMap_le g (List.range i)
  simpa using this
 rw [h i _ hi hl, List.range_succ, List.filterMap_append, show List.filterMap g [i] = (g i).toList by cases hg : g i <;> simp [hg]]
structure Small (b : aq) : Prop where
 pieces : b.az.length ≤ 20
 out : b.Out.length ≤ 20
 yM : b.aO.length ≤ 20
 each : ∀ p ∈ b.az, p.Name.size ≤ 100 ∧ p.On.length ≤ 20
def Cb (b : aq) : Bool :=
 decide (20 < b.az.length) || (decide (20 < b.Out.length) || (decide (20 < b.aO.length) || b.az.any λ p => decide (100 < p.Name.size) || decide (20 < p.On.length)))
theorem zm {n m : Nat} : decide ((n : Int) > (m : Int)) = decide (m < n) := by
 by_cases h : m < n <;> simp [h]
theorem axu (b : aq) : AO b = some (Cb b) := by
 unfold AO Cb
 have e1 : decide ((b.az.length : Int) > 20) = decide (20 < b.az.length) := zm (m := 20)
 have e2 : decide ((b.Out.length : Int) > 20) = decide (20 < b.Out.length) := zm (m := 20)
 have e3 : decide ((b.aO.length : Int) > 20) = decide (20 < b.aO.length) := zm (m := 20)
 rw [e1, e2, e3]
 by_cases h1 : 20 < b.az.length
 ·simp [h1]
 by_cases h2 : 20 < b.Out.length
 ·simp [h1, h2]
 by_cases h3 : 20 < b.aO.length
 ·simp [h1, h2, h3]
 simp only [h1, h2, h3, decide_false, bF, Option.bind_some, Bool.false_or]
 rw [lO (λ i => if (decide (100 < (nth b.az i).Name.size) || decide (20 < (nth b.az i).On.length)) then some true else none) b.az.length (d := false) (λ i hi => ?_) (by simp only [eR, bF]) rfl]
 ·rw [PY (λ p : cG => decide (100 < p.Name.size) || decide (20 < p.On.length)) b.az]
 ·have f1 : decide (((nth b.az i).Name.size : Int) > 100) = decide (100 < (nth b.az i).Name.size) := zm (m := 100)
  have f2 : decide (((nth b.az i).On.length : Int) > 20) = decide (20 < (nth b.az i).On.length) := zm (m := 20)
  simp only [dec_lt hi, cm, dD, cO hi, Option.bind_some, f1, f2, eo (i := i) (by omega)]
  cases decide (100 < (nth b.az i).Name.size) <;> cases decide (20 < (nth b.az i).On.length) <;> rfl
theorem aeo {b : aq} (h : Cb b = false) : Small b := by
 simp only [Cb, Bool.or_eq_false_iff, decide_eq_false_iff_not, List.any_eq_false, Bool.not_eq_true] at h
 obtain ⟨h1, h2, h3, h4⟩ := h
 refine ⟨by omega, by omega, by omega, λ p hp => ?_⟩
 have := h4 p hp
 omega
def isLet (n : Int) : Bool := dH n 97 122
def GY (n : Int) : Bool := dH n 48 57
theorem Mb (s : ByteArray) : (eX s).length = s.size := by simp [eX]
theorem UT {s : ByteArray} {i : Nat} (h : i < s.size) : 0 ≤ nth (eX s) i ∧ nth (eX s) i < 256 := by
 have hm : nth (eX s) i ∈ eX s := jy (by rw [Mb]; exact h)
 unfold eX at hm
 obtain ⟨b, _, hb⟩ := List.mem_map.1 hm
 unfold eX
 rw [← hb]
 have := b.toNat_lt
 omega
def oF (s : ByteArray) (i : Nat) : Option Bool := if isLet (nth (eX s) i) = false then (if i = 0 then some false else if GY (nth (eX s) i) = false then some false else none) else none
def Ay (s : ByteArray) : Bool := (dA (oF s) 0 s.size).getD (dH (s.size : Int) 1 12)
theorem axD {s : ByteArray} (hs : s.size ≤ 1000) : AT s = some (Ay s) := by
 unfold AT Ay
 have e := Mb s
 rw [e]
 refine lO (oF s) s.size (λ i hi => ?_) (by simp only [eR, bF]) (by rw [vX]; rfl)
 have hi' : i < (eX s).length := by omega
 obtain ⟨h1, h2⟩ := UT hi
 simp only [dec_lt hi, cm, dD, cO hi', Option.bind_some, vX, jk (z := nth (eX s) i) (by omega) (by omega), eo (i := i) (by omega)]
 unfold oF isLet GY
 cases dH (nth (eX s) i) 97 122 with
 | true => rfl
 | false =>
  by_cases h0 : i = 0
  ·subst h0; rfl
  ·have : ((i : Int) == 0) = false := by simpa using h0
   simp only [this, Bool.not_false, cm, bF, h0, if_false, if_true]
   cases dH (nth (eX s) i) 48 57 <;> rfl
theorem abD {n : Int} (h1 : 0 ≤ n) (h2 : n < 256) : AM n = some (isLet n) := by unfold AM isLet; rw [jk (by omega) (by omega), vb]; rfl
theorem axk {n : Int} (h1 : 0 ≤ n) (h2 : n < 256) : C0 n = some (GY n) := by unfold C0 GY; rw [jk (by omega) (by omega), vb]; rfl
theorem avX {s : ByteArray} {k i : Nat} {o : Bool} (h : dA (oF s) i k = some o) : o = false := by
 obtain ⟨j, _, _, he, _⟩ := vV h
 unfold oF at he
 split at he
 ·split at he
  ·cases he; rfl
  ·split at he
   ·cases he; rfl
   ·cases he
 ·cases he
theorem aw7 {s : ByteArray} (hs : s.size ≤ 1000) : Hg s = some (Ay s) := by
 unfold Hg Ay
 rw [vb, Option.bind_some]
 cases hb : dH (s.size : Int) 1 12 with
 | false =>
  simp only [Bool.not_false, cm, Option.bind_some]
  congr 1
  cases hf : dA (oF s) 0 s.size with
  | none => rfl
  | some o => rw [avX hf]; rfl
 | true =>
  have h1 : 1 ≤ s.size := by
   simp only [dH, Bool.and_eq_true, decide_eq_true_eq] at hb
   omega
  have hi' : 0 < (eX s).length := by rw [Mb]; omega
  obtain ⟨g1, g2⟩ := UT (s := s) (i := 0) (by omega)
  have hs0 : rq s 0 = some (nth (eX s) 0) := by unfold rq; rw [← cO hi']; exact dD _ 0
  simp only [Bool.not_true, bF, hs0, Option.bind_some, abD g1 g2]
  have hu : dA (oF s) 0 s.size = match oF s 0 with | some o => some o | none => dA (oF s) 1 (s.size - 1) := by
   obtain ⟨k, hk⟩ : ∃ k, s.size = k + 1 := ⟨s.size - 1, by omega⟩
   rw [hk]
   simp only [dA, Nat.add_sub_cancel, Nat.zero_add]
   cases oF s 0 <;> rfl
  rw [hu]
  unfold oF
  cases hl : isLet (nth (eX s) 0) with
  | false => rfl
  | true =>
   simp only [Bool.not_true, bF, Bool.true_eq_false, if_false]
   have e2 := search (body := λ (nG : Int) =>
    ah (decide (nG < (s.size : Int)))
    ((rq s nG).bind λ lR =>
    (AM lR).bind λ oS =>
    ah (!oS)
    ((rq s nG).bind λ iL =>
    (C0 iL).bind λ yL =>
    ah (!yL)
    (some (.inr (.inr false)))
    (some (.inl (i64 (nG + 1)))))
    (some (.inl (i64 (nG + 1)))))
    (some (.inr (.inl ())))) (oF s) 1 s.size (d := true) (g := λ _ => some true) (λ i hi1 hi => ?_) (by simp only [eR, bF]) h1 rfl
   ·exact e2
   ·have hi2 : i < (eX s).length := by rw [Mb]; exact hi
    obtain ⟨k1, k2⟩ := UT hi
    have hsi : rq s (i : Int) = some (nth (eX s) i) := by unfold rq; rw [← cO hi2]; exact dD _ i
    simp only [dec_lt hi, cm, hsi, Option.bind_some, abD k1 k2, axk k1 k2, eo (i := i) (by omega)]
    have h0 : i ≠ 0 := by omega
    unfold oF
    cases isLet (nth (eX s) i) with
    | true => rfl
    | false =>
     simp only [Bool.not_false, cm, h0, if_false, if_true]
     cases GY (nth (eX s) i) <;> rfl
def xY (p q : cG) : Bool := q.Name.toList == p.Name.toList
def vo (b : aq) (i : Nat) : Option Int :=
 if Ay (nth b.az i).Name = false then some 4
 else if (b.az.take i).any (xY (nth b.az i)) = true then some 5
 else if (dH (nth b.az i).dz (-9) 9 && (lD (nth b.az i).Weight 1 99 && lQ (nth b.az i).Weight 3)) = false then some 1
 else if od (nth b.az i).On (i : Int) ≠ 0 then some (od (nth b.az i).On (i : Int)) else none
def nX (b : aq) : Int := if dH (b.az.length : Int) 1 5 = false then 2 else (dA (vo b) 0 b.az.length).getD 0
theorem axx {b : aq} (h : Small b) : AQ b = some (nX b) := by
 unfold AQ nX
 rw [vX, Option.bind_some]
 cases dH (b.az.length : Int) 1 5 with
 | false => rfl
 | true =>
  simp only [Bool.not_true, bF, Bool.true_eq_false, if_false]
  have hp := h.pieces
  refine lO (vo b) b.az.length (λ i hi => ?_) (by simp only [eR, bF]) rfl
  obtain ⟨hn, ho⟩ := h.each _ (jy hi)
  simp only [dec_lt hi, cm, dD, cO hi, Option.bind_some, axD (show (nth b.az i).Name.size ≤ 1000 by omega), Pj (show i ≤ b.az.length by omega), Wh (x := (nth b.az i).Weight) (a := 1) (c := 99) (w := 3) (by omega) (by omega), vX,
   axF (l := b.az.take i) (f := λ y => AV y (nth b.az i)) (p := xY (nth b.az i)) (by simp; omega) (λ x _ => rfl), afr (l := (nth b.az i).On) (below := (i : Int)) (by omega) (by omega) (by omega), eo (i := i) (by omega)]
  unfold vo
  cases Ay (nth b.az i).Name with
  | false => rfl
  | true =>
   cases (b.az.take i).any (xY (nth b.az i)) with
   | true => rfl
   | false =>
    cases dH (nth b.az i).dz (-9) 9 with
    | false => rfl
    | true =>
     cases (lD (nth b.az i).Weight 1 99 && lQ (nth b.az i).Weight 3) with
     | false => rfl
     | true =>
      by_cases hc : od (nth b.az i).On (i : Int) = 0
      ·simp [hc]
      ·have : (od (nth b.az i).On (i : Int) != 0) = true := by simpa using hc
       simp [hc, this]
theorem awU {b : aq} (h : Small b) : G9 b = some (nX b) := by
 unfold G9 nX
 rw [vb, Option.bind_some]
 cases dH (b.az.length : Int) 1 5 with
 | false => rfl
 | true =>
  simp only [Bool.not_true, bF, Bool.true_eq_false, if_false]
  have hp := h.pieces
  refine lO (vo b) b.az.length (λ i hi => ?_) (by simp only [eR, bF]) rfl
  obtain ⟨hn, ho⟩ := h.each _ (jy hi)
  simp only [dec_lt hi, cm, dD, cO hi, Option.bind_some, aw7 (show (nth b.az i).Name.size ≤ 1000 by omega)]
  rw [ae2 (λ k => if xY (nth b.az i) (nth b.az k) then some (5 : Int) else none) i (λ k hk => ?_) (by simp only [eR, bF])]
  ·rw [akf (xY (nth b.az i)) (5 : Int) b.az i (by omega)]
   simp only [Wi, vb, Option.bind_some, afD (l := (nth b.az i).On) (below := (i : Int)) (by omega) (by omega) (by omega), eo (i := i) (by omega)]
   unfold vo
   cases Ay (nth b.az i).Name with
   | false => rfl
   | true =>
    cases (b.az.take i).any (xY (nth b.az i)) with
    | true => rfl
    | false =>
     cases dH (nth b.az i).dz (-9) 9 with
     | false => rfl
     | true =>
      cases hr : lD (nth b.az i).Weight 1 99 with
      | false => rfl
      | true =>
       have hw : decide (i64 ((nth b.az i).Weight.ax - (nth b.az i).Weight.an) ≥ 3) = !lQ (nth b.az i).Weight 3 := by
        rw [adq (w := 3) (by omega) (by omega) hr]
        unfold lQ
        by_cases hx : (nth b.az i).Weight.ax - (nth b.az i).Weight.an < 3
        ·simp [hx]
        ·simp [hx]; omega
       simp only [Bool.not_true, bF, Sum.elim_inl, Option.bind_some, hw, Bool.false_eq_true, if_false, Bool.true_and, Bool.true_eq_false]
       cases lQ (nth b.az i).Weight 3 with
       | false => rfl
       | true =>
        by_cases hc : od (nth b.az i).On (i : Int) = 0
        ·simp [hc]
        ·have : (od (nth b.az i).On (i : Int) != 0) = true := by simpa using hc
         simp [hc, this]
  ·simp only [dec_lt hk, cm, dD, cO (show k < b.az.length by omega), Option.bind_some, eo (i := k) (by omega)]
   rw [show ((nth b.az k).Name.toList == (nth b.az i).Name.toList) = xY (nth b.az i) (nth b.az k) from rfl]
   cases xY (nth b.az i) (nth b.az k) <;> rfl
end Go.Proofs.YtabamagholjdcaaGreatDoor
namespace Go.Proofs.YtabamagholjdcaaGreatDoor
open Go.Lg Go.Proofs
set_option maxRecDepth 10000
def dZ (out : List Int) : List Bool := (List.range 5).map λ (i : Nat) => out.contains (i : Int)
theorem Zj : dZ [] = [false, false, false, false, false] := rfl
def wj (l : List Int) : Prop := ∀ x ∈ l, 0 ≤ x ∧ x < 5
theorem GX (out : List Int) {p : Int} (h0 : 0 ≤ p) (h5 : p < 5) : idx (dZ out) p = some (out.contains p) := by
 obtain ⟨k, rfl⟩ : ∃ k : Nat, p = (k : Int) := ⟨p.toNat, by omega⟩
 have hk : k < 5 := by omega
 rw [dD]
 simp [dZ, hk]
theorem akl (out : List Int) {p : Int} (h0 : 0 ≤ p) (h5 : p < 5) : (dZ out).set p.toNat true = dZ (out ++ [p]) := by
 obtain ⟨k, rfl⟩ : ∃ k : Nat, p = (k : Int) := ⟨p.toNat, by omega⟩
 have hk : k < 5 := by omega
 apply List.ext_getElem?
 intro i
 rw [Int.toNat_natCast, List.getElem?_set]
 by_cases hi : i < 5
 ·by_cases hik : k = i
  ·subst hik
   simp [dZ, hk]
  ·have : ¬ (i : Int) = (k : Int) := by omega
   simp [dZ, hi, hik, this]
 ·rw [if_neg (by omega)]
  simp [dZ, hi]
theorem V1 {l out : List Int} (hl : wj l) (hn : l.length ≤ 1000) : iD (dZ out) l = some (dZ (out ++ l)) := by
 unfold iD
 refine (lz (o := dZ (out ++ l)) ?_).trans rfl
 have e0 : ((0 : Int), dZ out) = (λ i : Nat => ((i : Int), dZ (out ++ l.take i))) 0 := by simp
 rw [e0]
 refine qN (λ i : Nat => ((i : Int), dZ (out ++ l.take i))) l.length (λ i hi => ?_) ?_
 ·obtain ⟨h0, h5⟩ := hl _ (jy hi)
  simp only [dec_lt hi, cm, dD, cO hi, Option.bind_some, GX _ h0 h5, akl _ h0 h5, eo (i := i) (by omega)]
  rw [List.append_assoc, List.take_add_one, cO hi]
  rfl
 ·simp only [eR, bF, List.take_length]
theorem Wm {l : List Int} (hl : wj l) (hn : l.length ≤ 1000) : iD [false, false, false, false, false] l = some (dZ l) := by
 have := V1 (out := []) hl hn
 rwa [List.nil_append, Zj] at this
def p8 (b : aq) (p : Int) (i : Nat) : Bool := (nth b.az i).On.contains p
def qa (b : aq) (out : List Int) (p : Int) : Bool := !out.contains p && (List.range b.az.length).all λ (i : Nat) => out.contains (i : Int) || !p8 b p i
theorem VF (p : Nat → Bool) (n : Nat) : (dA (λ i => if p i = true then some false else none) 0 n).getD true = (List.range n).all λ i => !p i := by
 cases h : dA (λ i => if p i = true then some false else none) 0 n with
 | none =>
  rw [uv] at h
  symm
  rw [Option.getD_none, List.all_eq_true]
  intro i hi
  have hi' : i < n := by simpa using hi
  have := h i (Nat.zero_le _) (by omega)
  simpa using this
 | some o =>
  obtain ⟨j, _, hj, he, _⟩ := vV h
  split at he
  ·rename_i hp
   cases he
   symm
   rw [Option.getD_some, List.all_eq_false]
   exact ⟨j, by simp; omega, by simp [hp]⟩
  ·cases he
theorem aft {b : aq} (h : Small b) {out : List Int} {p : Int} (ho : out.length ≤ 1000) : AJ b out p = some (qa b out p) := by
 unfold AJ qa
 have hp := h.pieces
 rw [IF ho, Option.bind_some]
 cases out.contains p with
 | true => rfl
 | false =>
  rw [bF, Bool.not_false, Bool.true_and]
  rw [lO (λ i => if (!(out.contains (i : Int)) && p8 b p i) = true then some false else none) b.az.length (d := true) (λ i hi => ?_) (by simp only [eR, bF]) rfl]
  ·rw [VF]
   congr 1
   congr 1
   funext i
   cases out.contains (i : Int) <;> simp
  ·obtain ⟨_, Z7⟩ := h.each _ (jy hi)
   simp only [dec_lt hi, cm, dD, cO hi, Option.bind_some, IF ho, IF (l := (nth b.az i).On) (n := p) (by omega), eo (i := i) (by omega)]
   rw [show (nth b.az i).On.contains p = p8 b p i from rfl]
   cases out.contains (i : Int) with
   | true => rfl
   | false => cases p8 b p i <;> rfl
theorem axd {b : aq} (h : Small b) (p : Int) : AK b p = some ((List.range b.az.length).filterMap λ i => if p8 b p i = true then some (i : Int) else none) := by
 unfold AK
 have hp := h.pieces
 rw [collect (λ i => if p8 b p i = true then some (i : Int) else none) b.az.length (λ i acc hi hacc => ?_) (λ acc => by simp only [eR, bF])]
 ·rfl
 ·obtain ⟨_, Z7⟩ := h.each _ (jy hi)
  simp only [dec_lt hi, cm, dD, cO hi, Option.bind_some, axn (l := (nth b.az i).On) (n := p) (by omega), eo (i := i) (by omega)]
  rw [show (nth b.az i).On.contains p = p8 b p i from rfl]
  cases p8 b p i with
  | true => simp [mU (xs := acc) (ys := [(i : Int)]) (by simp; omega)]
  | false => simp
theorem afs {b : aq} (h : Small b) (h5 : b.az.length ≤ 5) {out : List Int} {p : Int} (hp0 : 0 ≤ p) (Ru : p < 5) : u9 b (dZ out) p = some (qa b out p) := by
 unfold u9 qa
 rw [GX out hp0 Ru, Option.bind_some]
 cases out.contains p with
 | true => rfl
 | false =>
  rw [Bool.not_false, cm, axd h, Option.bind_some, afv (p := λ n => !out.contains n) (l := (List.range b.az.length).filterMap λ i => if p8 b p i = true then some (i : Int) else none) (by
   have := List.length_filterMap_le (λ i => if p8 b p i = true then some (i : Int) else none) (List.range b.az.length)
   simp at this; omega) (λ x hx => ?_)]
  ·rw [Option.bind_some, Bool.true_and]
   congr 1
   rw [Bool.eq_iff_iff, Bool.not_eq_true', List.any_eq_false, List.all_eq_true]
   constructor
   ·intro hh i hi
    cases hr : p8 b p i with
    | false => simp
    | true =>
     have := hh (i : Int) (List.mem_filterMap.2 ⟨i, hi, by rw [hr]; rfl⟩)
     simpa using this
   ·intro hh x hx
    obtain ⟨i, hi, hx⟩ := List.mem_filterMap.1 hx
    split at hx
    ·rename_i hr
     cases hx
     have := hh i hi
     rw [hr] at this
     simpa using this
    ·cases hx
  ·obtain ⟨i, hi, hx⟩ := List.mem_filterMap.1 hx
   have hi' : i < b.az.length := by simpa using hi
   split at hx
   ·cases hx
    unfold AL
    rw [GX out (by omega) (by omega)]; rfl
   ·cases hx
def nV (b : aq) (p : Int) : Bool := dH p 0 ((b.az.length : Int) - 1)
theorem afp {b : aq} (h : Small b) (p : Int) : sX b p = some (nV b p) := by
 unfold sX nV
 have := h.pieces
 rw [vX, jk (by omega) (by omega)]; rfl
theorem afq {b : aq} (h : Small b) (p : Int) : AG b p = some (nV b p) := by
 unfold AG nV
 have := h.pieces
 rw [vb, jk (by omega) (by omega)]; rfl
theorem Ns {b : aq} {p : Int} : nV b p = true ↔ 0 ≤ p ∧ p < (b.az.length : Int) := by
 simp only [nV, dH, Bool.and_eq_true, decide_eq_true_eq]
 omega
def Ek (b : aq) (out : List Int) (p : Int) : Option Int :=
 if nV b p = false then some 6 else if out.contains p = true then some 5 else if qa b out p = false then some 7 else none
def iZ (b : aq) : List Int → List Int → Int
 | _, [] => 0
 | out, p :: r => match Ek b out p with | some h => h | none => iZ b (out ++ [p]) r
theorem aeR {b : aq} (h : Small b) {out l : List Int} (ho : out.length ≤ 100) (hl : l.length ≤ 100) : AI b out l = some (iZ b out l) := by
 unfold AI
 rw [mU (by simp; omega), Option.bind_some, List.nil_append]
 have key : ∀ k, k ≤ l.length → ∀ acc : List Int, acc.length + k ≤ 400 → (bt (λ (gz : ((List Int) × Int)) =>
   ah (decide (gz.2 < (l.length : Int)))
   ((idx l gz.2).bind λ yJ =>
   (AG b yJ).bind λ yQ =>
   ah (!yQ)
   (some (.inr (.inr 6)))
   ((idx l gz.2).bind λ kN =>
   (sZ gz.1 kN).bind λ kO =>
   ah kO
   (some (.inr (.inr 5)))
   ((idx l gz.2).bind λ En =>
   (AJ b gz.1 En).bind λ yR =>
   ah (!yR)
   (some (.inr (.inr 7)))
   ((idx l gz.2).bind λ gQ =>
   (cy gz.1 [gQ]).bind λ vU =>
   some (.inl (vU, i64 (gz.2 + 1)))))))
   (some (.inr (.inl ())))) (acc, ((l.length - k : Nat) : Int))).bind (Sum.elim (λ (_ : Unit) => some 0) (λ (q : Int) => some q)) = some (iZ b acc (l.drop (l.length - k))) := by
  intro k
  induction k with
  | zero =>
   intro _ acc _
   rw [Nat.sub_zero, List.drop_length, nW (o := .inl ()) (by simp only [eR, bF])]
   rfl
  | succ k ih =>
   intro hk acc hacc
   have hi : l.length - (k + 1) < l.length := by omega
   have hd : l.drop (l.length - (k + 1)) = nth l (l.length - (k + 1)) :: l.drop (l.length - k) := by
    rw [List.drop_eq_getElem_cons hi, show l.length - (k + 1) + 1 = l.length - k by omega]
    congr 1
    have := cO hi
    rw [List.getElem?_eq_getElem hi] at this
    exact Option.some.inj this
   rw [hd]
   unfold iZ Ek
   have JS := afq h (nth l (l.length - (k + 1)))
   have Pm := IF (l := acc) (n := nth l (l.length - (k + 1))) (by omega)
   have YG := aft h (out := acc) (p := nth l (l.length - (k + 1))) (by omega)
   cases h1 : nV b (nth l (l.length - (k + 1))) with
   | false =>
    rw [nW (o := .inr 6) (by simp only [dec_lt hi, cm, dD, cO hi, Option.bind_some, JS, h1, Bool.not_false])]
    rfl
   | true =>
    cases h2 : acc.contains (nth l (l.length - (k + 1))) with
    | true =>
     rw [nW (o := .inr 5) (by simp only [dec_lt hi, cm, bF, dD, cO hi, Option.bind_some, JS, h1, Pm, h2, Bool.not_true])]
     rfl
    | false =>
     cases h3 : qa b acc (nth l (l.length - (k + 1))) with
     | false =>
      rw [nW (o := .inr 7) (by simp only [dec_lt hi, cm, bF, dD, cO hi, Option.bind_some, JS, h1, Pm, h2, YG, h3, Bool.not_true, Bool.not_false])]
      rfl
     | true =>
      rw [D1 (s' := (acc ++ [nth l (l.length - (k + 1))], ((l.length - k : Nat) : Int))) (by
       simp only [dec_lt hi, cm, bF, dD, cO hi, Option.bind_some, JS, h1, Pm, h2, YG, h3, Bool.not_true, mU (xs := acc) (ys := [nth l (l.length - (k + 1))]) (by simp; omega), eo (i := l.length - (k + 1)) (by omega), show l.length - (k + 1) + 1 = l.length - k by omega])]
      rw [ih (by omega) _ (by simp; omega)]
      rfl
 have := key l.length (Nat.le_refl _) out (by omega)
 rw [Nat.sub_self, List.drop_zero] at this
 exact this
theorem aeY {b : aq} (h : Small b) (h5 : b.az.length ≤ 5) {l : List Int} (hl : l.length ≤ 100) : ∀ (out : List Int), ∃ g, vf b (dZ out) l = some (g, iZ b out l) ∧ (iZ b out l = 0 → g = dZ (out ++ l) ∧ wj l) := by
 unfold vf
 have key : ∀ k, k ≤ l.length → ∀ acc : List Int, ∃ g, (bt (λ (fI : (Int × (List Bool))) =>
   ah (decide (fI.1 < (l.length : Int)))
   ((idx l fI.1).bind λ gQ =>
   (sX b gQ).bind λ yS =>
   ah (!yS)
   (some (.inr (.inr (fI.2, 6))))
   ((idx fI.2 gQ).bind λ MU =>
   ah MU
   (some (.inr (.inr (fI.2, 5))))
   ((u9 b fI.2 gQ).bind λ MV =>
   ah (!MV)
   (some (.inr (.inr (fI.2, 7))))
   ((iD fI.2 [gQ]).bind λ MW =>
   some (.inl (i64 (fI.1 + 1), MW))))))
   (some (.inr (.inl fI.2)))) (((l.length - k : Nat) : Int), dZ acc)).bind (Sum.elim (λ (tM : (List Bool)) =>
   some (tM, 0)) (λ (q : (List Bool) × Int) => some q)) = some (g, iZ b acc (l.drop (l.length - k))) ∧ (iZ b acc (l.drop (l.length - k)) = 0 → g = dZ (acc ++ l.drop (l.length - k)) ∧ wj (l.drop (l.length - k))) := by
  intro k
  induction k with
  | zero =>
   intro _ acc
   refine ⟨dZ acc, ?_, λ _ => ?_⟩
   ·rw [Nat.sub_zero, List.drop_length, nW (o := .inl (dZ acc)) (by simp only [eR, bF])]
    rfl
   ·rw [Nat.sub_zero, List.drop_length, List.append_nil]
    exact ⟨rfl, λ x hx => by cases hx⟩
  | succ k ih =>
   intro hk acc
   have hi : l.length - (k + 1) < l.length := by omega
   have hd : l.drop (l.length - (k + 1)) = nth l (l.length - (k + 1)) :: l.drop (l.length - k) := by
    rw [List.drop_eq_getElem_cons hi, show l.length - (k + 1) + 1 = l.length - k by omega]
    congr 1
    have := cO hi
    rw [List.getElem?_eq_getElem hi] at this
    exact Option.some.inj this
   rw [hd]
   unfold iZ Ek
   have JR := afp h (nth l (l.length - (k + 1)))
   cases h1 : nV b (nth l (l.length - (k + 1))) with
   | false =>
    rw [nW (o := .inr (dZ acc, 6)) (by simp only [dec_lt hi, cm, dD, cO hi, Option.bind_some, JR, h1, Bool.not_false])]
    exact ⟨_, rfl, λ e => by cases e⟩
   | true =>
    obtain ⟨g0, g1⟩ := Ns.1 h1
    have g5 : nth l (l.length - (k + 1)) < 5 := by omega
    have Pn := GX acc g0 g5
    have YF := afs h h5 (out := acc) g0 g5
    cases h2 : acc.contains (nth l (l.length - (k + 1))) with
    | true =>
     rw [nW (o := .inr (dZ acc, 5)) (by simp only [dec_lt hi, cm, bF, dD, cO hi, Option.bind_some, JR, h1, Pn, h2, Bool.not_true])]
     exact ⟨_, rfl, λ e => by cases e⟩
    | false =>
     cases h3 : qa b acc (nth l (l.length - (k + 1))) with
     | false =>
      rw [nW (o := .inr (dZ acc, 7)) (by simp only [dec_lt hi, cm, bF, dD, cO hi, Option.bind_some, JR, h1, Pn, h2, YF, h3, Bool.not_true, Bool.not_false])]
      exact ⟨_, rfl, λ e => by cases e⟩
     | true =>
      have e93 := V1 (out := acc) (l := [nth l (l.length - (k + 1))]) (λ x hx => by simp at hx; subst hx; exact ⟨g0, g5⟩) (by simp)
      rw [D1 (s' := (((l.length - k : Nat) : Int), dZ (acc ++ [nth l (l.length - (k + 1))]))) (by
       simp only [dec_lt hi, cm, bF, dD, cO hi, Option.bind_some, JR, h1, Pn, h2, YF, h3, e93, Bool.not_true, eo (i := l.length - (k + 1)) (by omega), show l.length - (k + 1) + 1 = l.length - k by omega])]
      obtain ⟨g, hg1, hg2⟩ := ih (by omega) (acc ++ [nth l (l.length - (k + 1))])
      refine ⟨g, hg1, λ e => ?_⟩
      obtain ⟨k1, k2⟩ := hg2 e
      refine ⟨by rw [k1, List.append_assoc]; rfl, λ x hx => ?_⟩
      rcases List.mem_cons.1 hx with rfl | hx
      ·exact ⟨g0, g5⟩
      ·exact k2 x hx
 intro out
 have := key l.length (Nat.le_refl _) out
 rw [Nat.sub_self, List.drop_zero] at this
 exact this
def vW (b : aq) (i : Nat) : Option Int := if dH (nth b.aO i).dr 0 (b.Out.length : Int) = false then some 6 else if dH (nth b.aO i).dQ 0 2 = false then some 1 else none
def zH (b : aq) : Int := if 4 < b.aO.length then 2 else (dA (vW b) 0 b.aO.length).getD 0
theorem axB {b : aq} (h : Small b) : AS b = some (zH b) := by
 unfold AS zH
 have e3 : decide ((b.aO.length : Int) > 4) = decide (4 < b.aO.length) := zm (m := 4)
 have hh := h.yM
 rw [e3]
 by_cases h4 : 4 < b.aO.length
 ·simp [h4]
 simp only [h4, decide_false, bF, if_false]
 refine lO (vW b) b.aO.length (λ i hi => ?_) (by simp only [eR, bF]) rfl
 simp only [dec_lt hi, cm, dD, cO hi, Option.bind_some, vX, eo (i := i) (by omega)]
 unfold vW
 cases dH (nth b.aO i).dr 0 (b.Out.length : Int) with
 | false => rfl
 | true =>
  simp only [Bool.not_true, bF, Bool.true_eq_false, if_false]
  generalize (nth b.aO i).dQ = s
  by_cases h0 : s = 0
  ·subst h0; rfl
  by_cases h1 : s = 1
  ·subst h1; rfl
  by_cases h2 : s = 2
  ·subst h2; rfl
  have : dH s 0 2 = false := by
   cases hb : dH s 0 2 with
   | false => rfl
   | true =>
    simp only [dH, Bool.and_eq_true, decide_eq_true_eq] at hb
    omega
  have e0 : (s == 0) = false := by simpa using h0
  have e1 : (s == 1) = false := by simpa using h1
  have e2 : (s == 2) = false := by simpa using h2
  rw [e0, e1, e2, this]
  rfl
def we (b : aq) : Int := iZ b [] b.Out
def xk (b : aq) : Bool := dH b.aE 0 9999 && (lD b.aa (-999) 999 && lQ b.aa 3)
def dg (b : aq) : Int := if xk b = false then 1 else if nX b ≠ 0 then nX b else if we b ≠ 0 then we b else zH b
theorem axv (b : aq) : AP b = some (if xk b = false then 1 else 0) := by
 unfold AP xk
 rw [vX, Option.bind_some, Wh (by omega) (by omega)]
 cases dH b.aE 0 9999 with
 | false => rfl
 | true => cases lD b.aa (-999) 999 && lQ b.aa 3 <;> rfl
theorem ab6 {b : aq} (h : nX b = 0) : 1 ≤ b.az.length ∧ b.az.length ≤ 5 := by
 unfold nX at h
 split at h
 ·cases h
 ·rename_i hb
  simp only [dH, Bool.and_eq_false_iff, decide_eq_false_iff_not, not_or, Decidable.not_not] at hb
  omega
theorem mK {a : Int} (h : a ≠ 0) : (a != 0) = true := by simpa using h
theorem axz {b : aq} (h : Small b) (h5 : b.az.length ≤ 5) : AR b = some (we b) := by
 unfold AR
 have := h.out
 obtain ⟨g, hg, _⟩ := aeY h h5 (l := b.Out) (by omega) []
 rw [Zj] at hg
 rw [hg]; rfl
theorem VL {b : aq} (h : Small b) : lA b = some (dg b) := by
 unfold lA dg
 rw [show (⟨b.aE, ⟨b.aa.an, b.aa.ax⟩, b.az, b.Out, b.aO⟩ : aq) = b from rfl, axv, Option.bind_some]
 cases xk b with
 | false => rfl
 | true =>
  rw [if_neg (by decide), axx h]
  by_cases hp : nX b = 0
  ·obtain ⟨_, h5⟩ := ab6 hp
   rw [axz h h5, axB h]
   by_cases ho : we b = 0
   ·by_cases hh : zH b = 0
    ·simp [hp, ho, hh]
    ·simp [hp, ho, mK hh]
   ·simp [hp, ho, mK ho]
  ·simp [hp, mK hp]
theorem V0 {b : aq} (h : Small b) : qQ b = some (dg b) := by
 unfold qQ dg xk
 rw [vb, Option.bind_some, Wi, awU h, aeR h (by simp) (by have := h.out; omega)]
 cases dH b.aE 0 9999 with
 | false => rfl
 | true =>
  cases hr : lD b.aa (-999) 999 with
  | false => rfl
  | true =>
   have hw : decide (i64 (b.aa.ax - b.aa.an) ≥ 3) = !lQ b.aa 3 := by
    rw [adq (w := 3) (by omega) (by omega) hr]
    unfold lQ
    by_cases hx : b.aa.ax - b.aa.an < 3
    ·simp [hx]
    ·simp [hx]; omega
   simp only [Bool.not_true, bF, Option.bind_some, hw, Bool.true_and]
   cases lQ b.aa 3 with
   | false => rfl
   | true =>
    simp only [Bool.not_true, bF, Bool.true_eq_false, if_false]
    by_cases hp : nX b = 0
    ·by_cases ho : we b = 0
     ·have ho' : iZ b [] b.Out = 0 := ho
      have e3 : decide ((b.aO.length : Int) > 4) = decide (4 < b.aO.length) := zm (m := 4)
      have hh := h.yM
      simp only [hp, ho, ho', bne_self_eq_false, bF, ne_eq, not_true_eq_false, if_false, e3]
      unfold zH
      by_cases h4 : 4 < b.aO.length
      ·simp [h4]
      simp only [h4, decide_false, bF, if_false]
      refine lO (vW b) b.aO.length (λ i hi => ?_) (by simp only [eR, bF]) rfl
      simp only [dec_lt hi, cm, dD, cO hi, Option.bind_some, vb, eo (i := i) (by omega)]
      unfold vW
      cases dH (nth b.aO i).dr 0 (b.Out.length : Int) with
      | false => rfl
      | true => cases dH (nth b.aO i).dQ 0 2 <;> rfl
     ·have ho' : iZ b [] b.Out ≠ 0 := ho
      simp only [hp, bne_self_eq_false, bF, ne_eq, not_true_eq_false, if_false, mK ho', cm]
      rw [if_pos ho]
      rfl
    ·simp [hp, mK hp]
end Go.Proofs.YtabamagholjdcaaGreatDoor
namespace Go.Proofs.YtabamagholjdcaaGreatDoor
open Go.Lg Go.Proofs
set_option maxRecDepth 10000
structure agw (b : aq) (i : Nat) : Prop where
 arm : -9 ≤ (nth b.az i).dz ∧ (nth b.az i).dz ≤ 9
 weight : 1 ≤ (nth b.az i).Weight.an ∧ (nth b.az i).Weight.an ≤ (nth b.az i).Weight.ax ∧ (nth b.az i).Weight.ax ≤ 99 ∧ (nth b.az i).Weight.ax - (nth b.az i).Weight.an < 3
 on : od (nth b.az i).On (i : Int) = 0
structure Valid (b : aq) : Prop where
 small : Small b
 limit : 0 ≤ b.aE ∧ b.aE ≤ 9999
 fB : -999 ≤ b.aa.an ∧ b.aa.an ≤ b.aa.ax ∧ b.aa.ax ≤ 999 ∧ b.aa.ax - b.aa.an < 3
 n1 : 1 ≤ b.az.length
 n5 : b.az.length ≤ 5
 each : ∀ i, i < b.az.length → agw b i
 out : iZ b [] b.Out = 0
 yM : b.aO.length ≤ 4
 ad4 : ∀ x ∈ b.aO, 0 ≤ x.dr ∧ x.dr ≤ (b.Out.length : Int) ∧ 0 ≤ x.dQ ∧ x.dQ ≤ 2
theorem D9 {n a c : Int} : dH n a c = true ↔ a ≤ n ∧ n ≤ c := by simp [dH]
theorem Wp {x : Reach} {a c : Int} : lD x a c = true ↔ a ≤ x.an ∧ x.an ≤ x.ax ∧ x.ax ≤ c := by simp [lD]
theorem Ws {x : Reach} {w : Int} : lQ x w = true ↔ x.ax - x.an < w := by simp [lQ]
theorem VR {e : Nat → Option Int} {n : Nat} (hne : ∀ i, e i ≠ some 0) (h : (dA e 0 n).getD 0 = 0) : ∀ i, i < n → e i = none := by
 cases hf : dA e 0 n with
 | none => rw [uv] at hf; exact λ i hi => hf i (Nat.zero_le _) (by omega)
 | some o =>
  rw [hf] at h
  obtain ⟨j, _, _, he, _⟩ := vV hf
  have : o = 0 := h
  subst this
  exact absurd he (hne j)
theorem ayU {b : aq} (i : Nat) : vo b i ≠ some 0 := by
 unfold vo
 split
 ·intro e; cases e
 ·split
  ·intro e; cases e
  ·split
   ·intro e; cases e
   ·split
    ·rename_i h; intro e; injection e with e; exact h e
    ·intro e; cases e
theorem amq {b : aq} (i : Nat) : vW b i ≠ some 0 := by
 unfold vW
 split
 ·intro e; cases e
 ·split
  ·intro e; cases e
  ·intro e; cases e
theorem tV {b : aq} (hs : Small b) (h : dg b = 0) : Valid b := by
 unfold dg at h
 split at h
 ·cases h
 rename_i h1
 have h1 : xk b = true := by simpa using h1
 split at h
 ·rename_i h2; exact absurd h h2
 rename_i h2
 have h2 : nX b = 0 := by simpa using h2
 split at h
 ·rename_i h3; exact absurd h h3
 rename_i h3
 have h3 : we b = 0 := by simpa using h3
 unfold xk at h1
 simp only [Bool.and_eq_true, D9, Wp, Ws] at h1
 obtain ⟨g1, g2, g3⟩ := h1
 obtain ⟨n1, n5⟩ := ab6 h2
 have hp : ∀ i, i < b.az.length → vo b i = none := by
  unfold nX at h2
  split at h2
  ·cases h2
  ·exact VR ayU h2
 unfold zH at h
 split at h
 ·cases h
 rename_i h4
 have hh := VR amq h
 refine ⟨hs, g1, ⟨g2.1, g2.2.1, g2.2.2, g3⟩, n1, n5, λ i hi => ?_, h3, by omega, λ x hx => ?_⟩
 ·have := hp i hi
  unfold vo at this
  split at this
  ·cases this
  split at this
  ·cases this
  split at this
  ·cases this
  rename_i hb
  have hb : (dH (nth b.az i).dz (-9) 9 && (lD (nth b.az i).Weight 1 99 && lQ (nth b.az i).Weight 3)) = true := by simpa using hb
  simp only [Bool.and_eq_true, D9, Wp, Ws] at hb
  split at this
  ·cases this
  rename_i hc
  exact ⟨hb.1, ⟨hb.2.1.1, hb.2.1.2.1, hb.2.1.2.2, hb.2.2⟩, by simpa using hc⟩
 ·obtain ⟨i, hi, rfl⟩ := HB hx
  have := hh i hi
  unfold vW at this
  split at this
  ·cases this
  rename_i k1
  split at this
  ·cases this
  rename_i k2
  have k1 : dH (nth b.aO i).dr 0 (b.Out.length : Int) = true := by simpa using k1
  have k2 : dH (nth b.aO i).dQ 0 2 = true := by simpa using k2
  rw [D9] at k1 k2
  exact ⟨k1.1, k1.2, k2.1, k2.2⟩
theorem afn {b : aq} {out : List Int} {p : Int} {r : List Int} : iZ b out (p :: r) = 0 ↔ nV b p = true ∧ out.contains p = false ∧ qa b out p = true ∧ iZ b (out ++ [p]) r = 0 := by
 conv => lhs; unfold iZ Ek
 cases nV b p <;> cases out.contains p <;> cases qa b out p <;> simp
theorem ad6 {b : aq} : ∀ {l out : List Int}, iZ b out l = 0 → ∀ x ∈ l, nV b x = true
 | [], _, _, x, hx => by cases hx
 | p :: r, out, h, x, hx => by
  obtain ⟨h1, _, _, h4⟩ := afn.1 h
  rcases List.mem_cons.1 hx with rfl | hx
  ·exact h1
  ·exact ad6 h4 x hx
theorem aCB {b : aq} (h5 : b.az.length ≤ 5) {l : List Int} (h : ∀ x ∈ l, nV b x = true) : wj l := λ x hx => by
 have := Ns.1 (h x hx)
 omega
theorem Valid.in5 {b : aq} (h : Valid b) : wj b.Out := aCB h.n5 (ad6 h.out)
def j4 (b : aq) (bG : Int) (ws out : List Int) : Nat → Int
 | 0 => bG
 | i + 1 => if out.contains (i : Int) then j4 b bG ws out i else j4 b bG ws out i + (nth b.az i).dz * nth ws i
def nT (b : aq) (bG : Int) (ws out : List Int) : Int := j4 b bG ws out b.az.length
structure vP (b : aq) (bG : Int) (ws : List Int) : Prop where
 bG : -999 ≤ bG ∧ bG ≤ 999
 len : b.az.length ≤ ws.length
 each : ∀ i, i < b.az.length → 0 ≤ nth ws i ∧ nth ws i ≤ 99
theorem VM {a w : Int} (h1 : -9 ≤ a) (h2 : a ≤ 9) (h3 : 0 ≤ w) (h4 : w ≤ 99) : -891 ≤ a * w ∧ a * w ≤ 891 := by
 constructor
 ·have : -9 * w ≤ a * w := Int.mul_le_mul_of_nonneg_right h1 h3
  omega
 ·have : a * w ≤ 9 * w := Int.mul_le_mul_of_nonneg_right h2 h3
  omega
theorem NL {b : aq} (hv : Valid b) {bG : Int} {ws out : List Int} (hf : vP b bG ws) : ∀ i, i ≤ b.az.length → -(999 + 891 * (i : Int)) ≤ j4 b bG ws out i ∧ j4 b bG ws out i ≤ 999 + 891 * (i : Int)
 | 0, _ => by have := hf.bG; simp only [j4]; omega
 | i + 1, hi => by
  have ih := NL hv hf (out := out) i (by omega)
  have hp := (hv.each i (by omega)).arm
  have hw := hf.each i (by omega)
  have hm := VM hp.1 hp.2 hw.1 hw.2
  unfold j4
  split
  ·push_cast; omega
  ·push_cast; omega
theorem aB4 {b : aq} (hv : Valid b) {bG : Int} {ws out : List Int} (hf : vP b bG ws) : -6000 ≤ nT b bG ws out ∧ nT b bG ws out ≤ 6000 := by
 have := NL hv hf (out := out) _ (Nat.le_refl _)
 have := hv.n5
 unfold nT
 omega
theorem afo {b : aq} (hv : Valid b) {bG : Int} {ws out : List Int} (hf : vP b bG ws) : oU b ⟨bG, ws⟩ (dZ out) = some (nT b bG ws out) := by
 unfold oU
 have h5 := hv.n5
 refine (lz (o := nT b bG ws out) (qN (λ i => (j4 b bG ws out i, (i : Int))) b.az.length (λ i hi => ?_) ?_ : bt _ (bG, (0 : Int)) = _)).trans rfl
 ·have hp := (hv.each i hi).arm
  have hw := hf.each i hi
  have hm := VM hp.1 hp.2 hw.1 hw.2
  have hb := NL hv hf (out := out) i (by omega)
  have hl := hf.len
  simp only [dec_lt hi, cm, dD, cO hi, cO (show i < ws.length by omega), Option.bind_some, GX out (p := (i : Int)) (by omega) (by omega), eo (i := i) (by omega), jk (z := (nth b.az i).dz * nth ws i) (by omega) (by omega), jk (z := j4 b bG ws out i + (nth b.az i).dz * nth ws i) (by omega) (by omega)]
  conv => rhs; unfold j4
  cases out.contains (i : Int) <;> rfl
 ·simp only [eR, bF]; rfl
theorem aB0 {b : aq} (hv : Valid b) {bG : Int} {ws out : List Int} (hf : vP b bG ws) (ho : out.length ≤ 1000) : CQ b ⟨bG, ws⟩ out = some (nT b bG ws out) := by
 unfold CQ
 have h5 := hv.n5
 refine (lz (o := nT b bG ws out) (qN (λ i => (j4 b bG ws out i, (i : Int))) b.az.length (λ i hi => ?_) ?_ : bt _ (bG, (0 : Int)) = _)).trans rfl
 ·have hp := (hv.each i hi).arm
  have hw := hf.each i hi
  have hm := VM hp.1 hp.2 hw.1 hw.2
  have hb := NL hv hf (out := out) i (by omega)
  have hl := hf.len
  simp only [dec_lt hi, cm, dD, cO hi, cO (show i < ws.length by omega), Option.bind_some, IF ho, eo (i := i) (by omega), jk (z := (nth b.az i).dz * nth ws i) (by omega) (by omega), jk (z := j4 b bG ws out i + (nth b.az i).dz * nth ws i) (by omega) (by omega)]
  conv => rhs; unfold j4
  cases out.contains (i : Int) <;> rfl
 ·simp only [eR, bF]; rfl
theorem V2 {b : aq} {bG : Int} {ws ws' out out' : List Int} : ∀ n, (∀ i, i < n → nth ws i = nth ws' i) → (∀ i : Nat, i < n → out.contains (i : Int) = out'.contains (i : Int)) → j4 b bG ws out n = j4 b bG ws' out' n
 | 0, _, _ => rfl
 | n + 1, h1, h2 => by
  unfold j4
  rw [h1 n (by omega), h2 n (by omega), V2 n (λ i hi => h1 i (by omega)) (λ i hi => h2 i (by omega))]
def rJ (b : aq) (m : Int) : Bool := decide (m > b.aE) || decide (m < -b.aE)
def BI (m : Int) : Int := if m > 0 then 2 else if m < 0 then 1 else 0
theorem aCR {m : Int} (h1 : -1000000 ≤ m) (h2 : m ≤ 1000000) : jK m [i64 (0 - m)] = if -m > m then -m else m := by
 rw [jk (by omega) (by omega), show (0 - m) = -m by omega]
 rfl
theorem aBX {b : aq} {m : Int} (h1 : -1000000 ≤ m) (h2 : m ≤ 1000000) : vQ b m = some (rJ b m) := by
 unfold vQ rJ
 rw [aCR h1 h2]
 congr 1
 by_cases h : -m > m
 ·rw [if_pos h]
  by_cases h3 : -m > b.aE
  ·simp [h3, show m < -b.aE by omega]
  ·simp [h3, show ¬ m < -b.aE by omega, show ¬ m > b.aE by omega]
 ·rw [if_neg h]
  by_cases h3 : m > b.aE
  ·simp [h3]
  ·simp [h3, show ¬ m < -b.aE by omega]
theorem aL9 {b : aq} (hv : Valid b) (m : Int) : La b m = some (rJ b m) := by
 unfold La rJ
 have := hv.limit
 rw [jk (by omega) (by omega), show (0 - b.aE) = -b.aE by omega]
 cases decide (m > b.aE) <;> rfl
theorem aCN (m : Int) : BD m = some (BI m) := by
 unfold BD BI
 by_cases h1 : m > 0
 ·simp [h1]
 ·by_cases h2 : m < 0 <;> simp [h1, h2]
theorem aMb (m : Int) : Lc m = some (BI m) := by
 unfold Lc BI
 by_cases h1 : m > 0
 ·simp [h1]
 ·by_cases h2 : m < 0 <;> simp [h1, h2]
def mo (b : aq) (bG : Int) (ws : List Int) (n : Nat) : Int := nT b bG ws (b.Out.take n)
def lK (b : aq) (bG : Int) (ws : List Int) : Bool := ((List.range (b.Out.length + 1)).all λ n => !rJ b (mo b bG ws n)) && b.aO.all λ x => BI (mo b bG ws x.dr.toNat) == x.dQ
theorem aCC {l : List Int} (h : wj l) (n : Nat) : wj (l.take n) := λ x hx => h x (List.mem_of_mem_take hx)
theorem aCL {b : aq} (hv : Valid b) {bG : Int} {ws : List Int} (hf : vP b bG ws) : yw b ⟨bG, ws⟩ = some (lK b bG ws) := by
 unfold yw
 have ho := hv.small.out
 have hhl := hv.yM
 rw [eo (i := b.Out.length) (by omega)]
 rw [lO (λ n => if (rJ b (mo b bG ws n) || b.aO.any λ x => x.dr == (n : Int) && x.dQ != BI (mo b bG ws n)) = true then some false else none) (b.Out.length + 1) (d := true) (λ n hn => ?_) (by simp only [eR, bF]) rfl]
 ·rw [VF]
  congr 1
  unfold lK
  rw [Bool.eq_iff_iff]
  simp only [List.all_eq_true, List.mem_range, Bool.and_eq_true, Bool.not_eq_true', Bool.or_eq_false_iff, List.any_eq_false]
  constructor
  ·intro h
   refine ⟨λ n hn => (h n hn).1, λ x hx => ?_⟩
   obtain ⟨k1, k2, _⟩ := hv.ad4 x hx
   have := (h x.dr.toNat (by omega)).2 x hx
   have e : ((x.dr.toNat : Nat) : Int) = x.dr := Int.toNat_of_nonneg k1
   rw [e] at this
   rw [beq_iff_eq]
   exact Classical.byContradiction λ hne => this ⟨by simp, by simpa using λ hx => hne hx.symm⟩
  ·rintro ⟨h1, h2⟩ n hn
   refine ⟨h1 n hn, λ x hx => ?_⟩
   have := h2 x hx
   by_cases hxn : x.dr = (n : Int)
   ·rw [hxn, Int.toNat_natCast, beq_iff_eq] at this
    simp only [hxn, this, bne_self_eq_false, Bool.false_eq_true, and_false, not_false_eq_true]
   ·simp [hxn]
 ·have hb := aB4 hv hf (out := b.Out.take n)
  simp only [dec_lt hn, cm, Pj (show n ≤ b.Out.length by omega), Option.bind_some, Wm (aCC hv.in5 n) (by simp; omega), afo hv hf, aBX (b := b) (m := nT b bG ws (b.Out.take n)) (by omega) (by omega), eo (i := n) (by omega),
   aCM (l := b.aO) (f := λ y => yz y (n : Int) (nT b bG ws (b.Out.take n))) (p := λ x => x.dr == (n : Int) && x.dQ != BI (mo b bG ws n)) (by omega) (λ x _ => by
    unfold yz mo
    rw [aCN]
    cases x.dr == (n : Int) <;> rfl)]
  rw [show rJ b (nT b bG ws (b.Out.take n)) = rJ b (mo b bG ws n) from rfl]
  cases rJ b (mo b bG ws n) with
  | true => rfl
  | false =>
   cases b.aO.any λ x => x.dr == (n : Int) && x.dQ != BI (mo b bG ws n) <;> rfl
theorem aMa {b : aq} (hv : Valid b) {bG : Int} {ws : List Int} (hf : vP b bG ws) : Lb b ⟨bG, ws⟩ = some (lK b bG ws) := by
 unfold Lb lK
 have ho := hv.small.out
 have hhl := hv.yM
 rw [ae2 (λ n => if rJ b (mo b bG ws n) = true then some false else none) (b.Out.length + 1) (λ n hn => ?_) (by simp only [aKR, bF])]
 ·have ha := VF (λ n => rJ b (mo b bG ws n)) (b.Out.length + 1)
  cases hf1 : dA (λ n => if rJ b (mo b bG ws n) = true then some false else none) 0 (b.Out.length + 1) with
  | some o =>
   rw [hf1] at ha
   rw [← ha]
   obtain ⟨j, _, _, he, _⟩ := vV hf1
   split at he
   ·cases he; rfl
   ·cases he
  | none =>
   rw [hf1] at ha
   rw [← ha]
   simp only [Option.getD_none, Bool.true_and, Option.bind_some, Sum.elim_inl]
   rw [lO (λ i => if (BI (mo b bG ws (nth b.aO i).dr.toNat) != (nth b.aO i).dQ) = true then some false else none) b.aO.length (d := true) (λ i hi => ?_) (by simp only [eR, bF]) rfl]
   ·rw [VF]
    congr 1
    rw [Bool.eq_iff_iff]
    simp only [List.all_eq_true, List.mem_range, Bool.not_eq_true', bne_eq_false_iff_eq, beq_iff_eq]
    constructor
    ·intro h x hx
     obtain ⟨i, hi, rfl⟩ := HB hx
     exact h i hi
    ·intro h i hi
     exact h _ (jy hi)
   ·obtain ⟨k1, k2, _⟩ := hv.ad4 _ (jy hi)
    have e : ((nth b.aO i).dr.toNat : Int) = (nth b.aO i).dr := Int.toNat_of_nonneg k1
    have ec := Pj (xs := b.Out) (k := (nth b.aO i).dr.toNat) (by omega)
    rw [e] at ec
    simp only [dec_lt hi, cm, dD, cO hi, Option.bind_some, ec, aB0 hv hf (out := b.Out.take (nth b.aO i).dr.toNat) (by simp; omega), aMb, eo (i := i) (by omega)]
    rw [show nT b bG ws (b.Out.take (nth b.aO i).dr.toNat) = mo b bG ws (nth b.aO i).dr.toNat from rfl]
    cases BI (mo b bG ws (nth b.aO i).dr.toNat) != (nth b.aO i).dQ <;> rfl
 ·simp only [aKQ (show n ≤ b.Out.length by omega), cm, Pj (show n ≤ b.Out.length by omega), Option.bind_some, aB0 hv hf (out := b.Out.take n) (by simp; omega), aL9 hv, eo (i := n) (by omega)]
  rw [show rJ b (nT b bG ws (b.Out.take n)) = rJ b (mo b bG ws n) from rfl]
  cases rJ b (mo b bG ws n) <;> rfl
theorem Wn {ws : List Int} {i : Nat} (h : i < ws.length) (h5 : ws.length ≤ 5) : nth (fT [0, 0, 0, 0, 0] ws) i = nth ws i := by
 unfold fT nth
 rw [List.getD_eq_getElem?_getD, List.getD_eq_getElem?_getD, List.getElem?_append_left (by simp; omega), List.getElem?_take_of_lt (by simp; omega)]
theorem VE {ws : List Int} (h5 : ws.length ≤ 5) : (fT [0, 0, 0, 0, 0] ws).length = 5 := by
 unfold fT
 simp only [List.length_append, List.length_take, List.length_drop, List.length_cons, List.length_nil]
 omega
theorem ae7 {b : aq} (hv : Valid b) {bG : Int} {ws : List Int} (hl : ws.length = b.az.length) (hf : vP b bG ws) : vP b bG (fT [0, 0, 0, 0, 0] ws) := by
 have := hv.n5
 refine ⟨hf.bG, by rw [VE (by omega)]; omega, λ i hi => ?_⟩
 rw [Wn (by omega) (by omega)]
 exact hf.each i hi
theorem afE {b : aq} (hv : Valid b) {bG : Int} {ws out : List Int} (hl : ws.length = b.az.length) : nT b bG (fT [0, 0, 0, 0, 0] ws) out = nT b bG ws out := by
 have := hv.n5
 exact V2 _ (λ i hi => Wn (by omega) (by omega)) (λ _ _ => rfl)
theorem aCU {b : aq} (hv : Valid b) {bG : Int} {ws : List Int} (hl : ws.length = b.az.length) : lK b bG (fT [0, 0, 0, 0, 0] ws) = lK b bG ws := by
 unfold lK mo
 simp only [afE hv hl]
end Go.Proofs.YtabamagholjdcaaGreatDoor
namespace Go.Proofs.YtabamagholjdcaaGreatDoor
open Go.Lg Go.Proofs
set_option maxRecDepth 10000
theorem aMh {l : List Int} (hl : l.length ≤ 1000000) : xM l l = some false := by
 unfold xM
 refine (lO (λ _ => none) l.length (d := false) (λ i hi => ?_) (by simp only [eR, bF]) rfl).trans ?_
 ·have h1 : decide ((i : Int) ≥ (l.length : Int)) = false := by simpa using hi
  simp only [dec_lt hi, cm, h1, bF, dD, cO hi, Option.bind_some, eo (i := i) (by omega)]
  have h2 : decide (nth l i < nth l i) = false := by simp
  rw [h2]; rfl
 ·rw [uv.2 (λ _ _ _ => rfl)]; rfl
theorem axJ {l : List Int} (hl : l.length ≤ 1000000) : pM l l = some true := by
 unfold pM
 rw [aMh hl]
 rfl
end Go.Proofs.YtabamagholjdcaaGreatDoor
namespace Go.Proofs.YtabamagholjdcaaGreatDoor
open Go.Lg Go.Proofs
set_option maxRecDepth 10000
def kS {α S : Type} (ys : α → S → Option (S × Bool)) : List α → S → Option (S × Bool)
 | [], s => some (s, true)
 | a :: l, s => (ys a s).bind λ r => if r.2 = true then kS ys l r.1 else some (r.1, false)
theorem afh {α S : Type} (ys : α → S → Option (S × Bool)) : ∀ (l m : List α) (s : S), kS ys (l ++ m) s = (kS ys l s).bind λ r => if r.2 = true then kS ys m r.1 else some (r.1, false)
 | [], _, _ => by simp [kS]
 | a :: l, m, s => by
  simp only [List.cons_append, kS]
  cases ys a s with
  | none => rfl
  | some r =>
   simp only [Option.bind_some]
   cases hr : r.2 with
   | true => simp only [if_true]; exact afh ys l m r.1
   | false => simp
theorem ad7 {α S X E : Type} {ys : α → S → Option (S × Bool)} {body : S × X → Option ((S × X) ⊕ (S ⊕ E))} (g : S → E) (x : Nat → X) (seg : Nat → List α) (n : Nat)
  (h : ∀ j s r, j < n → kS ys (seg j) s = some r → body (s, x j) = some (if r.2 = true then .inl (r.1, x (j + 1)) else .inr (.inr (g r.1)))) (hn : ∀ s, body (s, x n) = some (.inr (.inl s))) {s : S} {r : S × Bool}
  (hr : kS ys ((List.range n).flatMap seg) s = some r) : bt body (s, x 0) = some (if r.2 = true then .inl r.1 else .inr (g r.1)) := by
 have key : ∀ k, k ≤ n → ∀ s, kS ys ((List.range' (n - k) k).flatMap seg) s = some r → bt body (s, x (n - k)) = some (if r.2 = true then .inl r.1 else .inr (g r.1)) := by
  intro k
  induction k with
  | zero =>
   intro _ s hr
   simp only [List.range'_zero, List.flatMap_nil, kS, Option.some.injEq] at hr
   subst hr
   exact nW (hn s)
  | succ k ih =>
   intro hk s hr
   have e : n - k = n - (k + 1) + 1 := by omega
   rw [List.range'_succ, List.flatMap_cons, afh] at hr
   obtain ⟨q, hq, hr⟩ := ao hr
   have hb := h (n - (k + 1)) s q (by omega) hq
   split at hr
   ·rename_i h2
    rw [if_pos h2] at hb
    rw [D1 hb, ← e]
    exact ih (by omega) _ (by rw [e]; exact hr)
   ·rename_i h2
    rw [if_neg h2] at hb
    cases hr
    rw [nW hb]
    simp
 have := key n (Nat.le_refl n) s (by rw [Nat.sub_self, ← List.range_eq_range']; exact hr)
 rwa [Nat.sub_self] at this
theorem Nu {α X : Type} {body : List α × X → Option ((List α × X) ⊕ List α)} (x : Nat → X) (seg : Nat → List α) (n m : Nat) (acc : List α) (hm : ∀ j, j < n → (seg j).length ≤ m)
  (h : ∀ j l, j < n → l.length ≤ acc.length + j * m → body (l, x j) = some (.inl (l ++ seg j, x (j + 1)))) (hn : ∀ l, body (l, x n) = some (.inr l)) : bt body (acc, x 0) = some (acc ++ (List.range n).flatMap seg) := by
 have hl : ∀ j, j ≤ n → ((List.range j).flatMap seg).length ≤ j * m := by
  intro j
  induction j with
  | zero => intro _; simp
  | succ j ih =>
   intro hj
   have := ih (by omega)
   have := hm j (by omega)
   rw [List.range_succ, List.flatMap_append, List.length_append, Nat.add_mul]
   simp only [List.flatMap_cons, List.flatMap_nil, List.append_nil]
   omega
 have := qN (λ j => (acc ++ (List.range j).flatMap seg, x j)) n (body := body) (o := acc ++ (List.range n).flatMap seg) (λ j hj => ?_) (hn _)
 ·simpa using this
 ·rw [h j _ hj (by rw [List.length_append]; have := hl j (by omega); omega), List.range_succ, List.flatMap_append]
  simp
def p9 (x : Reach) : List Int := (List.range (x.ax + 1 - x.an).toNat).map λ (j : Nat) => x.an + (j : Int)
theorem ax0 {x : Reach} {n : Int} : n ∈ p9 x ↔ x.an ≤ n ∧ n ≤ x.ax := by
 simp only [p9, List.mem_map, List.mem_range]
 constructor
 ·rintro ⟨j, hj, rfl⟩; omega
 ·intro h; exact ⟨(n - x.an).toNat, by omega, by omega⟩
theorem aeh {x : Reach} (h : x.ax - x.an < 3) : (p9 x).length ≤ 3 := by simp [p9]; omega
def vS (b : aq) : Nat → Nat → List (List Int)
 | 0, _ => [[]]
 | j + 1, i => (p9 (nth b.az i).Weight).flatMap λ n => (vS b j (i + 1)).map (n :: ·)
def lP (b : aq) : Nat → List (List Int)
 | 0 => [[]]
 | i + 1 => (lP b i).flatMap λ a => (p9 (nth b.az i).Weight).map λ n => a ++ [n]
def oT (b : aq) : List (List Int) := vS b b.az.length 0
theorem afI (b : aq) : ∀ j i, (lP b i).flatMap (λ a => (vS b j i).map (a ++ ·)) = lP b (i + j)
 | 0, i => by simp [vS]
 | j + 1, i => by
  rw [show i + (j + 1) = i + 1 + j by omega, ← afI b j (i + 1)]
  simp only [lP, vS, List.map_flatMap, List.flatMap_assoc, List.map_map, List.flatMap_map]
  congr 1
  funext a
  congr 1
  funext n
  congr 1
  funext l
  simp
theorem ae1 (b : aq) : lP b b.az.length = oT b := by
 have := afI b b.az.length 0
 rw [Nat.zero_add] at this
 rw [← this]
 simp [lP, oT]
theorem aCW (b : aq) : ∀ j i l, l ∈ vS b j i → l.length = j ∧ ∀ k, k < j → (nth b.az (i + k)).Weight.an ≤ nth l k ∧ nth l k ≤ (nth b.az (i + k)).Weight.ax
 | 0, _, l, h => by simp [vS] at h; subst h; exact ⟨rfl, λ k hk => by omega⟩
 | j + 1, i, l, h => by
  simp only [vS, List.mem_flatMap, List.mem_map] at h
  obtain ⟨n, hn, m, hm, rfl⟩ := h
  obtain ⟨h1, h2⟩ := aCW b j (i + 1) m hm
  refine ⟨by simp [h1], λ k hk => ?_⟩
  cases k with
  | zero => exact ax0.1 hn
  | succ k =>
   have := h2 k (by omega)
   rw [show i + 1 + k = i + (k + 1) by omega] at this
   exact this
theorem aCf {b : aq} {l : List Int} (h : l ∈ oT b) : l.length = b.az.length ∧ ∀ k, k < b.az.length → (nth b.az k).Weight.an ≤ nth l k ∧ nth l k ≤ (nth b.az k).Weight.ax := by
 have := aCW b b.az.length 0 l h
 simpa using this
def de (b : aq) : List cB := (p9 b.aa).flatMap λ n => ((oT b).filter (lK b n)).map λ w => ⟨n, w⟩
abbrev Z5 : List Int := [0, 0, 0, 0, 0]
def wk (c : cB) : bu := ⟨c.aa, fT Z5 c.fD⟩
theorem aCV {pre : List Int} (h : pre.length < 5) (n : Int) : (fT Z5 pre).set pre.length n = fT Z5 (pre ++ [n]) ∧ ∀ m : Int, (fT Z5 (pre ++ [m])).set pre.length n = fT Z5 (pre ++ [n]) := by
 match pre, h with
 | [], _ => exact ⟨rfl, λ _ => rfl⟩
 | [_], _ => exact ⟨rfl, λ _ => rfl⟩
 | [_, _], _ => exact ⟨rfl, λ _ => rfl⟩
 | [_, _, _], _ => exact ⟨rfl, λ _ => rfl⟩
 | [_, _, _, _], _ => exact ⟨rfl, λ _ => rfl⟩
def VA (l : List Int) : Prop := ∀ i, i < l.length → 0 ≤ nth l i ∧ nth l i ≤ 99
theorem aCD {l : List Int} {n : Int} (h : VA l) (h0 : 0 ≤ n) (h9 : n ≤ 99) : VA (l ++ [n]) := λ i hi => by
 simp only [List.length_append, List.length_cons, List.length_nil] at hi
 by_cases hl : i < l.length
 ·rw [show nth (l ++ [n]) i = nth l i by unfold nth; rw [List.getD_eq_getElem?_getD, List.getD_eq_getElem?_getD, List.getElem?_append_left hl]]
  exact h i hl
 ·rw [show nth (l ++ [n]) i = n by unfold nth; rw [List.getD_eq_getElem?_getD, List.getElem?_append_right (by omega), show i - l.length = 0 by omega]; rfl]
  exact ⟨h0, h9⟩
theorem aCp {b : aq} {bG : Int} {w : List Int} (hb : -999 ≤ bG ∧ bG ≤ 999) (hl : w.length = b.az.length) (h : VA w) : vP b bG w := ⟨hb, by omega, λ i hi => h i (by omega)⟩
theorem afu {b : aq} (hv : Valid b) {S : Type} (ys : bu → S → Option (S × Bool)) {bG : Int} (hb : -999 ≤ bG ∧ bG ≤ 999) : ∀ (j k : Nat) (pre : List Int) (s : S) (r : S × Bool), pre.length + j = b.az.length → j < k → VA pre →
  kS ys ((((vS b j pre.length).map (pre ++ ·)).filter (lK b bG)).map λ w => wk ⟨bG, w⟩) s = some r → sY ys k ⟨bG, fT Z5 pre⟩ (pre.length : Int) b s = some r
 | 0, 0, _, _, _, _, hk, _, _ => by omega
 | 0, k + 1, pre, s, r, hl, _, hin, hr => by
  rw [Nat.add_zero] at hl
  unfold sY
  have hf := aCp hb hl hin
  rw [show ((pre.length : Int) == (b.az.length : Int)) = true by rw [hl]; simp, cm, aCL hv (ae7 hv hl hf), aCU hv hl, Option.bind_some]
  simp only [vS, List.map_cons, List.map_nil, List.append_nil] at hr
  cases hs : lK b bG pre with
  | true =>
   simp only [List.filter_cons, hs, if_true, List.filter_nil, List.map_cons, List.map_nil, kS] at hr
   obtain ⟨q, hq, hr⟩ := ao hr
   rw [show ys ⟨bG, fT Z5 pre⟩ s = some q from hq]
   simp only [Bool.not_true, bF, Option.bind_some]
   split at hr
   ·rename_i h2; cases hr; rw [h2]
   ·rename_i h2; cases hr; simp at h2; rw [h2]
  | false =>
   simp [List.filter_cons, hs, kS] at hr
   subst hr
   rfl
 | j + 1, 0, _, _, _, _, hk, _, _ => by omega
 | j + 1, k + 1, pre, s, r, hl, hk, hin, hr => by
  unfold sY
  have h5 := hv.n5
  have hw := (hv.each pre.length (by omega)).weight
  rw [show ((pre.length : Int) == (b.az.length : Int)) = false by simp; omega, bF, dD, cO (by omega), Option.bind_some]
  generalize hX : (nth b.az pre.length).Weight = X at hw
  have e0 : (X.an, fT Z5 pre) = (λ q : Nat => (X.an + (q : Int), if q = 0 then fT Z5 pre else fT Z5 (pre ++ [X.an + ((q - 1 : Nat) : Int)]))) 0 := by simp
  rw [e0]
  refine (lz (ad7 (ys := ys) (E := S × Bool) (λ s => (s, false)) (λ q : Nat => (X.an + (q : Int), if q = 0 then fT Z5 pre else fT Z5 (pre ++ [X.an + ((q - 1 : Nat) : Int)])))
    (λ q => (((vS b j (pre.length + 1)).map ((pre ++ [X.an + (q : Int)]) ++ ·)).filter (lK b bG)).map λ w => wk ⟨bG, w⟩) (X.ax + 1 - X.an).toNat (λ q s r hq hr => ?_) (λ s => ?_) (s := s) (r := r) ?_)).trans ?_
  rotate_right
  ·cases h2 : r.2 with
   | true => simp only [if_true, Sum.elim_inl]; rw [← h2]
   | false => simp only [Bool.false_eq_true, if_false, Sum.elim_inr]; rw [← h2]
  ·have zY : (if q = 0 then fT Z5 pre else fT Z5 (pre ++ [X.an + ((q - 1 : Nat) : Int)])).set pre.length (X.an + (q : Int)) = fT Z5 (pre ++ [X.an + (q : Int)]) := by
    have hs := aCV (pre := pre) (by omega) (X.an + (q : Int))
    split
    ·exact hs.1
    ·exact hs.2 _
   have hlen : (if q = 0 then fT Z5 pre else fT Z5 (pre ++ [X.an + ((q - 1 : Nat) : Int)])).length = 5 := by
    split
    ·exact VE (by omega)
    ·exact VE (by simp; omega)
   have ih := afu hv ys hb j k (pre ++ [X.an + (q : Int)]) s r (by simp; omega) (by omega) (aCD hin (by omega) (by omega)) (by simpa using hr)
   simp only [List.length_append, List.length_cons, List.length_nil, Nat.zero_add] at ih
   simp only [show decide (X.an + (q : Int) ≤ X.ax) = true by simp; omega, cm, dD, Int.toNat_natCast, eo (i := pre.length) (by omega), zY]
   rw [cO (by rw [hlen]; omega), Option.bind_some, ih, Option.bind_some]
   have e1 : i64 (X.an + (q : Int) + 1) = X.an + ((q + 1 : Nat) : Int) := by rw [jk (by omega) (by omega)]; omega
   cases r.2 with
   | true => simp [e1, bF]
   | false => simp [cm]
  ·simp only [show decide (X.an + (((X.ax + 1 - X.an).toNat : Nat) : Int) ≤ X.ax) = false by simp; omega, bF]
  ·rw [← hr]
   congr 1
   simp only [vS, hX, p9, List.flatMap_map, List.map_flatMap, List.filter_flatMap, List.map_map]
   congr 1
   funext q
   congr 2
   congr 1
   funext l
   simp
theorem aeS {b : aq} (hv : Valid b) {S : Type} (ys : bu → S → Option (S × Bool)) {s : S} {r : S × Bool} (hr : kS ys ((de b).map wk) s = some r) : pK ys b s = some r.1 := by
 unfold pK
 have h5 := hv.n5
 have hw := hv.fB
 generalize hX : b.aa = X at hw
 have e0 : X.an = (λ q : Nat => X.an + (q : Int)) 0 := by simp
 rw [e0]
 refine (lz (ad7 (ys := ys) (E := S) (λ s => s) (λ q : Nat => X.an + (q : Int)) (λ q => ((oT b).filter (lK b (X.an + (q : Int)))).map λ w => wk ⟨X.an + (q : Int), w⟩) (X.ax + 1 - X.an).toNat (λ q s r hq hr => ?_) (λ s => ?_) (s := s) (r := r) ?_)).trans ?_
 rotate_right
 ·cases h2 : r.2 with
  | true => simp
  | false => simp
 ·have h := afu hv ys (bG := X.an + (q : Int)) (by omega) b.az.length 9 [] s r (by simp) (by omega) (λ i hi => by simp at hi) (by simpa [oT] using hr)
  have h' : sY ys 9 ⟨X.an + (q : Int), [0, 0, 0, 0, 0]⟩ 0 b s = some r := h
  have e1 : i64 (X.an + (q : Int) + 1) = X.an + ((q + 1 : Nat) : Int) := by rw [jk (by omega) (by omega)]; omega
  simp only [show decide (X.an + (q : Int) ≤ X.ax) = true by simp; omega, cm, h', Option.bind_some, e1]
  cases r.2 with
  | true => simp [bF]
  | false => simp [cm]
 ·simp only [show decide (X.an + (((X.ax + 1 - X.an).toNat : Nat) : Int) ≤ X.ax) = false by simp; omega, bF]
 ·rw [← hr]
  congr 1
  simp only [de, hX, p9, List.flatMap_map, List.map_flatMap, List.map_map]
  rfl
theorem aeg {b : aq} (hv : Valid b) : ∀ i, i ≤ b.az.length → (lP b i).length ≤ 3 ^ i
 | 0, _ => by simp [lP]
 | i + 1, hi => by
  have ih := aeg hv i (by omega)
  have hr := aeh (hv.each i (by omega)).weight.2.2.2
  have key : ∀ l : List (List Int), (l.flatMap λ a => (p9 (nth b.az i).Weight).map λ n => a ++ [n]).length ≤ l.length * 3 := by
   intro l
   induction l with
   | nil => simp
   | cons a l ih => simp only [List.flatMap_cons, List.length_append, List.length_map, List.length_cons]; omega
  have := key (lP b i)
  simp only [lP]
  rw [Nat.pow_succ]
  omega
theorem aCT (b : aq) : ∀ i, ∀ l ∈ lP b i, l.length = i
 | 0, l, h => by simp [lP] at h; subst h; rfl
 | i + 1, l, h => by
  simp only [lP, List.mem_flatMap, List.mem_map] at h
  obtain ⟨a, ha, n, _, rfl⟩ := h
  simp [aCT b i a ha]
theorem Zh {α β : Type} [Inhabited α] (f : α → List β) (l : List α) : (List.range l.length).flatMap (λ j => f (nth l j)) = l.flatMap f := by
 have e : (List.range l.length).map (nth l) = l := (aB6 (by simp) (λ i hi => by
  rw [List.length_map, List.length_range] at hi
  have h1 := cO (l := (List.range l.length).map (nth l)) (i := i) (by simpa using hi)
  simp only [List.getElem?_map, List.getElem?_range hi, Option.map_some, Option.some.injEq] at h1
  exact h1.symm))
 have h : ((List.range l.length).map (nth l)).flatMap f = l.flatMap f := by rw [e]
 rw [List.flatMap_map] at h
 exact h
theorem afg {α β : Type} (f : α → β) : ∀ l : List α, l.flatMap (λ x => [f x]) = l.map f
 | [] => rfl
 | a :: l => by rw [List.flatMap_cons, afg f l]; rfl
theorem ae0 {i : Nat} (h : i ≤ 5) : 3 ^ i ≤ 243 := by
 match i, h with
 | 0, _ => decide
 | 1, _ => decide
 | 2, _ => decide
 | 3, _ => decide
 | 4, _ => decide
 | 5, _ => decide
theorem aNv {b : aq} {bG : Int} (l : List (List Int)) : (l.flatMap λ w => if lK b bG w = true then [(⟨bG, w⟩ : cB)] else []) = (l.filter (lK b bG)).map λ w => ⟨bG, w⟩ := by
 induction l with
 | nil => rfl
 | cons a l ih =>
  rw [List.flatMap_cons, ih, List.filter_cons]
  cases lK b bG a <;> simp
theorem aBZ {b : aq} (hv : Valid b) : AF b = some (de b) := by
 unfold AF
 have h5 := hv.n5
 have hlen := aeg hv
 refine (lz (o := oT b) ?_).trans ?_
 ·have e0 : ([[]], (0 : Int)) = (λ i : Nat => (lP b i, (i : Int))) 0 := rfl
  rw [e0, ← ae1]
  refine qN (λ i : Nat => (lP b i, (i : Int))) b.az.length (λ i hi => ?_) (by simp only [eR, bF])
  have hw := (hv.each i hi).weight
  have hpl := hlen i (by omega)
  have hp3 := ae0 (i := i) (by omega)
  simp only [dec_lt hi, cm]
  rw [lz (o := lP b (i + 1)) ?_, eo (i := i) (by omega)]
  have q0 : ([], (0 : Int)) = (λ a : List (List Int) => (a, ((λ j : Nat => (j : Int)) 0))) [] := rfl
  rw [q0, show lP b (i + 1) = [] ++ (List.range (lP b i).length).flatMap (λ j => (p9 (nth b.az i).Weight).map λ n => nth (lP b i) j ++ [n]) by rw [List.nil_append, Zh (λ a => (p9 (nth b.az i).Weight).map λ n => a ++ [n])]; rfl]
  refine Nu (λ j : Nat => (j : Int)) (λ j => (p9 (nth b.az i).Weight).map λ n => nth (lP b i) j ++ [n]) (lP b i).length 3 [] (λ j _ => by rw [List.length_map]; exact aeh hw.2.2.2) (λ j l hj hl => ?_) (λ l => by simp only [eR, bF])
  have hal := aCT b i _ (jy hj)
  simp only [dec_lt hj, cm, dD, cO hi, cO hj, Option.bind_some]
  generalize (nth b.az i).Weight = X at hw
  rw [lz (o := l ++ (p9 X).map λ n => nth (lP b i) j ++ [n]) ?_, eo (i := j) (by omega)]
  have q1 : X.an = (λ q : Nat => X.an + (q : Int)) 0 := by simp
  have q2 : (p9 X).map (λ n => nth (lP b i) j ++ [n]) = (List.range (X.ax + 1 - X.an).toNat).flatMap (λ (q : Nat) => [nth (lP b i) j ++ [X.an + (q : Int)]]) := by
   rw [afg (λ q : Nat => nth (lP b i) j ++ [X.an + (q : Int)])]
   simp only [p9, List.map_map]
   rfl
  rw [q1, q2]
  refine Nu (λ q : Nat => X.an + (q : Int)) (λ q => [nth (lP b i) j ++ [X.an + (q : Int)]]) (X.ax + 1 - X.an).toNat 1 l (λ q _ => by simp) (λ q l' hq hl' => ?_) (λ l' => ?_)
  ·have e1 : i64 (X.an + (q : Int) + 1) = X.an + ((q + 1 : Nat) : Int) := by rw [jk (by omega) (by omega)]; omega
   simp only [List.length_nil] at hl
   simp only [show decide (X.an + (q : Int) ≤ X.ax) = true by simp; omega, cm, Option.bind_some, e1]
   rw [mU (by simp [hal]; omega), Option.bind_some, mU (by simp [hal]; omega), Option.bind_some, mU (by simp; omega), Option.bind_some]
   simp
  ·simp only [show decide (X.an + (((X.ax + 1 - X.an).toNat : Nat) : Int) ≤ X.ax) = false by simp; omega, bF]
 ·have hw := hv.fB
  have hal : (oT b).length ≤ 243 := by
   rw [← ae1]
   exact Nat.le_trans (hlen _ (Nat.le_refl _)) (ae0 h5)
  generalize hX : b.aa = X at hw
  rw [lz (o := de b) ?_]
  have q1 : X.an = (λ q : Nat => X.an + (q : Int)) 0 := by simp
  have q2 : de b = [] ++ (List.range (X.ax + 1 - X.an).toNat).flatMap (λ (q : Nat) => ((oT b).filter (lK b (X.an + (q : Int)))).map λ w => (⟨X.an + (q : Int), w⟩ : cB)) := by
   simp only [de, hX, p9, List.flatMap_map, List.nil_append]
  rw [q1, q2]
  refine Nu (λ q : Nat => X.an + (q : Int)) (λ q => ((oT b).filter (lK b (X.an + (q : Int)))).map λ w => (⟨X.an + (q : Int), w⟩ : cB)) (X.ax + 1 - X.an).toNat 243 [] (λ q _ => by rw [List.length_map]; exact Nat.le_trans (List.length_filter_le _ _) hal) (λ q l hq hl => ?_) (λ l' => ?_)
  ·have e1 : i64 (X.an + (q : Int) + 1) = X.an + ((q + 1 : Nat) : Int) := by rw [jk (by omega) (by omega)]; omega
   simp only [show decide (X.an + (q : Int) ≤ X.ax) = true by simp; omega, cm]
   rw [lz (o := l ++ ((oT b).filter (lK b (X.an + (q : Int)))).map λ w => (⟨X.an + (q : Int), w⟩ : cB)) ?_, e1]
   have q3 : (l, (0 : Int)) = (l, (λ j : Nat => (j : Int)) 0) := rfl
   rw [q3, ← aNv, ← Zh (λ w => if lK b (X.an + (q : Int)) w = true then [(⟨X.an + (q : Int), w⟩ : cB)] else [])]
   refine Nu (λ j : Nat => (j : Int)) (λ j => if lK b (X.an + (q : Int)) (nth (oT b) j) = true then [(⟨X.an + (q : Int), nth (oT b) j⟩ : cB)] else []) (oT b).length 1 l (λ j _ => by split <;> simp) (λ j l' hj hl' => ?_) (λ l' => by simp only [eR, bF])
   have hm := aCf (jy hj)
   have hf : vP b (X.an + (q : Int)) (nth (oT b) j) := ⟨by omega, by omega, λ k hk => by
    have h1 := hm.2 k hk
    have h2 := (hv.each k hk).weight
    omega⟩
   simp only [List.length_nil] at hl
   simp only [dec_lt hj, cm, dD, cO hj, Option.bind_some, aMa hv hf, eo (i := j) (by omega)]
   cases lK b (X.an + (q : Int)) (nth (oT b) j) with
   | true => rw [cm, mU (by simp; omega)]; rfl
   | false => simp [bF]
  ·simp only [show decide (X.an + (((X.ax + 1 - X.an).toNat : Nat) : Int) ≤ X.ax) = false by simp; omega, bF]
end Go.Proofs.YtabamagholjdcaaGreatDoor
namespace Go.Proofs.YtabamagholjdcaaGreatDoor
open Go.Lg Go.Proofs
set_option maxRecDepth 10000
theorem afi {α S O : Type} {body : α → S → Option (S ⊕ O)} (I : Nat → S → Prop) (f : α → S → S) : ∀ (l : List α) (k : Nat) (s : S), I k s → (∀ j s a, j < k + l.length → I j s → a ∈ l → body a s = some (.inl (f a s)) ∧ I (j + 1) (f a s)) →
  kS (c9 body) l (.inl s) = some (.inl (l.foldl (λ s a => f a s) s), true)
 | [], _, _, _, _ => rfl
 | a :: l, k, s, hI, h => by
  obtain ⟨h1, h2⟩ := h k s a (by simp) hI (by simp)
  simp only [kS, c9, h1, Option.map_some, Option.bind_some, Sum.isLeft_inl, if_true, List.foldl_cons]
  exact afi I f l (k + 1) _ h2 (λ j s a' hj hI ha => h j s a' (by simp only [List.length_cons]; omega) hI (by simp [ha]))
def nZ (b : aq) : Bool := !(de b).isEmpty
theorem aCe {b : aq} (hv : Valid b) : (oT b).length ≤ 243 := by
 rw [← ae1]
 exact Nat.le_trans (aeg hv _ (Nat.le_refl _)) (ae0 hv.n5)
theorem Yz {b : aq} (hv : Valid b) : (de b).length ≤ 729 := by
 have h1 := aCe hv
 have h2 := aeh hv.fB.2.2.2
 have key : ∀ l : List Int, (l.flatMap λ n => ((oT b).filter (lK b n)).map λ w => (⟨n, w⟩ : cB)).length ≤ l.length * 243 := by
  intro l
  induction l with
  | nil => simp
  | cons a l ih =>
   have := List.length_filter_le (lK b a) (oT b)
   simp only [List.flatMap_cons, List.length_append, List.length_map, List.length_cons]
   omega
 have := key (p9 b.aa)
 unfold de
 omega
theorem aBY {b : aq} (hv : Valid b) : xH b = some (nZ b) := by
 unfold xH nZ
 cases hc : de b with
 | nil =>
  rw [aeS hv _ (r := (.inl (), true)) (by rw [hc]; rfl)]
  rfl
 | cons c l =>
  rw [aeS hv _ (r := (.inr (), false)) (by rw [hc]; rfl)]
  rfl
theorem aMc {b : aq} (hv : Valid b) : CR (λ y s => pK y b s) = some ((de b).map wk) := by
 unfold CR Eg
 have hl := Yz hv
 have key : ∀ (l a : List bu), l.foldl (λ s c => s ++ [c]) a = a ++ l := by
  intro l
  induction l with
  | nil => simp
  | cons c l ih => intro a; rw [List.foldl_cons, ih]; simp
 dsimp only
 rw [aeS hv _ (r := (.inl ((((de b).map wk).foldl (λ (s : List bu) c => s ++ [c]) [])), true)) (afi (λ k s => s.length = k) (λ c s => s ++ [c]) _ 0 [] rfl (λ j s a hj hs _ => by
  simp only [List.length_map] at hj
  rw [mU (by simp; omega)]
  exact ⟨rfl, by simp [hs]⟩))]
 rw [key]
 rfl
def aya : cW := ⟨⟨0, ⟨0, 0⟩, [], [], []⟩, [], kT⟩
def abO (b : aq) (own : Int) : cW × Int :=
 if dg b ≠ 0 then (aya, dg b) else if own ≠ 0 then (aya, own) else if de b = [] then (aya, 9) else (⟨b, (de b).map wk, []⟩, 0)
theorem axP {b : aq} (hs : Small b) {f : aq → Option Int} {own : Int} (hf : dg b = 0 → f b = some own) : nC b f = some (abO b own) := by
 unfold nC abO
 rw [VL hs, Option.bind_some]
 by_cases h1 : dg b = 0
 ·have hv := tV hs h1
  simp only [h1, bne_self_eq_false, bF, ne_eq, not_true_eq_false, if_false, hf h1, Option.bind_some]
  by_cases h2 : own = 0
  ·simp only [h2, bne_self_eq_false, bF, not_true_eq_false, if_false, aMc hv, Option.bind_some, List.length_map]
   cases hc : de b with
   | nil => rfl
   | cons c l =>
    rw [if_neg (by simp), show ((((c :: l).length : Nat) : Int) == 0) = false by simp; omega, bF]
  ·simp only [h2, not_false_eq_true, if_true, mK h2, cm]
   rfl
 ·simp only [h1, ne_eq, not_false_eq_true, if_true, mK h1, cm]
  rfl
def NW (b : aq) (own : Int) : List cB × Int := if dg b ≠ 0 then ([], dg b) else if own ≠ 0 then ([], own) else if de b = [] then ([], 9) else (de b, 0)
theorem aeX {b : aq} (hs : Small b) (own : Int) : s4 b own = some (NW b own) := by
 unfold s4 NW
 rw [V0 hs, Option.bind_some]
 by_cases h1 : dg b = 0
 ·have hv := tV hs h1
  simp only [h1, bne_self_eq_false, bF, ne_eq, not_true_eq_false, if_false]
  by_cases h2 : own = 0
  ·simp only [h2, bne_self_eq_false, bF, not_true_eq_false, if_false, aBZ hv, Option.bind_some]
   cases hc : de b with
   | nil => rfl
   | cons c l =>
    rw [if_neg (by simp), show ((((c :: l).length : Nat) : Int) == 0) = false by simp; omega, bF]
  ·simp only [h2, not_false_eq_true, if_true, mK h2, cm]
 ·simp only [h1, ne_eq, not_false_eq_true, if_true, mK h1, cm]
end Go.Proofs.YtabamagholjdcaaGreatDoor
