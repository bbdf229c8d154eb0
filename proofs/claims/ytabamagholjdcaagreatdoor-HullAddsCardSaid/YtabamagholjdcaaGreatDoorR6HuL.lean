/- Plain laws of chapter 6. Conditions: none. -/
import Derived.Test.YtabamagholjdcaaGreatDoorQAHuM
import Derived.Test.YtabamagholjdcaaGreatDoorQAHuC
namespace Go.Proofs.YtabamagholjdcaaGreatDoor
open Go.Lg Go.Proofs
set_option maxRecDepth 10000
theorem qN {S O : Type} {body : S → Option (S ⊕ O)} (st : Nat → S) (n : Nat) {o : O} (h : ∀ i, i < n → body (st i) = some (.inl (st (i + 1)))) (hn : body (st n) = some (.inr o)) : bt body (st 0) = some o := by
 have key : ∀ k, k ≤ n → bt body (st (n - k)) = some o := by
  intro k
  induction k with
  | zero => intro _; exact nW hn
  | succ k ih =>
   intro hk
   rw [D1 (h (n - (k + 1)) (by omega)), show n - (k + 1) + 1 = n - k by omega]
   exact ih (by omega)
 have := key n (Nat.le_refl _)
 rwa [Nat.sub_self] at this
def dA {O : Type} (e : Nat → Option O) : Nat → Nat → Option O
 | _, 0 => none
 | i, k + 1 => match e i with | some o => some o | none => dA e (i + 1) k
def acD {S O : Type} (s : S) : Option O → S ⊕ O
 | some o => .inr o
 | none => .inl s
theorem abp {S O : Type} {body : S → Option (S ⊕ O)} (st : Nat → S) (e : Nat → Option O) (i0 n : Nat) {o : O} (h : ∀ i, i0 ≤ i → i < n → body (st i) = some (acD (st (i + 1)) (e i))) (hn : body (st n) = some (.inr o)) (h0 : i0 ≤ n) : bt body (st i0) = some ((dA e i0 (n - i0)).getD o) := by
 have key : ∀ k, k ≤ n - i0 → bt body (st (n - k)) = some ((dA e (n - k) k).getD o) := by
  intro k
  induction k with
  | zero => intro _; exact nW hn
  | succ k ih =>
   intro hk
   have hb := h (n - (k + 1)) (by omega) (by omega)
   unfold dA
   cases he : e (n - (k + 1)) with
   | some o' =>
    rw [he] at hb
    exact nW hb
   | none =>
    rw [he] at hb
    rw [D1 hb, show n - (k + 1) + 1 = n - k by omega]
    exact ih (by omega)
 have := key (n - i0) (Nat.le_refl _)
 rwa [show n - (n - i0) = i0 by omega] at this
theorem awB {S O : Type} {body : S → Option (S ⊕ O)} (st : Nat → S) (e : Nat → Option O) (n : Nat) {o : O} (h : ∀ i, i < n → body (st i) = some (acD (st (i + 1)) (e i))) (hn : body (st n) = some (.inr o)) : bt body (st 0) = some ((dA e 0 n).getD o) := by
 simpa using abp st e 0 n (λ i _ hi => h i hi) hn (Nat.zero_le _)
theorem ake {O : Type} {e e' : Nat → Option O} : ∀ (k i : Nat), (∀ j, i ≤ j → j < i + k → e j = e' j) → dA e i k = dA e' i k
 | 0, _, _ => rfl
 | k + 1, i, h => by
  unfold dA
  rw [h i (Nat.le_refl _) (by omega), ake k (i + 1) (λ j h1 h2 => h j (by omega) (by omega))]
theorem uv {O : Type} {e : Nat → Option O} : ∀ {k i : Nat}, dA e i k = none ↔ ∀ j, i ≤ j → j < i + k → e j = none
 | 0, i => by simp [dA]; omega
 | k + 1, i => by
  unfold dA
  cases he : e i with
  | some o => simp; exact ⟨i, Nat.le_refl _, by omega, by rw [he]; simp⟩
  | none =>
   simp only
   rw [uv]
   constructor
   ·intro h j h1 h2
    by_cases hj : j = i
    ·subst hj; exact he
    ·exact h j (by omega) (by omega)
   ·intro h j h1 h2; exact h j (by omega) (by omega)
theorem vV {O : Type} {e : Nat → Option O} : ∀ {k i : Nat} {o : O}, dA e i k = some o → ∃ j, i ≤ j ∧ j < i + k ∧ e j = some o ∧ ∀ m, i ≤ m → m < j → e m = none
 | 0, i, o, h => by cases h
 | k + 1, i, o, h => by
  unfold dA at h
  cases he : e i with
  | some o' => rw [he] at h; cases h; exact ⟨i, Nat.le_refl _, by omega, he, λ m h1 h2 => by omega⟩
  | none =>
   rw [he] at h
   obtain ⟨j, h1, h2, h3, h4⟩ := vV h
   refine ⟨j, by omega, by omega, h3, λ m hm1 hm2 => ?_⟩
   by_cases hm : m = i
   ·subst hm; exact he
   ·exact h4 m (by omega) hm2
@[simp] theorem cm {α : Type} {a b : Option α} : ah true a b = a := rfl
@[simp] theorem bF {α : Type} {a b : Option α} : ah false a b = b := rfl
@[simp] theorem dD {α : Type} (xs : List α) (k : Nat) : idx xs (k : Int) = xs[k]? := by simp [idx]
theorem jk {z : Int} (h1 : -4611686018427387904 ≤ z) (h2 : z ≤ 4611686018427387904) : i64 z = z := TM (by omega)
theorem eo {i : Nat} (h : i ≤ 1000000000) : i64 ((i : Int) + 1) = ((i + 1 : Nat) : Int) := by rw [jk (by omega) (by omega)]; omega
theorem aa9 {i : Nat} (h : i ≤ 1000000000) (h0 : 0 < i) : i64 ((i : Int) - 1) = ((i - 1 : Nat) : Int) := by rw [jk (by omega) (by omega)]; omega
theorem Pj {α : Type} {xs : List α} {k : Nat} (h : k ≤ xs.length) : mX xs 0 (k : Int) = some (xs.take k) := by simp [mX, h]
theorem mU {α : Type} {xs ys : List α} (h : xs.length + ys.length ≤ 16777216) : cy xs ys = some (xs ++ ys) := by simp [cy, h]
def dH (n a c : Int) : Bool := decide (a ≤ n) && decide (n ≤ c)
theorem vX (n a c : Int) : kH n a c = some (dH n a c) := by
 unfold kH dH
 cases decide (a ≤ n) <;> rfl
theorem vb (n a c : Int) : nB n a c = some (dH n a c) := by
 unfold nB dH
 cases decide (a ≤ n) <;> rfl
def lD (x : Reach) (a c : Int) : Bool := decide (a ≤ x.an) && (decide (x.an ≤ x.ax) && decide (x.ax ≤ c))
theorem Wi (x : Reach) (a c : Int) : AH x a c = some (lD x a c) := by
 unfold AH lD
 cases decide (a ≤ x.an) <;> cases decide (x.an ≤ x.ax) <;> rfl
def lQ (x : Reach) (w : Int) : Bool := decide (x.ax - x.an < w)
theorem adq {x : Reach} {a c w : Int} (ha : -1000000 ≤ a) (hc : c ≤ 1000000) (h : lD x a c = true) : i64 (x.ax - x.an) = x.ax - x.an := by
 simp only [lD, Bool.and_eq_true, decide_eq_true_eq] at h
 exact jk (by omega) (by omega)
theorem Wh {x : Reach} {a c w : Int} (ha : -1000000 ≤ a) (hc : c ≤ 1000000) : u6 x a c w = some (lD x a c && lQ x w) := by
 unfold u6 lD lQ
 by_cases h1 : a ≤ x.an
 ·by_cases h2 : x.an ≤ x.ax
  ·by_cases h3 : x.ax ≤ c
   ·simp [h1, h2, h3, jk (z := x.ax - x.an) (by omega) (by omega)]
   ·simp [h1, h2, h3]
  ·simp [h1, h2]
 ·simp [h1]
def nth {α : Type} [Inhabited α] (l : List α) (i : Nat) : α := l.getD i default
theorem cO {α : Type} [Inhabited α] {l : List α} {i : Nat} (h : i < l.length) : l[i]? = some (nth l i) := by
 unfold nth
 rw [List.getD_eq_getElem?_getD, List.getElem?_eq_getElem h]; rfl
theorem jy {α : Type} [Inhabited α] {l : List α} {i : Nat} (h : i < l.length) : nth l i ∈ l := List.mem_of_getElem? (cO h)
theorem HB {α : Type} [Inhabited α] {l : List α} {x : α} (h : x ∈ l) : ∃ i, i < l.length ∧ nth l i = x := by
 obtain ⟨i, hi, rfl⟩ := List.mem_iff_getElem.1 h
 refine ⟨i, hi, ?_⟩
 have := cO hi
 rw [List.getElem?_eq_getElem hi] at this
 exact (Option.some.inj this).symm
theorem abN {α : Type} [Inhabited α] {l : List α} {i k : Nat} (h : i < k) : nth (l.take k) i = nth l i := by
 unfold nth
 rw [List.getD_eq_getElem?_getD, List.getD_eq_getElem?_getD, List.getElem?_take_of_lt h]
instance : Inhabited cG := ⟨⟨⟨#[]⟩, 0, ⟨0, 0⟩, []⟩⟩
instance : Inhabited bW := ⟨⟨0, 0⟩⟩
theorem lz {S O β : Type} {body : S → Option (S ⊕ O)} {s : S} {o : O} {f : O → Option β} (h : bt body s = some o) : (bt body s).bind f = f o := by rw [h]; rfl
theorem dec_lt {i : Nat} {n : Nat} (h : i < n) : decide ((i : Int) < (n : Int)) = true := by simpa using h
theorem eR {n : Nat} : decide ((n : Int) < (n : Int)) = false := by simp
theorem YD {i : Nat} (h : 0 < i) : decide ((i : Int) > 0) = true := by simpa using h
theorem aKS {i : Nat} (h : ¬ 0 < i) : decide ((i : Int) > 0) = false := by simpa using h
theorem ah9 {O : Type} {f : Option O} {g : Unit → Option O} {d : O} (hd : g () = some d) : Sum.elim g (λ q => some q) (((f.map Sum.inr).getD (.inl ())) : Unit ⊕ O) = some (f.getD d) := by
 cases f with
 | none => exact hd
 | some o => rfl
theorem PX {O Q : Type} (g : O → Q) (e : Nat → Option O) : ∀ (k i : Nat), dA (λ j => (e j).map g) i k = (dA e i k).map g
 | 0, _ => rfl
 | k + 1, i => by
  unfold dA
  cases e i with
  | none => exact PX g e k (i + 1)
  | some o => rfl
theorem search {O : Type} {body : Int → Option (Int ⊕ (Unit ⊕ O))} (e : Nat → Option O) (i0 n : Nat) {d : O} {g : Unit → Option O} (h : ∀ i, i0 ≤ i → i < n → body (i : Int) = some (match e i with | some o => .inr (.inr o) | none => .inl ((i + 1 : Nat) : Int))) (hn : body (n : Int) = some (.inr (.inl ()))) (h0 : i0 ≤ n) (hd : g () = some d) :
  (bt body (i0 : Int)).bind (Sum.elim g λ q => some q) = some ((dA e i0 (n - i0)).getD d) := by
 refine (lz (abp (λ i => (i : Int)) (λ i => (e i).map Sum.inr) i0 n (o := .inl ()) (λ i h1 h2 => ?_) hn h0)).trans ?_
 ·rw [h i h1 h2]
  cases e i <;> rfl
 ·rw [PX]
  exact ah9 hd
theorem lO {O : Type} {body : Int → Option (Int ⊕ (Unit ⊕ O))} (e : Nat → Option O) (n : Nat) {d : O} {g : Unit → Option O} (h : ∀ i, i < n → body (i : Int) = some (match e i with | some o => .inr (.inr o) | none => .inl ((i + 1 : Nat) : Int))) (hn : body (n : Int) = some (.inr (.inl ()))) (hd : g () = some d) :
  (bt body 0).bind (Sum.elim g λ q => some q) = some ((dA e 0 n).getD d) := search e 0 n (λ i _ hi => h i hi) hn (Nat.zero_le _) hd
def Bv (l : List Int) (below : Int) (i : Nat) : Option Int :=
 if dH (nth l i) 0 (below - 1) = false then some 6 else if 0 < i then (if nth l i ≤ nth l (i - 1) then some 7 else none) else none
def od (l : List Int) (below : Int) : Int := (dA (Bv l below) 0 l.length).getD 0
theorem afr {l : List Int} {below : Int} (hl : l.length ≤ 1000) (h0 : 0 ≤ below) (h1 : below ≤ 1000) : u7 l below = some (od l below) := by
 unfold u7
 refine lO (Bv l below) l.length (λ i hi => ?_) (by simp only [eR, bF]) rfl
 simp only [dec_lt hi, cm, dD, cO hi, Option.bind_some, vX, jk (z := below - 1) (by omega) (by omega), eo (i := i) (by omega)]
 unfold Bv
 cases dH (nth l i) 0 (below - 1) with
 | false => rfl
 | true =>
  by_cases hp : 0 < i
  ·simp only [YD hp, Bool.not_true, bF, cm, aa9 (i := i) (by omega) hp, dD, cO (show i - 1 < l.length by omega), Option.bind_some, hp, if_true, Bool.true_eq_false, if_false]
   by_cases hc : nth l i ≤ nth l (i - 1) <;> simp [hc]
  ·simp [hp]
theorem afD {l : List Int} {below : Int} (hl : l.length ≤ 1000) (h0 : 0 ≤ below) (h1 : below ≤ 1000) : AZ l below = some (od l below) := by
 unfold AZ
 refine lO (Bv l below) l.length (λ i hi => ?_) (by simp only [eR, bF]) rfl
 simp only [dec_lt hi, cm, dD, cO hi, Option.bind_some, vb, jk (z := below - 1) (by omega) (by omega), eo (i := i) (by omega)]
 unfold Bv
 cases dH (nth l i) 0 (below - 1) with
 | false => rfl
 | true =>
  by_cases hp : 0 < i
  ·simp only [YD hp, Bool.not_true, bF, cm, aa9 (i := i) (by omega) hp, dD, cO (show i - 1 < l.length by omega), Option.bind_some, hp, if_true, Bool.true_eq_false, if_false]
   by_cases hc : nth l i ≤ nth l (i - 1) <;> simp [hc]
  ·simp [hp]
theorem PY {α : Type} [Inhabited α] (p : α → Bool) (l : List α) : (dA (λ i => if p (nth l i) then some true else none) 0 l.length).getD false = l.any p := by
 cases h : dA (λ i => if p (nth l i) then some true else none) 0 l.length with
 | none =>
  rw [uv] at h
  symm
  rw [Option.getD_none, List.any_eq_false]
  intro x hx
  obtain ⟨i, hi, rfl⟩ := HB hx
  have := h i (Nat.zero_le _) (by omega)
  simpa using this
 | some o =>
  obtain ⟨j, _, hj, he, _⟩ := vV h
  split at he
  ·rename_i hp
   cases he
   symm
   rw [Option.getD_some, List.any_eq_true]
   exact ⟨nth l j, jy (by omega), hp⟩
  ·cases he
theorem ahu (l : List Int) (n : Int) : (l.any λ x => n == x) = l.contains n := by
 rw [Bool.eq_iff_iff, List.any_eq_true, List.contains_iff_mem]
 constructor
 ·rintro ⟨x, hx, h⟩
  rw [beq_iff_eq] at h; subst h; exact hx
 ·intro h; exact ⟨n, h, by simp⟩
theorem aht (l : List Int) (n : Int) : (l.any λ x => x == n) = l.contains n := by
 rw [Bool.eq_iff_iff, List.any_eq_true, List.contains_iff_mem]
 constructor
 ·rintro ⟨x, hx, h⟩
  rw [beq_iff_eq] at h; subst h; exact hx
 ·intro h; exact ⟨n, h, by simp⟩
theorem IF {l : List Int} {n : Int} (hl : l.length ≤ 1000) : sZ l n = some (l.contains n) := by
 unfold sZ
 refine (lO (λ i => if (nth l i == n) then some true else none) l.length (d := false) (λ i hi => ?_) (by simp only [eR, bF]) rfl).trans ?_
 ·simp only [dec_lt hi, cm, dD, cO hi, Option.bind_some, eo (i := i) (by omega)]
  cases nth l i == n <;> rfl
 ·rw [PY (λ x => x == n) l]
  rw [aht]
theorem Ng {α : Type} [Inhabited α] (p : α → Bool) (l : List α) : decide ((dA (λ i => if p (nth l i) then some (i : Int) else none) 0 l.length).getD (-1) ≥ 0) = l.any p := by
 rw [← PY p l]
 cases h : dA (λ i => if p (nth l i) then some (i : Int) else none) 0 l.length with
 | none =>
  rw [uv] at h
  have : dA (λ i => if p (nth l i) then some true else none) 0 l.length = none := by
   rw [uv]
   intro j h1 h2
   have := h j h1 h2
   cases hp : p (nth l j) with
   | true => rw [hp] at this; cases this
   | false => rfl
  rw [this]; rfl
 | some o =>
  obtain ⟨j, h1, h2, h3, h4⟩ := vV h
  split at h3
  ·rename_i hp
   cases h3
   have : dA (λ i => if p (nth l i) then some true else none) 0 l.length = some true := by
    cases hf : dA (λ i => if p (nth l i) then some true else none) 0 l.length with
    | none => rw [uv] at hf; have := hf j h1 h2; rw [if_pos hp] at this; cases this
    | some b =>
     obtain ⟨_, _, _, hb, _⟩ := vV hf
     split at hb
     ·cases hb; rfl
     ·cases hb
   rw [this]
   simp
  ·cases h3
theorem axn {l : List Int} {n : Int} (hl : l.length ≤ 1000) : AN l n = some (l.contains n) := by
 unfold AN C1
 rw [lO (λ i => if (n == nth l i) then some (i : Int) else none) l.length (d := (-1)) (λ i hi => ?_) (by simp only [eR, bF]) rfl]
 ·rw [Option.bind_some, Ng (λ x => n == x) l]
  rw [ahu]
 ·simp only [dec_lt hi, cm, dD, cO hi, Option.bind_some, eo (i := i) (by omega)]
  cases n == nth l i <;> rfl
theorem afv {l : List Int} {f : Int → Option Bool} {p : Int → Bool} (hl : l.length ≤ 1000) (hf : ∀ x ∈ l, f x = some (p x)) : xJ l f = some (l.any p) := by
 unfold xJ CY
 rw [lO (λ i => if p (nth l i) then some (i : Int) else none) l.length (d := (-1)) (λ i hi => ?_) (by simp only [eR, bF]) rfl]
 ·rw [Option.bind_some, Ng p l]
 ·simp only [dec_lt hi, cm, dD, cO hi, Option.bind_some, hf _ (jy hi), eo (i := i) (by omega)]
  cases p (nth l i) <;> rfl
theorem axF {l : List cG} {f : cG → Option Bool} {p : cG → Bool} (hl : l.length ≤ 1000) (hf : ∀ x ∈ l, f x = some (p x)) : AU l f = some (l.any p) := by
 unfold AU C2
 rw [lO (λ i => if p (nth l i) then some (i : Int) else none) l.length (d := (-1)) (λ i hi => ?_) (by simp only [eR, bF]) rfl]
 ·rw [Option.bind_some, Ng p l]
 ·simp only [dec_lt hi, cm, dD, cO hi, Option.bind_some, hf _ (jy hi), eo (i := i) (by omega)]
  cases p (nth l i) <;> rfl
end Go.Proofs.YtabamagholjdcaaGreatDoor
namespace Go.Proofs.YtabamagholjdcaaGreatDoor
open Go.Lg Go.Proofs
set_option maxRecDepth 10000
theorem ae2 {O : Type} {body : Int → Option (Int ⊕ (Unit ⊕ O))} (e : Nat → Option O) (n : Nat) (h : ∀ i, i < n → body (i : Int) = some (match e i with | some o => .inr (.inr o) | none => .inl ((i + 1 : Nat) : Int))) (hn : body (n : Int) = some (.inr (.inl ()))) :
  bt body 0 = some (match dA e 0 n with | some o => .inr o | none => .inl ()) := by
 refine (awB (λ i => (i : Int)) (λ i => (e i).map Sum.inr) n (o := .inl ()) (λ i hi => ?_) hn).trans ?_
 ·rw [h i hi]
  cases e i <;> rfl
 ·rw [PX]
  cases dA e 0 n <;> rfl
theorem akf {α O : Type} [Inhabited α] (p : α → Bool) (c : O) (l : List α) (n : Nat) (hn : n ≤ l.length) : dA (λ k => if p (nth l k) then some c else none) 0 n = if (l.take n).any p then some c else none := by
 cases h : dA (λ k => if p (nth l k) then some c else none) 0 n with
 | none =>
  rw [uv] at h
  have : (l.take n).any p = false := by
   rw [List.any_eq_false]
   intro x hx
   obtain ⟨i, hi, rfl⟩ := HB hx
   have hi' : i < n := by simp at hi; omega
   rw [abN hi']
   have := h i (Nat.zero_le _) (by omega)
   simpa using this
  rw [this]; rfl
 | some o =>
  obtain ⟨j, _, hj, he, _⟩ := vV h
  split at he
  ·rename_i hp
   cases he
   have : (l.take n).any p = true := by
    rw [List.any_eq_true]
    refine ⟨nth l j, ?_, hp⟩
    rw [← abN (l := l) (show j < n by omega)]
    exact jy (by simp; omega)
   rw [this]; rfl
  ·cases he
theorem collect {α : Type} {body : List α × Int → Option ((List α × Int) ⊕ List α)} (g : Nat → Option α) (n : Nat) (h : ∀ i acc, i < n → acc.length ≤ i → body (acc, (i : Int)) = some (.inl (acc ++ (g i).toList, ((i + 1 : Nat) : Int)))) (hn : ∀ acc, body (acc, (n : Int)) = some (.inr acc)) :
  bt body ([], 0) = some ((List.range n).filterMap g) := by
 refine (qN (λ i => ((List.range i).filterMap g, (i : Int))) n (λ i hi => ?_) (hn _) : bt body ([], (0 : Int)) = _)
 have hl : ((List.range i).filterMap g).length ≤ i := by
  have := List.length_filterMap_le g (List.range i)
  simpa using this
 rw [h i _ hi hl, List.range_succ, List.filterMap_append, show List.filterMap g [i] = (g i).toList by cases hg : g i <;> simp [hg]]
structure Small (b : aq) : Prop where
 pieces : b.az.length ≤ 20
 out : b.Out.length ≤ 20
 yM : b.aO.length ≤ 20
 each : ∀ p ∈ b.az, p.Name.size ≤ 100 ∧ p.On.length ≤ 20
def Cb (b : aq) : Bool :=
 decide (20 < b.az.length) || (decide (20 < b.Out.length) || (decide (20 < b.aO.length) || b.az.any λ p => decide (100 < p.Name.size) || decide (20 < p.On.length)))
theorem zm {n m : Nat} : decide ((n : Int) > (m : Int)) = decide (m < n) := by
 by_cases h : m < n <;> simp [h]
theorem axu (b : aq) : AO b = some (Cb b) := by
 unfold AO Cb
 have e1 : decide ((b.az.length : Int) > 20) = decide (20 < b.az.length) := zm (m := 20)
 have e2 : decide ((b.Out.length : Int) > 20) = decide (20 < b.Out.length) := zm (m := 20)
 have e3 : decide ((b.aO.length : Int) > 20) = decide (20 < b.aO.length) := zm (m := 20)
 rw [e1, e2, e3]
 by_cases h1 : 20 < b.az.length
 ·simp [h1]
 by_cases h2 : 20 < b.Out.length
 ·simp [h1, h2]
 by_cases h3 : 20 < b.aO.length
 ·simp [h1, h2, h3]
 simp only [h1, h2, h3, decide_false, bF, Option.bind_some, Bool.false_or]
 rw [lO (λ i => if (decide (100 < (nth b.az i).Name.size) || decide (20 < (nth b.az i).On.length)) then some true else none) b.az.length (d := false) (λ i hi => ?_) (by simp only [eR, bF]) rfl]
 ·rw [PY (λ p : cG => decide (100 < p.Name.size) || decide (20 < p.On.length)) b.az]
 ·have f1 : decide (((nth b.az i).Name.size : Int) > 100) = decide (100 < (nth b.az i).Name.size) := zm (m := 100)
  have f2 : decide (((nth b.az i).On.length : Int) > 20) = decide (20 < (nth b.az i).On.length) := zm (m := 20)
  simp only [dec_lt hi, cm, dD, cO hi, Option.bind_some, f1, f2, eo (i := i) (by omega)]
  cases decide (100 < (nth b.az i).Name.size) <;> cases decide (20 < (nth b.az i).On.length) <;> rfl
theorem aeo {b : aq} (h : Cb b = false) : Small b := by
 simp only [Cb, Bool.or_eq_false_iff, decide_eq_false_iff_not, List.any_eq_false, Bool.not_eq_true] at h
 obtain ⟨h1, h2, h3, h4⟩ := h
 refine ⟨by omega, by omega, by omega, λ p hp => ?_⟩
 have := h4 p hp
 omega
def isLet (n : Int) : Bool := dH n 97 122
def GY (n : Int) : Bool := dH n 48 57
theorem Mb (s : ByteArray) : (eX s).length = s.size := by simp [eX]
theorem UT {s : ByteArray} {i : Nat} (h : i < s.size) : 0 ≤ nth (eX s) i ∧ nth (eX s) i < 256 := by
 have hm : nth (eX s) i ∈ eX s := jy (by rw [Mb]; exact h)
 unfold eX at hm
 obtain ⟨b, _, hb⟩ := List.mem_map.1 hm
 unfold eX
 rw [← hb]
 have := b.toNat_lt
 omega
def oF (s : ByteArray) (i : Nat) : Option Bool := if isLet (nth (eX s) i) = false then (if i = 0 then some false else if GY (nth (eX s) i) = false then some false else none) else none
def Ay (s : ByteArray) : Bool := (dA (oF s) 0 s.size).getD (dH (s.size : Int) 1 12)
theorem axD {s : ByteArray} (hs : s.size ≤ 1000) : AT s = some (Ay s) := by
 unfold AT Ay
 have e := Mb s
 rw [e]
 refine lO (oF s) s.size (λ i hi => ?_) (by simp only [eR, bF]) (by rw [vX]; rfl)
 have hi' : i < (eX s).length := by omega
 obtain ⟨h1, h2⟩ := UT hi
 simp only [dec_lt hi, cm, dD, cO hi', Option.bind_some, vX, jk (z := nth (eX s) i) (by omega) (by omega), eo (i := i) (by omega)]
 unfold oF isLet GY
 cases dH (nth (eX s) i) 97 122 with
 | true => rfl
 | false =>
  by_cases h0 : i = 0
  ·subst h0; rfl
  ·have : ((i : Int) == 0) = false := by simpa using h0
   simp only [this, Bool.not_false, cm, bF, h0, if_false, if_true]
   cases dH (nth (eX s) i) 48 57 <;> rfl
theorem abD {n : Int} (h1 : 0 ≤ n) (h2 : n < 256) : AM n = some (isLet n) := by unfold AM isLet; rw [jk (by omega) (by omega), vb]; rfl
theorem axk {n : Int} (h1 : 0 ≤ n) (h2 : n < 256) : C0 n = some (GY n) := by unfold C0 GY; rw [jk (by omega) (by omega), vb]; rfl
theorem avX {s : ByteArray} {k i : Nat} {o : Bool} (h : dA (oF s) i k = some o) : o = false := by
 obtain ⟨j, _, _, he, _⟩ := vV h
 unfold oF at he
 split at he
 ·split at he
  ·cases he; rfl
  ·split at he
   ·cases he; rfl
   ·cases he
 ·cases he
theorem aw7 {s : ByteArray} (hs : s.size ≤ 1000) : Hg s = some (Ay s) := by
 unfold Hg Ay
 rw [vb, Option.bind_some]
 cases hb : dH (s.size : Int) 1 12 with
 | false =>
  simp only [Bool.not_false, cm, Option.bind_some]
  congr 1
  cases hf : dA (oF s) 0 s.size with
  | none => rfl
  | some o => rw [avX hf]; rfl
 | true =>
  have h1 : 1 ≤ s.size := by
   simp only [dH, Bool.and_eq_true, decide_eq_true_eq] at hb
   omega
  have hi' : 0 < (eX s).length := by rw [Mb]; omega
  obtain ⟨g1, g2⟩ := UT (s := s) (i := 0) (by omega)
  have hs0 : rq s 0 = some (nth (eX s) 0) := by unfold rq; rw [← cO hi']; exact dD _ 0
  simp only [Bool.not_true, bF, hs0, Option.bind_some, abD g1 g2]
  have hu : dA (oF s) 0 s.size = match oF s 0 with | some o => some o | none => dA (oF s) 1 (s.size - 1) := by
   obtain ⟨k, hk⟩ : ∃ k, s.size = k + 1 := ⟨s.size - 1, by omega⟩
   rw [hk]
   simp only [dA, Nat.add_sub_cancel, Nat.zero_add]
   cases oF s 0 <;> rfl
  rw [hu]
  unfold oF
  cases hl : isLet (nth (eX s) 0) with
  | false => rfl
  | true =>
   simp only [Bool.not_true, bF, Bool.true_eq_false, if_false]
   have e2 := search (body := λ (nG : Int) =>
    ah (decide (nG < (s.size : Int)))
    ((rq s nG).bind λ lR =>
    (AM lR).bind λ oS =>
    ah (!oS)
    ((rq s nG).bind λ iL =>
    (C0 iL).bind λ yL =>
    ah (!yL)
    (some (.inr (.inr false)))
    (some (.inl (i64 (nG + 1)))))
    (some (.inl (i64 (nG + 1)))))
    (some (.inr (.inl ())))) (oF s) 1 s.size (d := true) (g := λ _ => some true) (λ i hi1 hi => ?_) (by simp only [eR, bF]) h1 rfl
   ·exact e2
   ·have hi2 : i < (eX s).length := by rw [Mb]; exact hi
    obtain ⟨k1, k2⟩ := UT hi
    have hsi : rq s (i : Int) = some (nth (eX s) i) := by unfold rq; rw [← cO hi2]; exact dD _ i
    simp only [dec_lt hi, cm, hsi, Option.bind_some, abD k1 k2, axk k1 k2, eo (i := i) (by omega)]
    have h0 : i ≠ 0 := by omega
    unfold oF
    cases isLet (nth (eX s) i) with
    | true => rfl
    | false =>
     simp only [Bool.not_false, cm, h0, if_false, if_true]
     cases GY (nth (eX s) i) <;> rfl
def xY (p q : cG) : Bool := q.Name.toList == p.Name.toList
def vo (b : aq) (i : Nat) : Option Int :=
 if Ay (nth b.az i).Name = false then some 4
 else if (b.az.take i).any (xY (nth b.az i)) = true then some 5
 else if (dH (nth b.az i).dz (-9) 9 && (lD (nth b.az i).Weight 1 99 && lQ (nth b.az i).Weight 3)) = false then some 1
 else if od (nth b.az i).On (i : Int) ≠ 0 then some (od (nth b.az i).On (i : Int)) else none
def nX (b : aq) : Int := if dH (b.az.length : Int) 1 5 = false then 2 else (dA (vo b) 0 b.az.length).getD 0
theorem axx {b : aq} (h : Small b) : AQ b = some (nX b) := by
 unfold AQ nX
 rw [vX, Option.bind_some]
 cases dH (b.az.length : Int) 1 5 with
 | false => rfl
 | true =>
  simp only [Bool.not_true, bF, Bool.true_eq_false, if_false]
  have hp := h.pieces
  refine lO (vo b) b.az.length (λ i hi => ?_) (by simp only [eR, bF]) rfl
  obtain ⟨hn, ho⟩ := h.each _ (jy hi)
  simp only [dec_lt hi, cm, dD, cO hi, Option.bind_some, axD (show (nth b.az i).Name.size ≤ 1000 by omega), Pj (show i ≤ b.az.length by omega), Wh (x := (nth b.az i).Weight) (a := 1) (c := 99) (w := 3) (by omega) (by omega), vX,
   axF (l := b.az.take i) (f := λ y => AV y (nth b.az i)) (p := xY (nth b.az i)) (by simp; omega) (λ x _ => rfl), afr (l := (nth b.az i).On) (below := (i : Int)) (by omega) (by omega) (by omega), eo (i := i) (by omega)]
  unfold vo
  cases Ay (nth b.az i).Name with
  | false => rfl
  | true =>
   cases (b.az.take i).any (xY (nth b.az i)) with
   | true => rfl
   | false =>
    cases dH (nth b.az i).dz (-9) 9 with
    | false => rfl
    | true =>
     cases (lD (nth b.az i).Weight 1 99 && lQ (nth b.az i).Weight 3) with
     | false => rfl
     | true =>
      by_cases hc : od (nth b.az i).On (i : Int) = 0
      ·simp [hc]
      ·have : (od (nth b.az i).On (i : Int) != 0) = true := by simpa using hc
       simp [hc, this]
theorem awU {b : aq} (h : Small b) : G9 b = some (nX b) := by
 unfold G9 nX
 rw [vb, Option.bind_some]
 cases dH (b.az.length : Int) 1 5 with
 | false => rfl
 | true =>
  simp only [Bool.not_true, bF, Bool.true_eq_false, if_false]
  have hp := h.pieces
  refine lO (vo b) b.az.length (λ i hi => ?_) (by simp only [eR, bF]) rfl
  obtain ⟨hn, ho⟩ := h.each _ (jy hi)
  simp only [dec_lt hi, cm, dD, cO hi, Option.bind_some, aw7 (show (nth b.az i).Name.size ≤ 1000 by omega)]
  rw [ae2 (λ k => if xY (nth b.az i) (nth b.az k) then some (5 : Int) else none) i (λ k hk => ?_) (by simp only [eR, bF])]
  ·rw [akf (xY (nth b.az i)) (5 : Int) b.az i (by omega)]
   simp only [Wi, vb, Option.bind_some, afD (l := (nth b.az i).On) (below := (i : Int)) (by omega) (by omega) (by omega), eo (i := i) (by omega)]
   unfold vo
   cases Ay (nth b.az i).Name with
   | false => rfl
   | true =>
    cases (b.az.take i).any (xY (nth b.az i)) with
    | true => rfl
    | false =>
     cases dH (nth b.az i).dz (-9) 9 with
     | false => rfl
     | true =>
      cases hr : lD (nth b.az i).Weight 1 99 with
      | false => rfl
      | true =>
       have hw : decide (i64 ((nth b.az i).Weight.ax - (nth b.az i).Weight.an) ≥ 3) = !lQ (nth b.az i).Weight 3 := by
        rw [adq (w := 3) (by omega) (by omega) hr]
        unfold lQ
        by_cases hx : (nth b.az i).Weight.ax - (nth b.az i).Weight.an < 3
        ·simp [hx]
        ·simp [hx]; omega
       simp only [Bool.not_true, bF, Sum.elim_inl, Option.bind_some, hw, Bool.false_eq_true, if_false, Bool.true_and, Bool.true_eq_false]
       cases lQ (nth b.az i).Weight 3 with
       | false => rfl
       | true =>
        by_cases hc : od (nth b.az i).On (i : Int) = 0
        ·simp [hc]
        ·have : (od (nth b.az i).On (i : Int) != 0) = true := by simpa using hc
         simp [hc, this]
  ·simp only [dec_lt hk, cm, dD, cO (show k < b.az.length by omega), Option.bind_some, eo (i := k) (by omega)]
   rw [show ((nth b.az k).Name.toList == (nth b.az i).Name.toList) = xY (nth b.az i) (nth b.az k) from rfl]
   cases xY (nth b.az i) (nth b.az k) <;> rfl
end Go.Proofs.YtabamagholjdcaaGreatDoor
namespace Go.Proofs.YtabamagholjdcaaGreatDoor
open Go.Lg Go.Proofs
set_option maxRecDepth 10000
def dZ (out : List Int) : List Bool := (List.range 5).map λ (i : Nat) => out.contains (i : Int)
theorem Zj : dZ [] = [false, false, false, false, false] := rfl
def wj (l : List Int) : Prop := ∀ x ∈ l, 0 ≤ x ∧ x < 5
theorem GX (out : List Int) {p : Int} (h0 : 0 ≤ p) (h5 : p < 5) : idx (dZ out) p = some (out.contains p) := by
 obtain ⟨k, rfl⟩ : ∃ k : Nat, p = (k : Int) := ⟨p.toNat, by omega⟩
 have hk : k < 5 := by omega
 rw [dD]
 simp [dZ, hk]
theorem akl (out : List Int) {p : Int} (h0 : 0 ≤ p) (h5 : p < 5) : (dZ out).set p.toNat true = dZ (out ++ [p]) := by
 obtain ⟨k, rfl⟩ : ∃ k : Nat, p = (k : Int) := ⟨p.toNat, by omega⟩
 have hk : k < 5 := by omega
 apply List.ext_getElem?
 intro i
 rw [Int.toNat_natCast, List.getElem?_set]
 by_cases hi : i < 5
 ·by_cases hik : k = i
  ·subst hik
   simp [dZ, hk]
  ·have : ¬ (i : Int) = (k : Int) := by omega
   simp [dZ, hi, hik, this]
 ·rw [if_neg (by omega)]
  simp [dZ, hi]
theorem V1 {l out : List Int} (hl : wj l) (hn : l.length ≤ 1000) : iD (dZ out) l = some (dZ (out ++ l)) := by
 unfold iD
 refine (lz (o := dZ (out ++ l)) ?_).trans rfl
 have e0 : ((0 : Int), dZ out) = (λ i : Nat => ((i : Int), dZ (out ++ l.take i))) 0 := by simp
 rw [e0]
 refine qN (λ i : Nat => ((i : Int), dZ (out ++ l.take i))) l.length (λ i hi => ?_) ?_
 ·obtain ⟨h0, h5⟩ := hl _ (jy hi)
  simp only [dec_lt hi, cm, dD, cO hi, Option.bind_some, GX _ h0 h5, akl _ h0 h5, eo (i := i) (by omega)]
  rw [List.append_assoc, List.take_add_one, cO hi]
  rfl
 ·simp only [eR, bF, List.take_length]
theorem Wm {l : List Int} (hl : wj l) (hn : l.length ≤ 1000) : iD [false, false, false, false, false] l = some (dZ l) := by
 have := V1 (out := []) hl hn
 rwa [List.nil_append, Zj] at this
def p8 (b : aq) (p : Int) (i : Nat) : Bool := (nth b.az i).On.contains p
def qa (b : aq) (out : List Int) (p : Int) : Bool := !out.contains p && (List.range b.az.length).all λ (i : Nat) => out.contains (i : Int) || !p8 b p i
theorem VF (p : Nat → Bool) (n : Nat) : (dA (λ i => if p i = true then some false else none) 0 n).getD true = (List.range n).all λ i => !p i := by
 cases h : dA (λ i => if p i = true then some false else none) 0 n with
 | none =>
  rw [uv] at h
  symm
  rw [Option.getD_none, List.all_eq_true]
  intro i hi
  have hi' : i < n := by simpa using hi
  have := h i (Nat.zero_le _) (by omega)
  simpa using this
 | some o =>
  obtain ⟨j, _, hj, he, _⟩ := vV h
  split at he
  ·rename_i hp
   cases he
   symm
   rw [Option.getD_some, List.all_eq_false]
   exact ⟨j, by simp; omega, by simp [hp]⟩
  ·cases he
theorem aft {b : aq} (h : Small b) {out : List Int} {p : Int} (ho : out.length ≤ 1000) : AJ b out p = some (qa b out p) := by
 unfold AJ qa
 have hp := h.pieces
 rw [IF ho, Option.bind_some]
 cases out.contains p with
 | true => rfl
 | false =>
  rw [bF, Bool.not_false, Bool.true_and]
  rw [lO (λ i => if (!(out.contains (i : Int)) && p8 b p i) = true then some false else none) b.az.length (d := true) (λ i hi => ?_) (by simp only [eR, bF]) rfl]
  ·rw [VF]
   congr 1
   congr 1
   funext i
   cases out.contains (i : Int) <;> simp
  ·obtain ⟨_, Z7⟩ := h.each _ (jy hi)
   simp only [dec_lt hi, cm, dD, cO hi, Option.bind_some, IF ho, IF (l := (nth b.az i).On) (n := p) (by omega), eo (i := i) (by omega)]
   rw [show (nth b.az i).On.contains p = p8 b p i from rfl]
   cases out.contains (i : Int) with
   | true => rfl
   | false => cases p8 b p i <;> rfl
theorem axd {b : aq} (h : Small b) (p : Int) : AK b p = some ((List.range b.az.length).filterMap λ i => if p8 b p i = true then some (i : Int) else none) := by
 unfold AK
 have hp := h.pieces
 rw [collect (λ i => if p8 b p i = true then some (i : Int) else none) b.az.length (λ i acc hi hacc => ?_) (λ acc => by simp only [eR, bF])]
 ·rfl
 ·obtain ⟨_, Z7⟩ := h.each _ (jy hi)
  simp only [dec_lt hi, cm, dD, cO hi, Option.bind_some, axn (l := (nth b.az i).On) (n := p) (by omega), eo (i := i) (by omega)]
  rw [show (nth b.az i).On.contains p = p8 b p i from rfl]
  cases p8 b p i with
  | true => simp [mU (xs := acc) (ys := [(i : Int)]) (by simp; omega)]
  | false => simp
theorem afs {b : aq} (h : Small b) (h5 : b.az.length ≤ 5) {out : List Int} {p : Int} (hp0 : 0 ≤ p) (Ru : p < 5) : u9 b (dZ out) p = some (qa b out p) := by
 unfold u9 qa
 rw [GX out hp0 Ru, Option.bind_some]
 cases out.contains p with
 | true => rfl
 | false =>
  rw [Bool.not_false, cm, axd h, Option.bind_some, afv (p := λ n => !out.contains n) (l := (List.range b.az.length).filterMap λ i => if p8 b p i = true then some (i : Int) else none) (by
   have := List.length_filterMap_le (λ i => if p8 b p i = true then some (i : Int) else none) (List.range b.az.length)
   simp at this; omega) (λ x hx => ?_)]
  ·rw [Option.bind_some, Bool.true_and]
   congr 1
   rw [Bool.eq_iff_iff, Bool.not_eq_true', List.any_eq_false, List.all_eq_true]
   constructor
   ·intro hh i hi
    cases hr : p8 b p i with
    | false => simp
    | true =>
     have := hh (i : Int) (List.mem_filterMap.2 ⟨i, hi, by rw [hr]; rfl⟩)
     simpa using this
   ·intro hh x hx
    obtain ⟨i, hi, hx⟩ := List.mem_filterMap.1 hx
    split at hx
    ·rename_i hr
     cases hx
     have := hh i hi
     rw [hr] at this
     simpa using this
    ·cases hx
  ·obtain ⟨i, hi, hx⟩ := List.mem_filterMap.1 hx
   have hi' : i < b.az.length := by simpa using hi
   split at hx
   ·cases hx
    unfold AL
    rw [GX out (by omega) (by omega)]; rfl
   ·cases hx
def nV (b : aq) (p : Int) : Bool := dH p 0 ((b.az.length : Int) - 1)
theorem afp {b : aq} (h : Small b) (p : Int) : sX b p = some (nV b p) := by
 unfold sX nV
 have := h.pieces
 rw [vX, jk (by omega) (by omega)]; rfl
theorem afq {b : aq} (h : Small b) (p : Int) : AG b p = some (nV b p) := by
 unfold AG nV
 have := h.pieces
 rw [vb, jk (by omega) (by omega)]; rfl
theorem Ns {b : aq} {p : Int} : nV b p = true ↔ 0 ≤ p ∧ p < (b.az.length : Int) := by
 simp only [nV, dH, Bool.and_eq_true, decide_eq_true_eq]
 omega
def Ek (b : aq) (out : List Int) (p : Int) : Option Int :=
 if nV b p = false then some 6 else if out.contains p = true then some 5 else if qa b out p = false then some 7 else none
def iZ (b : aq) : List Int → List Int → Int
 | _, [] => 0
 | out, p :: r => match Ek b out p with | some h => h | none => iZ b (out ++ [p]) r
theorem aeR {b : aq} (h : Small b) {out l : List Int} (ho : out.length ≤ 100) (hl : l.length ≤ 100) : AI b out l = some (iZ b out l) := by
 unfold AI
 rw [mU (by simp; omega), Option.bind_some, List.nil_append]
 have key : ∀ k, k ≤ l.length → ∀ acc : List Int, acc.length + k ≤ 400 → (bt (λ (gz : ((List Int) × Int)) =>
   ah (decide (gz.2 < (l.length : Int)))
   ((idx l gz.2).bind λ yJ =>
   (AG b yJ).bind λ yQ =>
   ah (!yQ)
   (some (.inr (.inr 6)))
   ((idx l gz.2).bind λ kN =>
   (sZ gz.1 kN).bind λ kO =>
   ah kO
   (some (.inr (.inr 5)))
   ((idx l gz.2).bind λ En =>
   (AJ b gz.1 En).bind λ yR =>
   ah (!yR)
   (some (.inr (.inr 7)))
   ((idx l gz.2).bind λ gQ =>
   (cy gz.1 [gQ]).bind λ vU =>
   some (.inl (vU, i64 (gz.2 + 1)))))))
   (some (.inr (.inl ())))) (acc, ((l.length - k : Nat) : Int))).bind (Sum.elim (λ (_ : Unit) => some 0) (λ (q : Int) => some q)) = some (iZ b acc (l.drop (l.length - k))) := by
  intro k
  induction k with
  | zero =>
   intro _ acc _
   rw [Nat.sub_zero, List.drop_length, nW (o := .inl ()) (by simp only [eR, bF])]
   rfl
  | succ k ih =>
   intro hk acc hacc
   have hi : l.length - (k + 1) < l.length := by omega
   have hd : l.drop (l.length - (k + 1)) = nth l (l.length - (k + 1)) :: l.drop (l.length - k) := by
    rw [List.drop_eq_getElem_cons hi, show l.length - (k + 1) + 1 = l.length - k by omega]
    congr 1
    have := cO hi
    rw [List.getElem?_eq_getElem hi] at this
    exact Option.some.inj this
   rw [hd]
   unfold iZ Ek
   have JS := afq h (nth l (l.length - (k + 1)))
   have Pm := IF (l := acc) (n := nth l (l.length - (k + 1))) (by omega)
   have YG := aft h (out := acc) (p := nth l (l.length - (k + 1))) (by omega)
   cases h1 : nV b (nth l (l.length - (k + 1))) with
   | false =>
    rw [nW (o := .inr 6) (by simp only [dec_lt hi, cm, dD, cO hi, Option.bind_some, JS, h1, Bool.not_false])]
    rfl
   | true =>
    cases h2 : acc.contains (nth l (l.length - (k + 1))) with
    | true =>
     rw [nW (o := .inr 5) (by simp only [dec_lt hi, cm, bF, dD, cO hi, Option.bind_some, JS, h1, Pm, h2, Bool.not_true])]
     rfl
    | false =>
     cases h3 : qa b acc (nth l (l.length - (k + 1))) with
     | false =>
      rw [nW (o := .inr 7) (by simp only [dec_lt hi, cm, bF, dD, cO hi, Option.bind_some, JS, h1, Pm, h2, YG, h3, Bool.not_true, Bool.not_false])]
      rfl
     | true =>
      rw [D1 (s' := (acc ++ [nth l (l.length - (k + 1))], ((l.length - k : Nat) : Int))) (by
       simp only [dec_lt hi, cm, bF, dD, cO hi, Option.bind_some, JS, h1, Pm, h2, YG, h3, Bool.not_true, mU (xs := acc) (ys := [nth l (l.length - (k + 1))]) (by simp; omega), eo (i := l.length - (k + 1)) (by omega), show l.length - (k + 1) + 1 = l.length - k by omega])]
      rw [ih (by omega) _ (by simp; omega)]
      rfl
 have := key l.length (Nat.le_refl _) out (by omega)
 rw [Nat.sub_self, List.drop_zero] at this
 exact this
theorem aeY {b : aq} (h : Small b) (h5 : b.az.length ≤ 5) {l : List Int} (hl : l.length ≤ 100) : ∀ (out : List Int), ∃ g, vf b (dZ out) l = some (g, iZ b out l) ∧ (iZ b out l = 0 → g = dZ (out ++ l) ∧ wj l) := by
 unfold vf
 have key : ∀ k, k ≤ l.length → ∀ acc : List Int, ∃ g, (bt (λ (fI : (Int × (List Bool))) =>
   ah (decide (fI.1 < (l.length : Int)))
   ((idx l fI.1).bind λ gQ =>
   (sX b gQ).bind λ yS =>
   ah (!yS)
   (some (.inr (.inr (fI.2, 6))))
   ((idx fI.2 gQ).bind λ MU =>
   ah MU
   (some (.inr (.inr (fI.2, 5))))
   ((u9 b fI.2 gQ).bind λ MV =>
   ah (!MV)
   (some (.inr (.inr (fI.2, 7))))
   ((iD fI.2 [gQ]).bind λ MW =>
   some (.inl (i64 (fI.1 + 1), MW))))))
   (some (.inr (.inl fI.2)))) (((l.length - k : Nat) : Int), dZ acc)).bind (Sum.elim (λ (tM : (List Bool)) =>
   some (tM, 0)) (λ (q : (List Bool) × Int) => some q)) = some (g, iZ b acc (l.drop (l.length - k))) ∧ (iZ b acc (l.drop (l.length - k)) = 0 → g = dZ (acc ++ l.drop (l.length - k)) ∧ wj (l.drop (l.length - k))) := by
  intro k
  induction k with
  | zero =>
   intro _ acc
   refine ⟨dZ acc, ?_, λ _ => ?_⟩
   ·rw [Nat.sub_zero, List.drop_length, nW (o := .inl (dZ acc)) (by simp only [eR, bF])]
    rfl
   ·rw [Nat.sub_zero, List.drop_length, List.append_nil]
    exact ⟨rfl, λ x hx => by cases hx⟩
  | succ k ih =>
   intro hk acc
   have hi : l.length - (k + 1) < l.length := by omega
   have hd : l.drop (l.length - (k + 1)) = nth l (l.length - (k + 1)) :: l.drop (l.length - k) := by
    rw [List.drop_eq_getElem_cons hi, show l.length - (k + 1) + 1 = l.length - k by omega]
    congr 1
    have := cO hi
    rw [List.getElem?_eq_getElem hi] at this
    exact Option.some.inj this
   rw [hd]
   unfold iZ Ek
   have JR := afp h (nth l (l.length - (k + 1)))
   cases h1 : nV b (nth l (l.length - (k + 1))) with
   | false =>
    rw [nW (o := .inr (dZ acc, 6)) (by simp only [dec_lt hi, cm, dD, cO hi, Option.bind_some, JR, h1, Bool.not_false])]
    exact ⟨_, rfl, λ e => by cases e⟩
   | true =>
    obtain ⟨g0, g1⟩ := Ns.1 h1
    have g5 : nth l (l.length - (k + 1)) < 5 := by omega
    have Pn := GX acc g0 g5
    have YF := afs h h5 (out := acc) g0 g5
    cases h2 : acc.contains (nth l (l.length - (k + 1))) with
    | true =>
     rw [nW (o := .inr (dZ acc, 5)) (by simp only [dec_lt hi, cm, bF, dD, cO hi, Option.bind_some, JR, h1, Pn, h2, Bool.not_true])]
     exact ⟨_, rfl, λ e => by cases e⟩
    | false =>
     cases h3 : qa b acc (nth l (l.length - (k + 1))) with
     | false =>
      rw [nW (o := .inr (dZ acc, 7)) (by simp only [dec_lt hi, cm, bF, dD, cO hi, Option.bind_some, JR, h1, Pn, h2, YF, h3, Bool.not_true, Bool.not_false])]
      exact ⟨_, rfl, λ e => by cases e⟩
     | true =>
      have e93 := V1 (out := acc) (l := [nth l (l.length - (k + 1))]) (λ x hx => by simp at hx; subst hx; exact ⟨g0, g5⟩) (by simp)
      rw [D1 (s' := (((l.length - k : Nat) : Int), dZ (acc ++ [nth l (l.length - (k + 1))]))) (by
       simp only [dec_lt hi, cm, bF, dD, cO hi, Option.bind_some, JR, h1, Pn, h2, YF, h3, e93, Bool.not_true, eo (i := l.length - (k + 1)) (by omega), show l.length - (k + 1) + 1 = l.length - k by omega])]
      obtain ⟨g, hg1, hg2⟩ := ih (by omega) (acc ++ [nth l (l.length - (k + 1))])
      refine ⟨g, hg1, λ e => ?_⟩
      obtain ⟨k1, k2⟩ := hg2 e
      refine ⟨by rw [k1, List.append_assoc]; rfl, λ x hx => ?_⟩
      rcases List.mem_cons.1 hx with rfl | hx
      ·exact ⟨g0, g5⟩
      ·exact k2 x hx
 intro out
 have := key l.length (Nat.le_refl _) out
 rw [Nat.sub_self, List.drop_zero] at this
 exact this
def vW (b : aq) (i : Nat) : Option Int := if dH (nth b.aO i).dr 0 (b.Out.length : Int) = false then some 6 else if dH (nth b.aO i).dQ 0 2 = false then some 1 else none
def zH (b : aq) : Int := if 4 < b.aO.length then 2 else (dA (vW b) 0 b.aO.length).getD 0
theorem axB {b : aq} (h : Small b) : AS b = some (zH b) := by
 unfold AS zH
 have e3 : decide ((b.aO.length : Int) > 4) = decide (4 < b.aO.length) := zm (m := 4)
 have hh := h.yM
 rw [e3]
 by_cases h4 : 4 < b.aO.length
 ·simp [h4]
 simp only [h4, decide_false, bF, if_false]
 refine lO (vW b) b.aO.length (λ i hi => ?_) (by simp only [eR, bF]) rfl
 simp only [dec_lt hi, cm, dD, cO hi, Option.bind_some, vX, eo (i := i) (by omega)]
 unfold vW
 cases dH (nth b.aO i).dr 0 (b.Out.length : Int) with
 | false => rfl
 | true =>
  simp only [Bool.not_true, bF, Bool.true_eq_false, if_false]
  generalize (nth b.aO i).dQ = s
  by_cases h0 : s = 0
  ·subst h0; rfl
  by_cases h1 : s = 1
  ·subst h1; rfl
  by_cases h2 : s = 2
  ·subst h2; rfl
  have : dH s 0 2 = false := by
   cases hb : dH s 0 2 with
   | false => rfl
   | true =>
    simp only [dH, Bool.and_eq_true, decide_eq_true_eq] at hb
    omega
  have e0 : (s == 0) = false := by simpa using h0
  have e1 : (s == 1) = false := by simpa using h1
  have e2 : (s == 2) = false := by simpa using h2
  rw [e0, e1, e2, this]
  rfl
def we (b : aq) : Int := iZ b [] b.Out
def xk (b : aq) : Bool := dH b.aE 0 9999 && (lD b.aa (-999) 999 && lQ b.aa 3)
def dg (b : aq) : Int := if xk b = false then 1 else if nX b ≠ 0 then nX b else if we b ≠ 0 then we b else zH b
theorem axv (b : aq) : AP b = some (if xk b = false then 1 else 0) := by
 unfold AP xk
 rw [vX, Option.bind_some, Wh (by omega) (by omega)]
 cases dH b.aE 0 9999 with
 | false => rfl
 | true => cases lD b.aa (-999) 999 && lQ b.aa 3 <;> rfl
theorem ab6 {b : aq} (h : nX b = 0) : 1 ≤ b.az.length ∧ b.az.length ≤ 5 := by
 unfold nX at h
 split at h
 ·cases h
 ·rename_i hb
  simp only [dH, Bool.and_eq_false_iff, decide_eq_false_iff_not, not_or, Decidable.not_not] at hb
  omega
theorem mK {a : Int} (h : a ≠ 0) : (a != 0) = true := by simpa using h
theorem axz {b : aq} (h : Small b) (h5 : b.az.length ≤ 5) : AR b = some (we b) := by
 unfold AR
 have := h.out
 obtain ⟨g, hg, _⟩ := aeY h h5 (l := b.Out) (by omega) []
 rw [Zj] at hg
 rw [hg]; rfl
theorem VL {b : aq} (h : Small b) : lA b = some (dg b) := by
 unfold lA dg
 rw [show (⟨b.aE, ⟨b.aa.an, b.aa.ax⟩, b.az, b.Out, b.aO⟩ : aq) = b from rfl, axv, Option.bind_some]
 cases xk b with
 | false => rfl
 | true =>
  rw [if_neg (by decide), axx h]
  by_cases hp : nX b = 0
  ·obtain ⟨_, h5⟩ := ab6 hp
   rw [axz h h5, axB h]
   by_cases ho : we b = 0
   ·by_cases hh : zH b = 0
    ·simp [hp, ho, hh]
    ·simp [hp, ho, mK hh]
   ·simp [hp, ho, mK ho]
  ·simp [hp, mK hp]
theorem V0 {b : aq} (h : Small b) : qQ b = some (dg b) := by
 unfold qQ dg xk
 rw [vb, Option.bind_some, Wi, awU h, aeR h (by simp) (by have := h.out; omega)]
 cases dH b.aE 0 9999 with
 | false => rfl
 | true =>
  cases hr : lD b.aa (-999) 999 with
  | false => rfl
  | true =>
   have hw : decide (i64 (b.aa.ax - b.aa.an) ≥ 3) = !lQ b.aa 3 := by
    rw [adq (w := 3) (by omega) (by omega) hr]
    unfold lQ
    by_cases hx : b.aa.ax - b.aa.an < 3
    ·simp [hx]
    ·simp [hx]; omega
   simp only [Bool.not_true, bF, Option.bind_some, hw, Bool.true_and]
   cases lQ b.aa 3 with
   | false => rfl
   | true =>
    simp only [Bool.not_true, bF, Bool.true_eq_false, if_false]
    by_cases hp : nX b = 0
    ·by_cases ho : we b = 0
     ·have ho' : iZ b [] b.Out = 0 := ho
      have e3 : decide ((b.aO.length : Int) > 4) = decide (4 < b.aO.length) := zm (m := 4)
      have hh := h.yM
      simp only [hp, ho, ho', bne_self_eq_false, bF, ne_eq, not_true_eq_false, if_false, e3]
      unfold zH
      by_cases h4 : 4 < b.aO.length
      ·simp [h4]
      simp only [h4, decide_false, bF, if_false]
      refine lO (vW b) b.aO.length (λ i hi => ?_) (by simp only [eR, bF]) rfl
      simp only [dec_lt hi, cm, dD, cO hi, Option.bind_some, vb, eo (i := i) (by omega)]
      unfold vW
      cases dH (nth b.aO i).dr 0 (b.Out.length : Int) with
      | false => rfl
      | true => cases dH (nth b.aO i).dQ 0 2 <;> rfl
     ·have ho' : iZ b [] b.Out ≠ 0 := ho
      simp only [hp, bne_self_eq_false, bF, ne_eq, not_true_eq_false, if_false, mK ho', cm]
      rw [if_pos ho]
      rfl
    ·simp [hp, mK hp]
end Go.Proofs.YtabamagholjdcaaGreatDoor
namespace Go.Proofs.YtabamagholjdcaaGreatDoor
open Go.Lg Go.Proofs
set_option maxRecDepth 10000
structure agw (b : aq) (i : Nat) : Prop where
 arm : -9 ≤ (nth b.az i).dz ∧ (nth b.az i).dz ≤ 9
 weight : 1 ≤ (nth b.az i).Weight.an ∧ (nth b.az i).Weight.an ≤ (nth b.az i).Weight.ax ∧ (nth b.az i).Weight.ax ≤ 99 ∧ (nth b.az i).Weight.ax - (nth b.az i).Weight.an < 3
 on : od (nth b.az i).On (i : Int) = 0
structure Valid (b : aq) : Prop where
 small : Small b
 limit : 0 ≤ b.aE ∧ b.aE ≤ 9999
 fB : -999 ≤ b.aa.an ∧ b.aa.an ≤ b.aa.ax ∧ b.aa.ax ≤ 999 ∧ b.aa.ax - b.aa.an < 3
 n1 : 1 ≤ b.az.length
 n5 : b.az.length ≤ 5
 each : ∀ i, i < b.az.length → agw b i
 out : iZ b [] b.Out = 0
 yM : b.aO.length ≤ 4
 ad4 : ∀ x ∈ b.aO, 0 ≤ x.dr ∧ x.dr ≤ (b.Out.length : Int) ∧ 0 ≤ x.dQ ∧ x.dQ ≤ 2
theorem D9 {n a c : Int} : dH n a c = true ↔ a ≤ n ∧ n ≤ c := by simp [dH]
theorem Wp {x : Reach} {a c : Int} : lD x a c = true ↔ a ≤ x.an ∧ x.an ≤ x.ax ∧ x.ax ≤ c := by simp [lD]
theorem Ws {x : Reach} {w : Int} : lQ x w = true ↔ x.ax - x.an < w := by simp [lQ]
theorem VR {e : Nat → Option Int} {n : Nat} (hne : ∀ i, e i ≠ some 0) (h : (dA e 0 n).getD 0 = 0) : ∀ i, i < n → e i = none := by
 cases hf : dA e 0 n with
 | none => rw [uv] at hf; exact λ i hi => hf i (Nat.zero_le _) (by omega)
 | some o =>
  rw [hf] at h
  obtain ⟨j, _, _, he, _⟩ := vV hf
  have : o = 0 := h
  subst this
  exact absurd he (hne j)
theorem ayU {b : aq} (i : Nat) : vo b i ≠ some 0 := by
 unfold vo
 split
 ·intro e; cases e
 ·split
  ·intro e; cases e
  ·split
   ·intro e; cases e
   ·split
    ·rename_i h; intro e; injection e with e; exact h e
    ·intro e; cases e
theorem amq {b : aq} (i : Nat) : vW b i ≠ some 0 := by
 unfold vW
 split
 ·intro e; cases e
 ·split
  ·intro e; cases e
  ·intro e; cases e
theorem tV {b : aq} (hs : Small b) (h : dg b = 0) : Valid b := by
 unfold dg at h
 split at h
 ·cases h
 rename_i h1
 have h1 : xk b = true := by simpa using h1
 split at h
 ·rename_i h2; exact absurd h h2
 rename_i h2
 have h2 : nX b = 0 := by simpa using h2
 split at h
 ·rename_i h3; exact absurd h h3
 rename_i h3
 have h3 : we b = 0 := by simpa using h3
 unfold xk at h1
 simp only [Bool.and_eq_true, D9, Wp, Ws] at h1
 obtain ⟨g1, g2, g3⟩ := h1
 obtain ⟨n1, n5⟩ := ab6 h2
 have hp : ∀ i, i < b.az.length → vo b i = none := by
  unfold nX at h2
  split at h2
  ·cases h2
  ·exact VR ayU h2
 unfold zH at h
 split at h
 ·cases h
 rename_i h4
 have hh := VR amq h
 refine ⟨hs, g1, ⟨g2.1, g2.2.1, g2.2.2, g3⟩, n1, n5, λ i hi => ?_, h3, by omega, λ x hx => ?_⟩
 ·have := hp i hi
  unfold vo at this
  split at this
  ·cases this
  split at this
  ·cases this
  split at this
  ·cases this
  rename_i hb
  have hb : (dH (nth b.az i).dz (-9) 9 && (lD (nth b.az i).Weight 1 99 && lQ (nth b.az i).Weight 3)) = true := by simpa using hb
  simp only [Bool.and_eq_true, D9, Wp, Ws] at hb
  split at this
  ·cases this
  rename_i hc
  exact ⟨hb.1, ⟨hb.2.1.1, hb.2.1.2.1, hb.2.1.2.2, hb.2.2⟩, by simpa using hc⟩
 ·obtain ⟨i, hi, rfl⟩ := HB hx
  have := hh i hi
  unfold vW at this
  split at this
  ·cases this
  rename_i k1
  split at this
  ·cases this
  rename_i k2
  have k1 : dH (nth b.aO i).dr 0 (b.Out.length : Int) = true := by simpa using k1
  have k2 : dH (nth b.aO i).dQ 0 2 = true := by simpa using k2
  rw [D9] at k1 k2
  exact ⟨k1.1, k1.2, k2.1, k2.2⟩
def j4 (b : aq) (bG : Int) (ws out : List Int) : Nat → Int
 | 0 => bG
 | i + 1 => if out.contains (i : Int) then j4 b bG ws out i else j4 b bG ws out i + (nth b.az i).dz * nth ws i
def nT (b : aq) (bG : Int) (ws out : List Int) : Int := j4 b bG ws out b.az.length
structure vP (b : aq) (bG : Int) (ws : List Int) : Prop where
 bG : -999 ≤ bG ∧ bG ≤ 999
 len : b.az.length ≤ ws.length
 each : ∀ i, i < b.az.length → 0 ≤ nth ws i ∧ nth ws i ≤ 99
theorem VM {a w : Int} (h1 : -9 ≤ a) (h2 : a ≤ 9) (h3 : 0 ≤ w) (h4 : w ≤ 99) : -891 ≤ a * w ∧ a * w ≤ 891 := by
 constructor
 ·have : -9 * w ≤ a * w := Int.mul_le_mul_of_nonneg_right h1 h3
  omega
 ·have : a * w ≤ 9 * w := Int.mul_le_mul_of_nonneg_right h2 h3
  omega
theorem NL {b : aq} (hv : Valid b) {bG : Int} {ws out : List Int} (hf : vP b bG ws) : ∀ i, i ≤ b.az.length → -(999 + 891 * (i : Int)) ≤ j4 b bG ws out i ∧ j4 b bG ws out i ≤ 999 + 891 * (i : Int)
 | 0, _ => by have := hf.bG; simp only [j4]; omega
 | i + 1, hi => by
  have ih := NL hv hf (out := out) i (by omega)
  have hp := (hv.each i (by omega)).arm
  have hw := hf.each i (by omega)
  have hm := VM hp.1 hp.2 hw.1 hw.2
  unfold j4
  split
  ·push_cast; omega
  ·push_cast; omega
theorem afo {b : aq} (hv : Valid b) {bG : Int} {ws out : List Int} (hf : vP b bG ws) : oU b ⟨bG, ws⟩ (dZ out) = some (nT b bG ws out) := by
 unfold oU
 have h5 := hv.n5
 refine (lz (o := nT b bG ws out) (qN (λ i => (j4 b bG ws out i, (i : Int))) b.az.length (λ i hi => ?_) ?_ : bt _ (bG, (0 : Int)) = _)).trans rfl
 ·have hp := (hv.each i hi).arm
  have hw := hf.each i hi
  have hm := VM hp.1 hp.2 hw.1 hw.2
  have hb := NL hv hf (out := out) i (by omega)
  have hl := hf.len
  simp only [dec_lt hi, cm, dD, cO hi, cO (show i < ws.length by omega), Option.bind_some, GX out (p := (i : Int)) (by omega) (by omega), eo (i := i) (by omega), jk (z := (nth b.az i).dz * nth ws i) (by omega) (by omega), jk (z := j4 b bG ws out i + (nth b.az i).dz * nth ws i) (by omega) (by omega)]
  conv => rhs; unfold j4
  cases out.contains (i : Int) <;> rfl
 ·simp only [eR, bF]; rfl
theorem V2 {b : aq} {bG : Int} {ws ws' out out' : List Int} : ∀ n, (∀ i, i < n → nth ws i = nth ws' i) → (∀ i : Nat, i < n → out.contains (i : Int) = out'.contains (i : Int)) → j4 b bG ws out n = j4 b bG ws' out' n
 | 0, _, _ => rfl
 | n + 1, h1, h2 => by
  unfold j4
  rw [h1 n (by omega), h2 n (by omega), V2 n (λ i hi => h1 i (by omega)) (λ i hi => h2 i (by omega))]
def adW (b : aq) (c : cB) : Int :=
 if dH c.aa (-999) 999 = false then 1 else if c.fD.length ≠ b.az.length then 2 else if (c.fD.any λ n => !dH n 0 99) = true then 1 else 0
theorem aDB {n m : Nat} : ((n : Int) != (m : Int)) = decide (n ≠ m) := by
 by_cases h : n = m
 ·subst h; simp
 ·have : ¬ (n : Int) = (m : Int) := by omega
  simp [h, this]
theorem aUh {b : aq} {c : cB} (hc : c.fD.length ≤ 100) : ∃ k, Ef b c = some (k, adW b c) ∧ (adW b c = 0 → k = ⟨c.aa, fT [0, 0, 0, 0, 0] c.fD⟩) := by
 unfold Ef adW
 rw [vX, Option.bind_some, aDB]
 cases dH c.aa (-999) 999 with
 | false => exact ⟨_, rfl, λ e => by cases e⟩
 | true =>
  by_cases hl : c.fD.length = b.az.length
  ·simp only [hl, ne_eq, not_true_eq_false, decide_false, Bool.not_true, bF, Bool.true_eq_false, if_false]
   rw [afv (l := c.fD) (f := λ y => BB y) (p := λ n => !dH n 0 99) (by omega) (λ x _ => by unfold BB; rw [vX]; rfl), Option.bind_some]
   cases c.fD.any λ n => !dH n 0 99 with
   | true => exact ⟨_, rfl, λ e => by cases e⟩
   | false => exact ⟨_, rfl, λ _ => rfl⟩
  ·simp only [hl, ne_eq, not_false_eq_true, decide_true, Bool.not_true, bF, cm, Bool.true_eq_false, if_false, if_true]
   exact ⟨_, rfl, λ e => by cases e⟩
theorem aSW {b : aq} (_ : Valid b) {c : cB} (h : adW b c = 0) : c.fD.length = b.az.length ∧ vP b c.aa c.fD := by
 unfold adW at h
 split at h
 ·cases h
 rename_i h1
 split at h
 ·cases h
 rename_i h2
 split at h
 ·cases h
 rename_i h3
 have h1 : dH c.aa (-999) 999 = true := by simpa using h1
 have h2 : c.fD.length = b.az.length := by simpa using h2
 rw [D9] at h1
 refine ⟨h2, h1, by omega, λ i hi => ?_⟩
 have h3 : (c.fD.any λ n => !dH n 0 99) = false := by simpa using h3
 rw [List.any_eq_false] at h3
 have := h3 _ (jy (show i < c.fD.length by omega))
 have : dH (nth c.fD i) 0 99 = true := by simpa using this
 rwa [D9] at this
theorem Wn {ws : List Int} {i : Nat} (h : i < ws.length) (h5 : ws.length ≤ 5) : nth (fT [0, 0, 0, 0, 0] ws) i = nth ws i := by
 unfold fT nth
 rw [List.getD_eq_getElem?_getD, List.getD_eq_getElem?_getD, List.getElem?_append_left (by simp; omega), List.getElem?_take_of_lt (by simp; omega)]
theorem VE {ws : List Int} (h5 : ws.length ≤ 5) : (fT [0, 0, 0, 0, 0] ws).length = 5 := by
 unfold fT
 simp only [List.length_append, List.length_take, List.length_drop, List.length_cons, List.length_nil]
 omega
theorem ae7 {b : aq} (hv : Valid b) {bG : Int} {ws : List Int} (hl : ws.length = b.az.length) (hf : vP b bG ws) : vP b bG (fT [0, 0, 0, 0, 0] ws) := by
 have := hv.n5
 refine ⟨hf.bG, by rw [VE (by omega)]; omega, λ i hi => ?_⟩
 rw [Wn (by omega) (by omega)]
 exact hf.each i hi
theorem afE {b : aq} (hv : Valid b) {bG : Int} {ws out : List Int} (hl : ws.length = b.az.length) : nT b bG (fT [0, 0, 0, 0, 0] ws) out = nT b bG ws out := by
 have := hv.n5
 exact V2 _ (λ i hi => Wn (by omega) (by omega)) (λ _ _ => rfl)
theorem aKD {l : List Int} {below : Int} (h : od l below = 0) : ∀ x ∈ l, 0 ≤ x ∧ x < below := by
 intro x hx
 obtain ⟨i, hi, rfl⟩ := HB hx
 have := VR (e := Bv l below) (λ i => by
  unfold Bv
  split
  ·intro e; cases e
  ·split
   ·split
    ·intro e; cases e
    ·intro e; cases e
   ·intro e; cases e) h i hi
 unfold Bv at this
 split at this
 ·cases this
 ·rename_i hb
  have hb : dH (nth l i) 0 (below - 1) = true := by simpa using hb
  rw [D9] at hb
  omega
def aMk (b : aq) (c : cB) (out : List Int) : Int × Int :=
 if dg b ≠ 0 then (0, dg b) else if adW b c ≠ 0 then (0, adW b c) else if od out (b.az.length : Int) ≠ 0 then (0, od out (b.az.length : Int)) else (nT b c.aa c.fD out, 0)
theorem aUJ {b : aq} (hs : Small b) {c : cB} {out : List Int} (hc : c.fD.length ≤ 20) (ho : out.length ≤ 20) : rI b c out = some (aMk b c out) := by
 unfold rI aMk
 have hp := hs.pieces
 rw [VL hs, Option.bind_some]
 by_cases h1 : dg b = 0
 ·have hv := tV hs h1
  obtain ⟨k, hk1, hk2⟩ := aUh (b := b) (c := c) (by omega)
  rw [hk1, afr (by omega) (by omega) (by omega)]
  by_cases h2 : adW b c = 0
  ·obtain ⟨hl, hf⟩ := aSW hv h2
   have hkk := hk2 h2
   subst hkk
   by_cases h3 : od out (b.az.length : Int) = 0
   ·have hin : wj out := λ x hx => by have := aKD h3 x hx; have := hv.n5; omega
    simp only [h1, h2, h3, bne_self_eq_false, bF, Option.bind_some, ne_eq, not_true_eq_false, if_false, Wm hin (by omega), afo hv (ae7 hv hl hf), afE hv hl]
   ·simp only [h1, h2, h3, bne_self_eq_false, bF, Option.bind_some, ne_eq, not_true_eq_false, not_false_eq_true, if_true, if_false, mK h3, cm]
  ·simp only [h1, h2, bne_self_eq_false, bF, Option.bind_some, ne_eq, not_true_eq_false, not_false_eq_true, if_true, if_false, mK h2, cm]
 ·simp only [h1, ne_eq, not_false_eq_true, if_true, mK h1, cm]
end Go.Proofs.YtabamagholjdcaaGreatDoor
namespace Go.Proofs.YtabamagholjdcaaGreatDoor
open Go.Lg Go.Proofs
set_option maxRecDepth 10000
def aIS (x k P : Int) : Option (List Int × List Int × List Int) :=
 (xZ .u8 1 k).bind λ s => (wL .andNot .u8 x s).bind λ y => (c49 y P).bind λ out => (cy [] out).bind λ a => (cy a [k]).bind λ b => (c51 b).bind λ so => (c52 P).bind λ up => some (out, so, up)
def aRx (x k P : Nat) : Bool :=
 match aIS x k P with
 | some (out, so, up) => od out P == 0 && od so P == 0 && od up P == 0 && decide (out.length ≤ 20) && decide (so.length ≤ 20) && decide (up.length ≤ 20) && !out.contains (k : Int) &&
   ((List.range P).all λ i => (so.contains (i : Int) == (out.contains (i : Int) || i == k)) && up.contains (i : Int))
 | none => false
set_option maxRecDepth 1000000 in
theorem aSO : ((List.range 256).all λ x => (List.range 6).all λ P => (List.range P).all λ k => aRx x k P) = true := by decide +kernel
theorem aSP {x k P : Nat} (hx : x < 256) (hP : P < 6) (hk : k < P) : ∃ s y out a b so up, xZ .u8 1 k = some s ∧ wL .andNot .u8 x s = some y ∧ yG y P = some out ∧ cy [] out = some a ∧ cy a [(k : Int)] = some b ∧ BK b = some so ∧ yH P = some up ∧
  od out P = 0 ∧ od so P = 0 ∧ od up P = 0 ∧ out.length ≤ 20 ∧ so.length ≤ 20 ∧ up.length ≤ 20 ∧ out.contains (k : Int) = false ∧ ∀ i, i < P → so.contains (i : Int) = (out.contains (i : Int) || i == k) ∧ up.contains (i : Int) = true := by
 have h := aSO
 rw [List.all_eq_true] at h
 have h := h x (List.mem_range.2 hx)
 rw [List.all_eq_true] at h
 have h := h P (List.mem_range.2 hP)
 rw [List.all_eq_true] at h
 have h := h k (List.mem_range.2 hk)
 unfold aRx at h
 cases hw : aIS x k P with
 | none => rw [hw] at h; cases h
 | some r =>
  rw [hw] at h
  obtain ⟨out, so, up⟩ := r
  simp only [Bool.and_eq_true, beq_iff_eq, decide_eq_true_eq, Bool.not_eq_true', List.all_eq_true, List.mem_range] at h
  obtain ⟨⟨⟨⟨⟨⟨⟨h1, h2⟩, h3⟩, h4⟩, h5⟩, h6⟩, h7⟩, h8⟩ := h
  unfold aIS at hw
  obtain ⟨s, hs, hw⟩ := ao hw
  obtain ⟨y, hy, hw⟩ := ao hw
  obtain ⟨o, ho, hw⟩ := ao hw
  obtain ⟨a, ha, hw⟩ := ao hw
  obtain ⟨b, hb, hw⟩ := ao hw
  obtain ⟨q, hq, hw⟩ := ao hw
  obtain ⟨u, hu, hw⟩ := ao hw
  cases hw
  exact ⟨s, y, _, a, b, _, _, hs, hy, aCF _ _ _ ho, ha, hb, aDA _ _ hq, aCG _ _ hu, h1, h2, h3, h4, h5, h6, h7, h8⟩
theorem aSd {b : aq} {bG : Int} {ws out so : List Int} {k : Nat} (hk : out.contains (k : Int) = false) : ∀ n : Nat, (∀ i : Nat, i < n → so.contains (i : Int) = (out.contains (i : Int) || i == k)) → j4 b bG ws out n - j4 b bG ws so n = if k < n then (nth b.az k).dz * nth ws k else 0
 | 0, _ => by simp [j4]
 | n + 1, h => by
  have ih := aSd (b := b) (bG := bG) (ws := ws) hk n (λ i hi => h i (by omega))
  have hn := h n (by omega)
  simp only [j4]
  by_cases hkn : n = k
  ·subst hkn
   rw [hk] at hn ⊢
   rw [hn]
   simp only [Bool.false_or, beq_self_eq_true, if_true, Bool.false_eq_true, if_false] at ih ⊢
   rw [if_neg (by omega)] at ih
   rw [if_pos (by omega)]
   omega
  ·have : (n == k) = false := by simpa using hkn
   rw [hn, this, Bool.or_false]
   have e : (if k < n + 1 then (nth b.az k).dz * nth ws k else 0) = if k < n then (nth b.az k).dz * nth ws k else 0 := by
    by_cases h1 : k < n
    ·rw [if_pos h1, if_pos (by omega)]
    ·rw [if_neg h1, if_neg (by omega)]
   rw [e, ← ih]
   cases out.contains (n : Int) <;> simp <;> omega
theorem aSe {b : aq} {bG : Int} {ws out : List Int} : ∀ n : Nat, (∀ i : Nat, i < n → out.contains (i : Int) = true) → j4 b bG ws out n = bG
 | 0, _ => rfl
 | n + 1, h => by rw [j4, h n (by omega), if_pos rfl]; exact aSe n (λ i hi => h i (by omega))
theorem aMg (b : aq) : Hq b = some (!Cb b && (dg b == 0)) := by
 unfold Hq
 rw [axu, Option.bind_some]
 cases hg : Cb b with
 | true => rfl
 | false => rw [V0 (aeo hg)]; rfl
def UC (l : List Int) (k : Nat) : Int := if k < l.length then nth l k else 0
def aF3 (l : List Int) : Prop := ∀ x ∈ l, 0 ≤ x ∧ x ≤ 65535
theorem aSp {l : List Int} (h : aF3 l) (k : Nat) : 0 ≤ UC l k ∧ UC l k ≤ 65535 := by
 unfold UC
 split
 ·rename_i hk; exact h _ (jy hk)
 ·omega
theorem aR8 {l : List Int} (h : aF3 l) (k : Nat) : Ix l (k : Int) = some (UC l k) := by
 unfold Ix UC
 by_cases hk : k < l.length
 ·have := h _ (jy hk)
  rw [dec_lt hk, cm, dD, cO hk, Option.bind_some, if_pos hk, jk (by omega) (by omega)]
 ·rw [if_neg hk, show decide ((k : Int) < (l.length : Int)) = false by simp; omega, bF]
theorem aSv {a m : Int} (ha : 0 ≤ a) (hm : 0 < m) : 0 ≤ a.tmod m ∧ a.tmod m < m := ⟨Int.tmod_nonneg m ha, Int.tmod_lt_of_pos a hm⟩
def B6 (l : List Int) (n : Nat) : List Int := (List.range n).map λ i => (UC l (1 + i)).tmod 100
theorem ae8 (l : List Int) (n : Nat) : (B6 l n).length = n := by simp [B6]
theorem aSY (l : List Int) (n : Nat) : B6 l (n + 1) = B6 l n ++ [(UC l (1 + n)).tmod 100] := by simp [B6, List.range_succ]
theorem aBL (l : List Int) {i n : Nat} (h : i < n) : nth (B6 l n) i = (UC l (1 + i)).tmod 100 := by
 have h1 := cO (l := B6 l n) (i := i) (by rw [ae8]; exact h)
 simp only [B6, List.getElem?_map, List.getElem?_range h, Option.map_some, Option.some.injEq] at h1
 exact h1.symm
theorem aT7 (b : aq) (l : List Int) (x p : Nat) (hl : aF3 l) (hx : x < 256) (hp : p < 256) : m6 b l x p = some true := by
 unfold m6
 rw [aMg, azk, Option.bind_some]
 cases hg : Cb b with
 | true => rfl
 | false =>
 by_cases h1 : dg b = 0
 case neg =>
  have : (dg b == 0) = false := by simpa using h1
  rw [this]
  rfl
 have hs := aeo hg
 have hv := tV hs h1
 have h5 := hv.n5
 have hn1 := hv.n1
 have hb0 := aSp hl 0
 simp only [h1, Bool.not_false, beq_self_eq_true, Bool.and_true, Bool.not_true, bF]
 have e48 : Ix l 0 = some (UC l 0) := aR8 hl 0
 rw [e48, Option.bind_some, show Dj (UC l 0) 1000 = some ((UC l 0).tmod 1000) from rfl, Option.bind_some]
 have aTd := aSv (a := UC l 0) (m := 1000) hb0.1 (by omega)
 generalize hbe : (UC l 0).tmod 1000 = bG at aTd
 have hdr : ∀ n i, i < n → 0 ≤ nth (B6 l n) i ∧ nth (B6 l n) i < 100 := λ n i hi => by
  rw [aBL l hi]
  exact aSv (aSp hl _).1 (by omega)
 have hfit : vP b bG (B6 l b.az.length) := ⟨by omega, by rw [ae8]; exact Nat.le_refl _, λ i hi => by have := hdr _ i hi; omega⟩
 have hms : ∀ i, i ≤ b.az.length → j4 b bG (B6 l i) [] i = j4 b bG (B6 l b.az.length) [] i := λ i hi =>
  V2 _ (λ j hj => by rw [aBL l hj, aBL l (by omega)]) (λ _ _ => rfl)
 refine (lz (o := (nT b bG (B6 l b.az.length) [], B6 l b.az.length)) ?_).trans ?_
 ·have e0 : (bG, (0 : Int), ([] : List Int)) = (λ i : Nat => (j4 b bG (B6 l b.az.length) [] i, (i : Int), B6 l i)) 0 := rfl
  rw [e0]
  refine qN (λ i : Nat => (j4 b bG (B6 l b.az.length) [] i, (i : Int), B6 l i)) b.az.length (λ i hi => ?_) (by simp only [eR, bF]; rfl)
  have hw := hfit.each i hi
  have hp := (hv.each i hi).arm
  have hm := VM hp.1 hp.2 hw.1 hw.2
  have hb := NL hv hfit (out := []) i (by omega)
  rw [aBL l hi] at hm hw
  have e1 : i64 (1 + (i : Int)) = ((1 + i : Nat) : Int) := by rw [jk (by omega) (by omega)]; omega
  simp only [dec_lt hi, cm, e1, aR8 hl, Option.bind_some, dD, cO hi, eo (i := i) (by omega)]
  rw [show Dj (UC l (1 + i)) 100 = some ((UC l (1 + i)).tmod 100) from rfl, Option.bind_some, mU (by simp [ae8]; omega), Option.bind_some, ← aSY]
  rw [cO (by rw [ae8]; omega), Option.bind_some, aBL l (by omega)]
  rw [jk (z := _ * _) (by omega) (by omega), jk (by omega) (by omega)]
  simp [j4, aBL l hi]
 have ep : i64 (p : Int) = (p : Int) := jk (by omega) (by omega)
 have er : Dj (p : Int) (b.az.length : Int) = some ((p % b.az.length : Nat) : Int) := by
  unfold Dj
  rw [if_neg (by omega), Int.ofNat_tmod]
 have hk : p % b.az.length < b.az.length := Nat.mod_lt _ (by omega)
 rw [ep, er, Option.bind_some]
 generalize p % b.az.length = k at hk
 obtain ⟨s, y, out, a, bb, so, up, q1, q2, q3, q4, q5, q6, q7, c1, c2, c3, l1, l2, l3, d1, d2⟩ := aSP (x := x) (k := k) (P := b.az.length) hx (by omega) hk
 rw [q1, Option.bind_some, q2, Option.bind_some, q3, Option.bind_some]
 have aTf : adW b ⟨bG, B6 l b.az.length⟩ = 0 := by
  unfold adW
  rw [if_neg (by rw [Bool.not_eq_false, D9]; show -999 ≤ bG ∧ bG ≤ 999; omega), if_neg (by simp [ae8]), if_neg]
  simp only [List.any_eq_true, Bool.not_eq_true', not_exists, not_and]
  intro z hz
  obtain ⟨i, hi, rfl⟩ := HB hz
  rw [ae8] at hi
  have := hfit.each i hi
  rw [Bool.not_eq_false, D9]; omega
 have mo : ∀ o, od o (b.az.length : Int) = 0 → o.length ≤ 20 → rI b ⟨bG, B6 l b.az.length⟩ o = some (nT b bG (B6 l b.az.length) o, 0) := λ o ho hlo => by
  rw [aUJ hs (by simp [ae8]; omega) hlo]
  simp only [aMk, h1, aTf, ho, ne_eq, not_true_eq_false, if_false]
 rw [mo [] rfl (by simp), Option.bind_some, mo out c1 l1, Option.bind_some, q4, Option.bind_some, q5, Option.bind_some, q6, Option.bind_some, mo so c2 l2, Option.bind_some, q7, Option.bind_some, mo up c3 l3, Option.bind_some]
 have ha : nT b bG (B6 l b.az.length) out - nT b bG (B6 l b.az.length) so = (nth b.az k).dz * nth (B6 l b.az.length) k := by
  unfold nT
  rw [aSd d1 _ (λ i hi => (d2 i hi).1), if_pos hk]
 have hz : nT b bG (B6 l b.az.length) up = bG := aSe _ (λ i hi => (d2 i hi).2)
 simp only [beq_self_eq_true, cm, dD, cO hk, cO (l := B6 l b.az.length) (i := k) (by rw [ae8]; exact hk), Option.bind_some, ha, hz]
end Go.Proofs.YtabamagholjdcaaGreatDoor
