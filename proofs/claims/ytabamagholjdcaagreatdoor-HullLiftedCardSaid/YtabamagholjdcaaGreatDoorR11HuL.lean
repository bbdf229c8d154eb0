/- Plain laws of chapter 6. Conditions: none. -/
import Derived.Test.YtabamagholjdcaaGreatDoorQHuM
import Derived.Test.YtabamagholjdcaaGreatDoorQHuC
namespace Go.Proofs.YtabamagholjdcaaGreatDoor
open Go.Lg Go.Proofs
set_option maxRecDepth 10000
theorem loop_for {S O : Type} {body : S → Option (S ⊕ O)} (st : Nat → S) (n : Nat) {o : O} (h : ∀ i, i < n → body (st i) = some (.inl (st (i + 1)))) (hn : body (st n) = some (.inr o)) : loopM body (st 0) = some o := by
 have key : ∀ k, k ≤ n → loopM body (st (n - k)) = some o := by
  intro k
  induction k with
  | zero => intro _; exact loopM_stop hn
  | succ k ih =>
   intro hk
   rw [loopM_next (h (n - (k + 1)) (by omega)), show n - (k + 1) + 1 = n - k by omega]
   exact ih (by omega)
 have := key n (Nat.le_refl _)
 rwa [Nat.sub_self] at this
def firstE {O : Type} (e : Nat → Option O) : Nat → Nat → Option O
 | _, 0 => none
 | i, k + 1 => match e i with | some o => some o | none => firstE e (i + 1) k
def stepE {S O : Type} (s : S) : Option O → S ⊕ O
 | some o => .inr o
 | none => .inl s
theorem loop_exit' {S O : Type} {body : S → Option (S ⊕ O)} (st : Nat → S) (e : Nat → Option O) (i0 n : Nat) {o : O} (h : ∀ i, i0 ≤ i → i < n → body (st i) = some (stepE (st (i + 1)) (e i))) (hn : body (st n) = some (.inr o)) (h0 : i0 ≤ n) : loopM body (st i0) = some ((firstE e i0 (n - i0)).getD o) := by
 have key : ∀ k, k ≤ n - i0 → loopM body (st (n - k)) = some ((firstE e (n - k) k).getD o) := by
  intro k
  induction k with
  | zero => intro _; exact loopM_stop hn
  | succ k ih =>
   intro hk
   have hb := h (n - (k + 1)) (by omega) (by omega)
   unfold firstE
   cases he : e (n - (k + 1)) with
   | some o' =>
    rw [he] at hb
    exact loopM_stop hb
   | none =>
    rw [he] at hb
    rw [loopM_next hb, show n - (k + 1) + 1 = n - k by omega]
    exact ih (by omega)
 have := key (n - i0) (Nat.le_refl _)
 rwa [show n - (n - i0) = i0 by omega] at this
theorem loop_exit {S O : Type} {body : S → Option (S ⊕ O)} (st : Nat → S) (e : Nat → Option O) (n : Nat) {o : O} (h : ∀ i, i < n → body (st i) = some (stepE (st (i + 1)) (e i))) (hn : body (st n) = some (.inr o)) : loopM body (st 0) = some ((firstE e 0 n).getD o) := by
 simpa using loop_exit' st e 0 n (fun i _ hi => h i hi) hn (Nat.zero_le _)
theorem firstE_congr {O : Type} {e e' : Nat → Option O} : ∀ (k i : Nat), (∀ j, i ≤ j → j < i + k → e j = e' j) → firstE e i k = firstE e' i k
 | 0, _, _ => rfl
 | k + 1, i, h => by
  unfold firstE
  rw [h i (Nat.le_refl _) (by omega), firstE_congr k (i + 1) (fun j h1 h2 => h j (by omega) (by omega))]
theorem firstE_none {O : Type} {e : Nat → Option O} : ∀ {k i : Nat}, firstE e i k = none ↔ ∀ j, i ≤ j → j < i + k → e j = none
 | 0, i => by simp [firstE]; omega
 | k + 1, i => by
  unfold firstE
  cases he : e i with
  | some o => simp; exact ⟨i, Nat.le_refl _, by omega, by rw [he]; simp⟩
  | none =>
   simp only
   rw [firstE_none]
   constructor
   ·intro h j h1 h2
    by_cases hj : j = i
    ·subst hj; exact he
    ·exact h j (by omega) (by omega)
   ·intro h j h1 h2; exact h j (by omega) (by omega)
theorem firstE_some {O : Type} {e : Nat → Option O} : ∀ {k i : Nat} {o : O}, firstE e i k = some o → ∃ j, i ≤ j ∧ j < i + k ∧ e j = some o ∧ ∀ m, i ≤ m → m < j → e m = none
 | 0, i, o, h => by cases h
 | k + 1, i, o, h => by
  unfold firstE at h
  cases he : e i with
  | some o' => rw [he] at h; cases h; exact ⟨i, Nat.le_refl _, by omega, he, fun m h1 h2 => by omega⟩
  | none =>
   rw [he] at h
   obtain ⟨j, h1, h2, h3, h4⟩ := firstE_some h
   refine ⟨j, by omega, by omega, h3, fun m hm1 hm2 => ?_⟩
   by_cases hm : m = i
   ·subst hm; exact he
   ·exact h4 m (by omega) hm2
@[simp] theorem sel_tt {α : Type} {a b : Option α} : sel true a b = a := rfl
@[simp] theorem sel_ff {α : Type} {a b : Option α} : sel false a b = b := rfl
@[simp] theorem idx_nat {α : Type} (xs : List α) (k : Nat) : idx xs (k : Int) = xs[k]? := by simp [idx]
theorem i64_ok {z : Int} (h1 : -4611686018427387904 ≤ z) (h2 : z ≤ 4611686018427387904) : i64 z = z := i64_fit (by omega)
theorem i64_succ {i : Nat} (h : i ≤ 1000000000) : i64 ((i : Int) + 1) = ((i + 1 : Nat) : Int) := by rw [i64_ok (by omega) (by omega)]; omega
theorem i64_pred {i : Nat} (h : i ≤ 1000000000) (h0 : 0 < i) : i64 ((i : Int) - 1) = ((i - 1 : Nat) : Int) := by rw [i64_ok (by omega) (by omega)]; omega
theorem cut_take {α : Type} {xs : List α} {k : Nat} (h : k ≤ xs.length) : cutM xs 0 (k : Int) = some (xs.take k) := by simp [cutM, h]
theorem app_ok {α : Type} {xs ys : List α} (h : xs.length + ys.length ≤ 16777216) : appM xs ys = some (xs ++ ys) := by simp [appM, h]
def btw (n a c : Int) : Bool := decide (a ≤ n) && decide (n ≤ c)
theorem m154_eq (n a c : Int) : m154 n a c = some (btw n a c) := by
 unfold m154 btw
 cases decide (a ≤ n) <;> rfl
theorem m58_eq (n a c : Int) : m58 n a c = some (btw n a c) := by
 unfold m58 btw
 cases decide (a ≤ n) <;> rfl
def reachIn (x : Reach) (a c : Int) : Bool := decide (a ≤ x.Least) && (decide (x.Least ≤ x.Most) && decide (x.Most ≤ c))
theorem m124_eq (x : Reach) (a c : Int) : m124 x a c = some (reachIn x a c) := by
 unfold m124 reachIn
 cases decide (a ≤ x.Least) <;> cases decide (x.Least ≤ x.Most) <;> rfl
def wideLt (x : Reach) (w : Int) : Bool := decide (x.Most - x.Least < w)
theorem wide_i64 {x : Reach} {a c w : Int} (ha : -1000000 ≤ a) (hc : c ≤ 1000000) (h : reachIn x a c = true) : i64 (x.Most - x.Least) = x.Most - x.Least := by
 simp only [reachIn, Bool.and_eq_true, decide_eq_true_eq] at h
 exact i64_ok (by omega) (by omega)
theorem m121_eq {x : Reach} {a c w : Int} (ha : -1000000 ≤ a) (hc : c ≤ 1000000) : m121 x a c w = some (reachIn x a c && wideLt x w) := by
 unfold m121 reachIn wideLt
 by_cases h1 : a ≤ x.Least
 ·by_cases h2 : x.Least ≤ x.Most
  ·by_cases h3 : x.Most ≤ c
   ·simp [h1, h2, h3, i64_ok (z := x.Most - x.Least) (by omega) (by omega)]
   ·simp [h1, h2, h3]
  ·simp [h1, h2]
 ·simp [h1]
def nth {α : Type} [Inhabited α] (l : List α) (i : Nat) : α := l.getD i default
theorem nth_of {α : Type} [Inhabited α] {l : List α} {i : Nat} (h : i < l.length) : l[i]? = some (nth l i) := by
 unfold nth
 rw [List.getD_eq_getElem?_getD, List.getElem?_eq_getElem h]; rfl
theorem nth_mem {α : Type} [Inhabited α] {l : List α} {i : Nat} (h : i < l.length) : nth l i ∈ l := List.mem_of_getElem? (nth_of h)
theorem nth_ex {α : Type} [Inhabited α] {l : List α} {x : α} (h : x ∈ l) : ∃ i, i < l.length ∧ nth l i = x := by
 obtain ⟨i, hi, rfl⟩ := List.mem_iff_getElem.1 h
 refine ⟨i, hi, ?_⟩
 have := nth_of hi
 rw [List.getElem?_eq_getElem hi] at this
 exact (Option.some.inj this).symm
theorem nth_take {α : Type} [Inhabited α] {l : List α} {i k : Nat} (h : i < k) : nth (l.take k) i = nth l i := by
 unfold nth
 rw [List.getD_eq_getElem?_getD, List.getD_eq_getElem?_getD, List.getElem?_take_of_lt h]
instance : Inhabited HullPiece := ⟨⟨⟨#[]⟩, 0, ⟨0, 0⟩, []⟩⟩
instance : Inhabited HullHeel := ⟨⟨0, 0⟩⟩
theorem loop_bind {S O β : Type} {body : S → Option (S ⊕ O)} {s : S} {o : O} {f : O → Option β} (h : loopM body s = some o) : (loopM body s).bind f = f o := by rw [h]; rfl
theorem dec_lt {i : Nat} {n : Nat} (h : i < n) : decide ((i : Int) < (n : Int)) = true := by simpa using h
theorem dec_nlt {n : Nat} : decide ((n : Int) < (n : Int)) = false := by simp
theorem dec_pos {i : Nat} (h : 0 < i) : decide ((i : Int) > 0) = true := by simpa using h
theorem dec_npos {i : Nat} (h : ¬ 0 < i) : decide ((i : Int) > 0) = false := by simpa using h
theorem elim_first {O : Type} {f : Option O} {g : Unit → Option O} {d : O} (hd : g () = some d) : Sum.elim g (fun q => some q) (((f.map Sum.inr).getD (.inl ())) : Unit ⊕ O) = some (f.getD d) := by
 cases f with
 | none => exact hd
 | some o => rfl
theorem firstE_map {O Q : Type} (g : O → Q) (e : Nat → Option O) : ∀ (k i : Nat), firstE (fun j => (e j).map g) i k = (firstE e i k).map g
 | 0, _ => rfl
 | k + 1, i => by
  unfold firstE
  cases e i with
  | none => exact firstE_map g e k (i + 1)
  | some o => rfl
theorem search {O : Type} {body : Int → Option (Int ⊕ (Unit ⊕ O))} (e : Nat → Option O) (i0 n : Nat) {d : O} {g : Unit → Option O} (h : ∀ i, i0 ≤ i → i < n → body (i : Int) = some (match e i with | some o => .inr (.inr o) | none => .inl ((i + 1 : Nat) : Int))) (hn : body (n : Int) = some (.inr (.inl ()))) (h0 : i0 ≤ n) (hd : g () = some d) :
  (loopM body (i0 : Int)).bind (Sum.elim g fun q => some q) = some ((firstE e i0 (n - i0)).getD d) := by
 refine (loop_bind (loop_exit' (fun i => (i : Int)) (fun i => (e i).map Sum.inr) i0 n (o := .inl ()) (fun i h1 h2 => ?_) hn h0)).trans ?_
 ·rw [h i h1 h2]
  cases e i <;> rfl
 ·rw [firstE_map]
  exact elim_first hd
theorem search0 {O : Type} {body : Int → Option (Int ⊕ (Unit ⊕ O))} (e : Nat → Option O) (n : Nat) {d : O} {g : Unit → Option O} (h : ∀ i, i < n → body (i : Int) = some (match e i with | some o => .inr (.inr o) | none => .inl ((i + 1 : Nat) : Int))) (hn : body (n : Int) = some (.inr (.inl ()))) (hd : g () = some d) :
  (loopM body 0).bind (Sum.elim g fun q => some q) = some ((firstE e 0 n).getD d) := search e 0 n (fun i _ hi => h i hi) hn (Nat.zero_le _) hd
def climbE (l : List Int) (below : Int) (i : Nat) : Option Int :=
 if btw (nth l i) 0 (below - 1) = false then some 6 else if 0 < i then (if nth l i ≤ nth l (i - 1) then some 7 else none) else none
def climbsS (l : List Int) (below : Int) : Int := (firstE (climbE l below) 0 l.length).getD 0
theorem m132_eq {l : List Int} {below : Int} (hl : l.length ≤ 1000) (h0 : 0 ≤ below) (h1 : below ≤ 1000) : m132 l below = some (climbsS l below) := by
 unfold m132
 refine search0 (climbE l below) l.length (fun i hi => ?_) (by simp only [dec_nlt, sel_ff]) rfl
 simp only [dec_lt hi, sel_tt, idx_nat, nth_of hi, Option.bind_some, m154_eq, i64_ok (z := below - 1) (by omega) (by omega), i64_succ (i := i) (by omega)]
 unfold climbE
 cases btw (nth l i) 0 (below - 1) with
 | false => rfl
 | true =>
  by_cases hp : 0 < i
  ·simp only [dec_pos hp, Bool.not_true, sel_ff, sel_tt, i64_pred (i := i) (by omega) hp, idx_nat, nth_of (show i - 1 < l.length by omega), Option.bind_some, hp, if_true, Bool.true_eq_false, if_false]
   by_cases hc : nth l i ≤ nth l (i - 1) <;> simp [hc]
  ·simp [hp]
theorem m66_eq {l : List Int} {below : Int} (hl : l.length ≤ 1000) (h0 : 0 ≤ below) (h1 : below ≤ 1000) : m66 l below = some (climbsS l below) := by
 unfold m66
 refine search0 (climbE l below) l.length (fun i hi => ?_) (by simp only [dec_nlt, sel_ff]) rfl
 simp only [dec_lt hi, sel_tt, idx_nat, nth_of hi, Option.bind_some, m58_eq, i64_ok (z := below - 1) (by omega) (by omega), i64_succ (i := i) (by omega)]
 unfold climbE
 cases btw (nth l i) 0 (below - 1) with
 | false => rfl
 | true =>
  by_cases hp : 0 < i
  ·simp only [dec_pos hp, Bool.not_true, sel_ff, sel_tt, i64_pred (i := i) (by omega) hp, idx_nat, nth_of (show i - 1 < l.length by omega), Option.bind_some, hp, if_true, Bool.true_eq_false, if_false]
   by_cases hc : nth l i ≤ nth l (i - 1) <;> simp [hc]
  ·simp [hp]
theorem first_any {α : Type} [Inhabited α] (p : α → Bool) (l : List α) : (firstE (fun i => if p (nth l i) then some true else none) 0 l.length).getD false = l.any p := by
 cases h : firstE (fun i => if p (nth l i) then some true else none) 0 l.length with
 | none =>
  rw [firstE_none] at h
  symm
  rw [Option.getD_none, List.any_eq_false]
  intro x hx
  obtain ⟨i, hi, rfl⟩ := nth_ex hx
  have := h i (Nat.zero_le _) (by omega)
  simpa using this
 | some o =>
  obtain ⟨j, _, hj, he, _⟩ := firstE_some h
  split at he
  ·rename_i hp
   cases he
   symm
   rw [Option.getD_some, List.any_eq_true]
   exact ⟨nth l j, nth_mem (by omega), hp⟩
  ·cases he
theorem any_eq2 (l : List Int) (n : Int) : (l.any fun x => n == x) = l.contains n := by
 rw [Bool.eq_iff_iff, List.any_eq_true, List.contains_iff_mem]
 constructor
 ·rintro ⟨x, hx, h⟩
  rw [beq_iff_eq] at h; subst h; exact hx
 ·intro h; exact ⟨n, h, by simp⟩
theorem any_eq1 (l : List Int) (n : Int) : (l.any fun x => x == n) = l.contains n := by
 rw [Bool.eq_iff_iff, List.any_eq_true, List.contains_iff_mem]
 constructor
 ·rintro ⟨x, hx, h⟩
  rw [beq_iff_eq] at h; subst h; exact hx
 ·intro h; exact ⟨n, h, by simp⟩
theorem m47_eq {l : List Int} {n : Int} (hl : l.length ≤ 1000) : m47 l n = some (l.contains n) := by
 unfold m47
 refine (search0 (fun i => if (nth l i == n) then some true else none) l.length (d := false) (fun i hi => ?_) (by simp only [dec_nlt, sel_ff]) rfl).trans ?_
 ·simp only [dec_lt hi, sel_tt, idx_nat, nth_of hi, Option.bind_some, i64_succ (i := i) (by omega)]
  cases nth l i == n <;> rfl
 ·rw [first_any (fun x => x == n) l]
  rw [any_eq1]
theorem first_idx {α : Type} [Inhabited α] (p : α → Bool) (l : List α) : decide ((firstE (fun i => if p (nth l i) then some (i : Int) else none) 0 l.length).getD (-1) ≥ 0) = l.any p := by
 rw [← first_any p l]
 cases h : firstE (fun i => if p (nth l i) then some (i : Int) else none) 0 l.length with
 | none =>
  rw [firstE_none] at h
  have : firstE (fun i => if p (nth l i) then some true else none) 0 l.length = none := by
   rw [firstE_none]
   intro j h1 h2
   have := h j h1 h2
   cases hp : p (nth l j) with
   | true => rw [hp] at this; cases this
   | false => rfl
  rw [this]; rfl
 | some o =>
  obtain ⟨j, h1, h2, h3, h4⟩ := firstE_some h
  split at h3
  ·rename_i hp
   cases h3
   have : firstE (fun i => if p (nth l i) then some true else none) 0 l.length = some true := by
    cases hf : firstE (fun i => if p (nth l i) then some true else none) 0 l.length with
    | none => rw [firstE_none] at hf; have := hf j h1 h2; rw [if_pos hp] at this; cases this
    | some b =>
     obtain ⟨_, _, _, hb, _⟩ := firstE_some hf
     split at hb
     ·cases hb; rfl
     ·cases hb
   rw [this]
   simp
  ·cases h3
theorem m175_eq {l : List Int} {n : Int} (hl : l.length ≤ 1000) : m175 l n = some (l.contains n) := by
 unfold m175 m188
 rw [search0 (fun i => if (n == nth l i) then some (i : Int) else none) l.length (d := (-1)) (fun i hi => ?_) (by simp only [dec_nlt, sel_ff]) rfl]
 ·rw [Option.bind_some, first_idx (fun x => n == x) l]
  rw [any_eq2]
 ·simp only [dec_lt hi, sel_tt, idx_nat, nth_of hi, Option.bind_some, i64_succ (i := i) (by omega)]
  cases n == nth l i <;> rfl
theorem m158_eq {l : List Int} {f : Int → Option Bool} {p : Int → Bool} (hl : l.length ≤ 1000) (hf : ∀ x ∈ l, f x = some (p x)) : m158 l f = some (l.any p) := by
 unfold m158 m171
 rw [search0 (fun i => if p (nth l i) then some (i : Int) else none) l.length (d := (-1)) (fun i hi => ?_) (by simp only [dec_nlt, sel_ff]) rfl]
 ·rw [Option.bind_some, first_idx p l]
 ·simp only [dec_lt hi, sel_tt, idx_nat, nth_of hi, Option.bind_some, hf _ (nth_mem hi), i64_succ (i := i) (by omega)]
  cases p (nth l i) <;> rfl
theorem m216_eq {l : List HullPiece} {f : HullPiece → Option Bool} {p : HullPiece → Bool} (hl : l.length ≤ 1000) (hf : ∀ x ∈ l, f x = some (p x)) : m216 l f = some (l.any p) := by
 unfold m216 m218
 rw [search0 (fun i => if p (nth l i) then some (i : Int) else none) l.length (d := (-1)) (fun i hi => ?_) (by simp only [dec_nlt, sel_ff]) rfl]
 ·rw [Option.bind_some, first_idx p l]
 ·simp only [dec_lt hi, sel_tt, idx_nat, nth_of hi, Option.bind_some, hf _ (nth_mem hi), i64_succ (i := i) (by omega)]
  cases p (nth l i) <;> rfl
theorem m162_eq {l : List HullHeel} {f : HullHeel → Option Bool} {p : HullHeel → Bool} (hl : l.length ≤ 1000) (hf : ∀ x ∈ l, f x = some (p x)) : m162 l f = some (l.any p) := by
 unfold m162 m174
 rw [search0 (fun i => if p (nth l i) then some (i : Int) else none) l.length (d := (-1)) (fun i hi => ?_) (by simp only [dec_nlt, sel_ff]) rfl]
 ·rw [Option.bind_some, first_idx p l]
 ·simp only [dec_lt hi, sel_tt, idx_nat, nth_of hi, Option.bind_some, hf _ (nth_mem hi), i64_succ (i := i) (by omega)]
  cases p (nth l i) <;> rfl
end Go.Proofs.YtabamagholjdcaaGreatDoor
namespace Go.Proofs.YtabamagholjdcaaGreatDoor
open Go.Lg Go.Proofs
set_option maxRecDepth 10000
theorem searchM {O : Type} {body : Int → Option (Int ⊕ (Unit ⊕ O))} (e : Nat → Option O) (n : Nat) (h : ∀ i, i < n → body (i : Int) = some (match e i with | some o => .inr (.inr o) | none => .inl ((i + 1 : Nat) : Int))) (hn : body (n : Int) = some (.inr (.inl ()))) :
  loopM body 0 = some (match firstE e 0 n with | some o => .inr o | none => .inl ()) := by
 refine (loop_exit (fun i => (i : Int)) (fun i => (e i).map Sum.inr) n (o := .inl ()) (fun i hi => ?_) hn).trans ?_
 ·rw [h i hi]
  cases e i <;> rfl
 ·rw [firstE_map]
  cases firstE e 0 n <;> rfl
theorem first_const {α O : Type} [Inhabited α] (p : α → Bool) (c : O) (l : List α) (n : Nat) (hn : n ≤ l.length) : firstE (fun k => if p (nth l k) then some c else none) 0 n = if (l.take n).any p then some c else none := by
 cases h : firstE (fun k => if p (nth l k) then some c else none) 0 n with
 | none =>
  rw [firstE_none] at h
  have : (l.take n).any p = false := by
   rw [List.any_eq_false]
   intro x hx
   obtain ⟨i, hi, rfl⟩ := nth_ex hx
   have hi' : i < n := by simp at hi; omega
   rw [nth_take hi']
   have := h i (Nat.zero_le _) (by omega)
   simpa using this
  rw [this]; rfl
 | some o =>
  obtain ⟨j, _, hj, he, _⟩ := firstE_some h
  split at he
  ·rename_i hp
   cases he
   have : (l.take n).any p = true := by
    rw [List.any_eq_true]
    refine ⟨nth l j, ?_, hp⟩
    rw [← nth_take (l := l) (show j < n by omega)]
    exact nth_mem (by simp; omega)
   rw [this]; rfl
  ·cases he
theorem collect {α : Type} {body : List α × Int → Option ((List α × Int) ⊕ List α)} (g : Nat → Option α) (n : Nat) (h : ∀ i acc, i < n → acc.length ≤ i → body (acc, (i : Int)) = some (.inl (acc ++ (g i).toList, ((i + 1 : Nat) : Int)))) (hn : ∀ acc, body (acc, (n : Int)) = some (.inr acc)) :
  loopM body ([], 0) = some ((List.range n).filterMap g) := by
 refine (loop_for (fun i => ((List.range i).filterMap g, (i : Int))) n (fun i hi => ?_) (hn _) : loopM body ([], (0 : Int)) = _)
 have hl : ((List.range i).filterMap g).length ≤ i := by
  have := List.length_filterMap_le g (List.range i)
  simpa using this
 rw [h i _ hi hl, List.range_succ, List.filterMap_append, show List.filterMap g [i] = (g i).toList by cases hg : g i <;> simp [hg]]
structure Small (b : HullBook) : Prop where
 pieces : b.Pieces.length ≤ 20
 out : b.Out.length ≤ 20
 heels : b.Heels.length ≤ 20
 each : ∀ p ∈ b.Pieces, p.Name.size ≤ 100 ∧ p.On.length ≤ 20
def great (b : HullBook) : Bool :=
 decide (20 < b.Pieces.length) || (decide (20 < b.Out.length) || (decide (20 < b.Heels.length) || b.Pieces.any fun p => decide (100 < p.Name.size) || decide (20 < p.On.length)))
theorem dec_gt {n m : Nat} : decide ((n : Int) > (m : Int)) = decide (m < n) := by
 by_cases h : m < n <;> simp [h]
theorem m18_eq (b : HullBook) : m18 b = some (great b) := by
 unfold m18 great
 have e1 : decide ((b.Pieces.length : Int) > 20) = decide (20 < b.Pieces.length) := dec_gt (m := 20)
 have e2 : decide ((b.Out.length : Int) > 20) = decide (20 < b.Out.length) := dec_gt (m := 20)
 have e3 : decide ((b.Heels.length : Int) > 20) = decide (20 < b.Heels.length) := dec_gt (m := 20)
 rw [e1, e2, e3]
 by_cases h1 : 20 < b.Pieces.length
 ·simp [h1]
 by_cases h2 : 20 < b.Out.length
 ·simp [h1, h2]
 by_cases h3 : 20 < b.Heels.length
 ·simp [h1, h2, h3]
 simp only [h1, h2, h3, decide_false, sel_ff, Option.bind_some, Bool.false_or]
 rw [search0 (fun i => if (decide (100 < (nth b.Pieces i).Name.size) || decide (20 < (nth b.Pieces i).On.length)) then some true else none) b.Pieces.length (d := false) (fun i hi => ?_) (by simp only [dec_nlt, sel_ff]) rfl]
 ·rw [first_any (fun p : HullPiece => decide (100 < p.Name.size) || decide (20 < p.On.length)) b.Pieces]
 ·have f1 : decide (((nth b.Pieces i).Name.size : Int) > 100) = decide (100 < (nth b.Pieces i).Name.size) := dec_gt (m := 100)
  have f2 : decide (((nth b.Pieces i).On.length : Int) > 20) = decide (20 < (nth b.Pieces i).On.length) := dec_gt (m := 20)
  simp only [dec_lt hi, sel_tt, idx_nat, nth_of hi, Option.bind_some, f1, f2, i64_succ (i := i) (by omega)]
  cases decide (100 < (nth b.Pieces i).Name.size) <;> cases decide (20 < (nth b.Pieces i).On.length) <;> rfl
theorem great_small {b : HullBook} (h : great b = false) : Small b := by
 simp only [great, Bool.or_eq_false_iff, decide_eq_false_iff_not, List.any_eq_false, Bool.not_eq_true] at h
 obtain ⟨h1, h2, h3, h4⟩ := h
 refine ⟨by omega, by omega, by omega, fun p hp => ?_⟩
 have := h4 p hp
 omega
def isLet (n : Int) : Bool := btw n 97 122
def isDig (n : Int) : Bool := btw n 48 57
theorem strL_len (s : ByteArray) : (strL s).length = s.size := by simp [strL]
theorem strL_byte {s : ByteArray} {i : Nat} (h : i < s.size) : 0 ≤ nth (strL s) i ∧ nth (strL s) i < 256 := by
 have hm : nth (strL s) i ∈ strL s := nth_mem (by rw [strL_len]; exact h)
 unfold strL at hm
 obtain ⟨b, _, hb⟩ := List.mem_map.1 hm
 unfold strL
 rw [← hb]
 have := b.toNat_lt
 omega
def labE (s : ByteArray) (i : Nat) : Option Bool := if isLet (nth (strL s) i) = false then (if i = 0 then some false else if isDig (nth (strL s) i) = false then some false else none) else none
def labelS (s : ByteArray) : Bool := (firstE (labE s) 0 s.size).getD (btw (s.size : Int) 1 12)
theorem m215_eq {s : ByteArray} (hs : s.size ≤ 1000) : m215 s = some (labelS s) := by
 unfold m215 labelS
 have e := strL_len s
 rw [e]
 refine search0 (labE s) s.size (fun i hi => ?_) (by simp only [dec_nlt, sel_ff]) (by rw [m154_eq]; rfl)
 have hi' : i < (strL s).length := by omega
 obtain ⟨h1, h2⟩ := strL_byte hi
 simp only [dec_lt hi, sel_tt, idx_nat, nth_of hi', Option.bind_some, m154_eq, i64_ok (z := nth (strL s) i) (by omega) (by omega), i64_succ (i := i) (by omega)]
 unfold labE isLet isDig
 cases btw (nth (strL s) i) 97 122 with
 | true => rfl
 | false =>
  by_cases h0 : i = 0
  ·subst h0; rfl
  ·have : ((i : Int) == 0) = false := by simpa using h0
   simp only [this, Bool.not_false, sel_tt, sel_ff, h0, if_false, if_true]
   cases btw (nth (strL s) i) 48 57 <;> rfl
theorem m172_eq {n : Int} (h1 : 0 ≤ n) (h2 : n < 256) : m172 n = some (isLet n) := by unfold m172 isLet; rw [i64_ok (by omega) (by omega), m58_eq]; rfl
theorem m173_eq {n : Int} (h1 : 0 ≤ n) (h2 : n < 256) : m173 n = some (isDig n) := by unfold m173 isDig; rw [i64_ok (by omega) (by omega), m58_eq]; rfl
theorem lab_false {s : ByteArray} {k i : Nat} {o : Bool} (h : firstE (labE s) i k = some o) : o = false := by
 obtain ⟨j, _, _, he, _⟩ := firstE_some h
 unfold labE at he
 split at he
 ·split at he
  ·cases he; rfl
  ·split at he
   ·cases he; rfl
   ·cases he
 ·cases he
theorem m161_eq {s : ByteArray} (hs : s.size ≤ 1000) : m161 s = some (labelS s) := by
 unfold m161 labelS
 rw [m58_eq, Option.bind_some]
 cases hb : btw (s.size : Int) 1 12 with
 | false =>
  simp only [Bool.not_false, sel_tt, Option.bind_some]
  congr 1
  cases hf : firstE (labE s) 0 s.size with
  | none => rfl
  | some o => rw [lab_false hf]; rfl
 | true =>
  have h1 : 1 ≤ s.size := by
   simp only [btw, Bool.and_eq_true, decide_eq_true_eq] at hb
   omega
  have hi' : 0 < (strL s).length := by rw [strL_len]; omega
  obtain ⟨g1, g2⟩ := strL_byte (s := s) (i := 0) (by omega)
  have hs0 : strAt s 0 = some (nth (strL s) 0) := by unfold strAt; rw [← nth_of hi']; exact idx_nat _ 0
  simp only [Bool.not_true, sel_ff, hs0, Option.bind_some, m172_eq g1 g2]
  have hu : firstE (labE s) 0 s.size = match labE s 0 with | some o => some o | none => firstE (labE s) 1 (s.size - 1) := by
   obtain ⟨k, hk⟩ : ∃ k, s.size = k + 1 := ⟨s.size - 1, by omega⟩
   rw [hk]
   simp only [firstE, Nat.add_sub_cancel, Nat.zero_add]
   cases labE s 0 <;> rfl
  rw [hu]
  unfold labE
  cases hl : isLet (nth (strL s) 0) with
  | false => rfl
  | true =>
   simp only [Bool.not_true, sel_ff, Bool.true_eq_false, if_false]
   have e2 := search (body := fun (s72 : Int) =>
    sel (decide (s72 < (s.size : Int)))
    ((strAt s s72).bind fun x94 =>
    (m172 x94).bind fun x95 =>
    sel (!x95)
    ((strAt s s72).bind fun x97 =>
    (m173 x97).bind fun x98 =>
    sel (!x98)
    (some (.inr (.inr false)))
    (some (.inl (i64 (s72 + 1)))))
    (some (.inl (i64 (s72 + 1)))))
    (some (.inr (.inl ())))) (labE s) 1 s.size (d := true) (g := fun _ => some true) (fun i hi1 hi => ?_) (by simp only [dec_nlt, sel_ff]) h1 rfl
   ·exact e2
   ·have hi2 : i < (strL s).length := by rw [strL_len]; exact hi
    obtain ⟨k1, k2⟩ := strL_byte hi
    have hsi : strAt s (i : Int) = some (nth (strL s) i) := by unfold strAt; rw [← nth_of hi2]; exact idx_nat _ i
    simp only [dec_lt hi, sel_tt, hsi, Option.bind_some, m172_eq k1 k2, m173_eq k1 k2, i64_succ (i := i) (by omega)]
    have h0 : i ≠ 0 := by omega
    unfold labE
    cases isLet (nth (strL s) i) with
    | true => rfl
    | false =>
     simp only [Bool.not_false, sel_tt, h0, if_false, if_true]
     cases isDig (nth (strL s) i) <;> rfl
def sameName (p q : HullPiece) : Bool := q.Name.toList == p.Name.toList
def pieceE (b : HullBook) (i : Nat) : Option Int :=
 if labelS (nth b.Pieces i).Name = false then some 4
 else if (b.Pieces.take i).any (sameName (nth b.Pieces i)) = true then some 5
 else if (btw (nth b.Pieces i).Arm (-9) 9 && (reachIn (nth b.Pieces i).Weight 1 99 && wideLt (nth b.Pieces i).Weight 3)) = false then some 1
 else if climbsS (nth b.Pieces i).On (i : Int) ≠ 0 then some (climbsS (nth b.Pieces i).On (i : Int)) else none
def piecesH (b : HullBook) : Int := if btw (b.Pieces.length : Int) 1 5 = false then 2 else (firstE (pieceE b) 0 b.Pieces.length).getD 0
theorem m212_eq {b : HullBook} (h : Small b) : m212 b = some (piecesH b) := by
 unfold m212 piecesH
 rw [m154_eq, Option.bind_some]
 cases btw (b.Pieces.length : Int) 1 5 with
 | false => rfl
 | true =>
  simp only [Bool.not_true, sel_ff, Bool.true_eq_false, if_false]
  have hp := h.pieces
  refine search0 (pieceE b) b.Pieces.length (fun i hi => ?_) (by simp only [dec_nlt, sel_ff]) rfl
  obtain ⟨hn, ho⟩ := h.each _ (nth_mem hi)
  simp only [dec_lt hi, sel_tt, idx_nat, nth_of hi, Option.bind_some, m215_eq (show (nth b.Pieces i).Name.size ≤ 1000 by omega), cut_take (show i ≤ b.Pieces.length by omega), m121_eq (x := (nth b.Pieces i).Weight) (a := 1) (c := 99) (w := 3) (by omega) (by omega), m154_eq,
   m216_eq (l := b.Pieces.take i) (f := fun y => m217 y (nth b.Pieces i)) (p := sameName (nth b.Pieces i)) (by simp; omega) (fun x _ => rfl), m132_eq (l := (nth b.Pieces i).On) (below := (i : Int)) (by omega) (by omega) (by omega), i64_succ (i := i) (by omega)]
  unfold pieceE
  cases labelS (nth b.Pieces i).Name with
  | false => rfl
  | true =>
   cases (b.Pieces.take i).any (sameName (nth b.Pieces i)) with
   | true => rfl
   | false =>
    cases btw (nth b.Pieces i).Arm (-9) 9 with
    | false => rfl
    | true =>
     cases (reachIn (nth b.Pieces i).Weight 1 99 && wideLt (nth b.Pieces i).Weight 3) with
     | false => rfl
     | true =>
      by_cases hc : climbsS (nth b.Pieces i).On (i : Int) = 0
      ·simp [hc]
      ·have : (climbsS (nth b.Pieces i).On (i : Int) != 0) = true := by simpa using hc
       simp [hc, this]
theorem m135_eq {b : HullBook} (h : Small b) : m135 b = some (piecesH b) := by
 unfold m135 piecesH
 rw [m58_eq, Option.bind_some]
 cases btw (b.Pieces.length : Int) 1 5 with
 | false => rfl
 | true =>
  simp only [Bool.not_true, sel_ff, Bool.true_eq_false, if_false]
  have hp := h.pieces
  refine search0 (pieceE b) b.Pieces.length (fun i hi => ?_) (by simp only [dec_nlt, sel_ff]) rfl
  obtain ⟨hn, ho⟩ := h.each _ (nth_mem hi)
  simp only [dec_lt hi, sel_tt, idx_nat, nth_of hi, Option.bind_some, m161_eq (show (nth b.Pieces i).Name.size ≤ 1000 by omega)]
  rw [searchM (fun k => if sameName (nth b.Pieces i) (nth b.Pieces k) then some (5 : Int) else none) i (fun k hk => ?_) (by simp only [dec_nlt, sel_ff])]
  ·rw [first_const (sameName (nth b.Pieces i)) (5 : Int) b.Pieces i (by omega)]
   simp only [m124_eq, m58_eq, Option.bind_some, m66_eq (l := (nth b.Pieces i).On) (below := (i : Int)) (by omega) (by omega) (by omega), i64_succ (i := i) (by omega)]
   unfold pieceE
   cases labelS (nth b.Pieces i).Name with
   | false => rfl
   | true =>
    cases (b.Pieces.take i).any (sameName (nth b.Pieces i)) with
    | true => rfl
    | false =>
     cases btw (nth b.Pieces i).Arm (-9) 9 with
     | false => rfl
     | true =>
      cases hr : reachIn (nth b.Pieces i).Weight 1 99 with
      | false => rfl
      | true =>
       have hw : decide (i64 ((nth b.Pieces i).Weight.Most - (nth b.Pieces i).Weight.Least) ≥ 3) = !wideLt (nth b.Pieces i).Weight 3 := by
        rw [wide_i64 (w := 3) (by omega) (by omega) hr]
        unfold wideLt
        by_cases hx : (nth b.Pieces i).Weight.Most - (nth b.Pieces i).Weight.Least < 3
        ·simp [hx]
        ·simp [hx]; omega
       simp only [Bool.not_true, sel_ff, Sum.elim_inl, Option.bind_some, hw, Bool.false_eq_true, if_false, Bool.true_and, Bool.true_eq_false]
       cases wideLt (nth b.Pieces i).Weight 3 with
       | false => rfl
       | true =>
        by_cases hc : climbsS (nth b.Pieces i).On (i : Int) = 0
        ·simp [hc]
        ·have : (climbsS (nth b.Pieces i).On (i : Int) != 0) = true := by simpa using hc
         simp [hc, this]
  ·simp only [dec_lt hk, sel_tt, idx_nat, nth_of (show k < b.Pieces.length by omega), Option.bind_some, i64_succ (i := k) (by omega)]
   rw [show ((nth b.Pieces k).Name.toList == (nth b.Pieces i).Name.toList) = sameName (nth b.Pieces i) (nth b.Pieces k) from rfl]
   cases sameName (nth b.Pieces i) (nth b.Pieces k) <;> rfl
end Go.Proofs.YtabamagholjdcaaGreatDoor
namespace Go.Proofs.YtabamagholjdcaaGreatDoor
open Go.Lg Go.Proofs
set_option maxRecDepth 10000
def gset (out : List Int) : List Bool := (List.range 5).map fun (i : Nat) => out.contains (i : Int)
theorem gset_nil : gset [] = [false, false, false, false, false] := rfl
def In5 (l : List Int) : Prop := ∀ x ∈ l, 0 ≤ x ∧ x < 5
theorem idx_gset (out : List Int) {p : Int} (h0 : 0 ≤ p) (h5 : p < 5) : idx (gset out) p = some (out.contains p) := by
 obtain ⟨k, rfl⟩ : ∃ k : Nat, p = (k : Int) := ⟨p.toNat, by omega⟩
 have hk : k < 5 := by omega
 rw [idx_nat]
 simp [gset, hk]
theorem gset_set (out : List Int) {p : Int} (h0 : 0 ≤ p) (h5 : p < 5) : (gset out).set p.toNat true = gset (out ++ [p]) := by
 obtain ⟨k, rfl⟩ : ∃ k : Nat, p = (k : Int) := ⟨p.toNat, by omega⟩
 have hk : k < 5 := by omega
 apply List.ext_getElem?
 intro i
 rw [Int.toNat_natCast, List.getElem?_set]
 by_cases hi : i < 5
 ·by_cases hik : k = i
  ·subst hik
   simp [gset, hk]
  ·have : ¬ (i : Int) = (k : Int) := by omega
   simp [gset, hi, hik, this]
 ·rw [if_neg (by omega)]
  simp [gset, hi]
theorem m93_eq {l out : List Int} (hl : In5 l) (hn : l.length ≤ 1000) : m93 (gset out) l = some (gset (out ++ l)) := by
 unfold m93
 refine (loop_bind (o := gset (out ++ l)) ?_).trans rfl
 have e0 : ((0 : Int), gset out) = (fun i : Nat => ((i : Int), gset (out ++ l.take i))) 0 := by simp
 rw [e0]
 refine loop_for (fun i : Nat => ((i : Int), gset (out ++ l.take i))) l.length (fun i hi => ?_) ?_
 ·obtain ⟨h0, h5⟩ := hl _ (nth_mem hi)
  simp only [dec_lt hi, sel_tt, idx_nat, nth_of hi, Option.bind_some, idx_gset _ h0 h5, gset_set _ h0 h5, i64_succ (i := i) (by omega)]
  rw [List.append_assoc, List.take_add_one, nth_of hi]
  rfl
 ·simp only [dec_nlt, sel_ff, List.take_length]
theorem m93_nil {l : List Int} (hl : In5 l) (hn : l.length ≤ 1000) : m93 [false, false, false, false, false] l = some (gset l) := by
 have := m93_eq (out := []) hl hn
 rwa [List.nil_append, gset_nil] at this
def restsOn (b : HullBook) (p : Int) (i : Nat) : Bool := (nth b.Pieces i).On.contains p
def canLift (b : HullBook) (out : List Int) (p : Int) : Bool := !out.contains p && (List.range b.Pieces.length).all fun (i : Nat) => out.contains (i : Int) || !restsOn b p i
theorem first_all (p : Nat → Bool) (n : Nat) : (firstE (fun i => if p i = true then some false else none) 0 n).getD true = (List.range n).all fun i => !p i := by
 cases h : firstE (fun i => if p i = true then some false else none) 0 n with
 | none =>
  rw [firstE_none] at h
  symm
  rw [Option.getD_none, List.all_eq_true]
  intro i hi
  have hi' : i < n := by simpa using hi
  have := h i (Nat.zero_le _) (by omega)
  simpa using this
 | some o =>
  obtain ⟨j, _, hj, he, _⟩ := firstE_some h
  split at he
  ·rename_i hp
   cases he
   symm
   rw [Option.getD_some, List.all_eq_false]
   exact ⟨j, by simp; omega, by simp [hp]⟩
  ·cases he
theorem m150_eq {b : HullBook} (h : Small b) {out : List Int} {p : Int} (ho : out.length ≤ 1000) : m150 b out p = some (canLift b out p) := by
 unfold m150 canLift
 have hp := h.pieces
 rw [m47_eq ho, Option.bind_some]
 cases out.contains p with
 | true => rfl
 | false =>
  rw [sel_ff, Bool.not_false, Bool.true_and]
  rw [search0 (fun i => if (!(out.contains (i : Int)) && restsOn b p i) = true then some false else none) b.Pieces.length (d := true) (fun i hi => ?_) (by simp only [dec_nlt, sel_ff]) rfl]
  ·rw [first_all]
   congr 1
   congr 1
   funext i
   cases out.contains (i : Int) <;> simp
  ·obtain ⟨_, hon⟩ := h.each _ (nth_mem hi)
   simp only [dec_lt hi, sel_tt, idx_nat, nth_of hi, Option.bind_some, m47_eq ho, m47_eq (l := (nth b.Pieces i).On) (n := p) (by omega), i64_succ (i := i) (by omega)]
   rw [show (nth b.Pieces i).On.contains p = restsOn b p i from rfl]
   cases out.contains (i : Int) with
   | true => rfl
   | false => cases restsOn b p i <;> rfl
theorem m166_eq {b : HullBook} (h : Small b) (p : Int) : m166 b p = some ((List.range b.Pieces.length).filterMap fun i => if restsOn b p i = true then some (i : Int) else none) := by
 unfold m166
 have hp := h.pieces
 rw [collect (fun i => if restsOn b p i = true then some (i : Int) else none) b.Pieces.length (fun i acc hi hacc => ?_) (fun acc => by simp only [dec_nlt, sel_ff])]
 ·rfl
 ·obtain ⟨_, hon⟩ := h.each _ (nth_mem hi)
  simp only [dec_lt hi, sel_tt, idx_nat, nth_of hi, Option.bind_some, m175_eq (l := (nth b.Pieces i).On) (n := p) (by omega), i64_succ (i := i) (by omega)]
  rw [show (nth b.Pieces i).On.contains p = restsOn b p i from rfl]
  cases restsOn b p i with
  | true => simp [app_ok (xs := acc) (ys := [(i : Int)]) (by simp; omega)]
  | false => simp
theorem m149_eq {b : HullBook} (h : Small b) (h5 : b.Pieces.length ≤ 5) {out : List Int} {p : Int} (hp0 : 0 ≤ p) (hp5 : p < 5) : m149 b (gset out) p = some (canLift b out p) := by
 unfold m149 canLift
 rw [idx_gset out hp0 hp5, Option.bind_some]
 cases out.contains p with
 | true => rfl
 | false =>
  rw [Bool.not_false, sel_tt, m166_eq h, Option.bind_some, m158_eq (p := fun n => !out.contains n) (l := (List.range b.Pieces.length).filterMap fun i => if restsOn b p i = true then some (i : Int) else none) (by
   have := List.length_filterMap_le (fun i => if restsOn b p i = true then some (i : Int) else none) (List.range b.Pieces.length)
   simp at this; omega) (fun x hx => ?_)]
  ·rw [Option.bind_some, Bool.true_and]
   congr 1
   rw [Bool.eq_iff_iff, Bool.not_eq_true', List.any_eq_false, List.all_eq_true]
   constructor
   ·intro hh i hi
    cases hr : restsOn b p i with
    | false => simp
    | true =>
     have := hh (i : Int) (List.mem_filterMap.2 ⟨i, hi, by rw [hr]; rfl⟩)
     simpa using this
   ·intro hh x hx
    obtain ⟨i, hi, hx⟩ := List.mem_filterMap.1 hx
    split at hx
    ·rename_i hr
     cases hx
     have := hh i hi
     rw [hr] at this
     simpa using this
    ·cases hx
  ·obtain ⟨i, hi, hx⟩ := List.mem_filterMap.1 hx
   have hi' : i < b.Pieces.length := by simpa using hi
   split at hx
   ·cases hx
    unfold m167
    rw [idx_gset out (by omega) (by omega)]; rfl
   ·cases hx
def isPieceS (b : HullBook) (p : Int) : Bool := btw p 0 ((b.Pieces.length : Int) - 1)
theorem m120_eq {b : HullBook} (h : Small b) (p : Int) : m120 b p = some (isPieceS b p) := by
 unfold m120 isPieceS
 have := h.pieces
 rw [m154_eq, i64_ok (by omega) (by omega)]; rfl
theorem m123_eq {b : HullBook} (h : Small b) (p : Int) : m123 b p = some (isPieceS b p) := by
 unfold m123 isPieceS
 have := h.pieces
 rw [m58_eq, i64_ok (by omega) (by omega)]; rfl
theorem isPiece_iff {b : HullBook} {p : Int} : isPieceS b p = true ↔ 0 ≤ p ∧ p < (b.Pieces.length : Int) := by
 simp only [isPieceS, btw, Bool.and_eq_true, decide_eq_true_eq]
 omega
def liftE (b : HullBook) (out : List Int) (p : Int) : Option Int :=
 if isPieceS b p = false then some 6 else if out.contains p = true then some 5 else if canLift b out p = false then some 7 else none
def liftH (b : HullBook) : List Int → List Int → Int
 | _, [] => 0
 | out, p :: r => match liftE b out p with | some h => h | none => liftH b (out ++ [p]) r
theorem m126_eq {b : HullBook} (h : Small b) {out l : List Int} (ho : out.length ≤ 100) (hl : l.length ≤ 100) : m126 b out l = some (liftH b out l) := by
 unfold m126
 rw [app_ok (by simp; omega), Option.bind_some, List.nil_append]
 have key : ∀ k, k ≤ l.length → ∀ acc : List Int, acc.length + k ≤ 400 → (loopM (fun (s90 : ((List Int) × Int)) =>
   sel (decide (s90.2 < (l.length : Int)))
   ((idx l s90.2).bind fun x136 =>
   (m123 b x136).bind fun x137 =>
   sel (!x137)
   (some (.inr (.inr 6)))
   ((idx l s90.2).bind fun x141 =>
   (m47 s90.1 x141).bind fun x142 =>
   sel x142
   (some (.inr (.inr 5)))
   ((idx l s90.2).bind fun x146 =>
   (m150 b s90.1 x146).bind fun x147 =>
   sel (!x147)
   (some (.inr (.inr 7)))
   ((idx l s90.2).bind fun x151 =>
   (appM s90.1 [x151]).bind fun x153 =>
   some (.inl (x153, i64 (s90.2 + 1)))))))
   (some (.inr (.inl ())))) (acc, ((l.length - k : Nat) : Int))).bind (Sum.elim (fun (_ : Unit) => some 0) (fun (q : Int) => some q)) = some (liftH b acc (l.drop (l.length - k))) := by
  intro k
  induction k with
  | zero =>
   intro _ acc _
   rw [Nat.sub_zero, List.drop_length, loopM_stop (o := .inl ()) (by simp only [dec_nlt, sel_ff])]
   rfl
  | succ k ih =>
   intro hk acc hacc
   have hi : l.length - (k + 1) < l.length := by omega
   have hd : l.drop (l.length - (k + 1)) = nth l (l.length - (k + 1)) :: l.drop (l.length - k) := by
    rw [List.drop_eq_getElem_cons hi, show l.length - (k + 1) + 1 = l.length - k by omega]
    congr 1
    have := nth_of hi
    rw [List.getElem?_eq_getElem hi] at this
    exact Option.some.inj this
   rw [hd]
   unfold liftH liftE
   have e123 := m123_eq h (nth l (l.length - (k + 1)))
   have e47 := m47_eq (l := acc) (n := nth l (l.length - (k + 1))) (by omega)
   have e150 := m150_eq h (out := acc) (p := nth l (l.length - (k + 1))) (by omega)
   cases h1 : isPieceS b (nth l (l.length - (k + 1))) with
   | false =>
    rw [loopM_stop (o := .inr 6) (by simp only [dec_lt hi, sel_tt, idx_nat, nth_of hi, Option.bind_some, e123, h1, Bool.not_false])]
    rfl
   | true =>
    cases h2 : acc.contains (nth l (l.length - (k + 1))) with
    | true =>
     rw [loopM_stop (o := .inr 5) (by simp only [dec_lt hi, sel_tt, sel_ff, idx_nat, nth_of hi, Option.bind_some, e123, h1, e47, h2, Bool.not_true])]
     rfl
    | false =>
     cases h3 : canLift b acc (nth l (l.length - (k + 1))) with
     | false =>
      rw [loopM_stop (o := .inr 7) (by simp only [dec_lt hi, sel_tt, sel_ff, idx_nat, nth_of hi, Option.bind_some, e123, h1, e47, h2, e150, h3, Bool.not_true, Bool.not_false])]
      rfl
     | true =>
      rw [loopM_next (s' := (acc ++ [nth l (l.length - (k + 1))], ((l.length - k : Nat) : Int))) (by
       simp only [dec_lt hi, sel_tt, sel_ff, idx_nat, nth_of hi, Option.bind_some, e123, h1, e47, h2, e150, h3, Bool.not_true, app_ok (xs := acc) (ys := [nth l (l.length - (k + 1))]) (by simp; omega), i64_succ (i := l.length - (k + 1)) (by omega), show l.length - (k + 1) + 1 = l.length - k by omega])]
      rw [ih (by omega) _ (by simp; omega)]
      rfl
 have := key l.length (Nat.le_refl _) out (by omega)
 rw [Nat.sub_self, List.drop_zero] at this
 exact this
theorem m99_eq {b : HullBook} (h : Small b) (h5 : b.Pieces.length ≤ 5) {l : List Int} (hl : l.length ≤ 100) : ∀ (out : List Int), ∃ g, m99 b (gset out) l = some (g, liftH b out l) ∧ (liftH b out l = 0 → g = gset (out ++ l) ∧ In5 l) := by
 unfold m99
 have key : ∀ k, k ≤ l.length → ∀ acc : List Int, ∃ g, (loopM (fun (s99 : (Int × (List Bool))) =>
   sel (decide (s99.1 < (l.length : Int)))
   ((idx l s99.1).bind fun x151 =>
   (m120 b x151).bind fun x152 =>
   sel (!x152)
   (some (.inr (.inr (s99.2, 6))))
   ((idx s99.2 x151).bind fun x160 =>
   sel x160
   (some (.inr (.inr (s99.2, 5))))
   ((m149 b s99.2 x151).bind fun x166 =>
   sel (!x166)
   (some (.inr (.inr (s99.2, 7))))
   ((m93 s99.2 [x151]).bind fun x171 =>
   some (.inl (i64 (s99.1 + 1), x171))))))
   (some (.inr (.inl s99.2)))) (((l.length - k : Nat) : Int), gset acc)).bind (Sum.elim (fun (p99_0 : (List Bool)) =>
   some (p99_0, 0)) (fun (q : (List Bool) × Int) => some q)) = some (g, liftH b acc (l.drop (l.length - k))) ∧ (liftH b acc (l.drop (l.length - k)) = 0 → g = gset (acc ++ l.drop (l.length - k)) ∧ In5 (l.drop (l.length - k))) := by
  intro k
  induction k with
  | zero =>
   intro _ acc
   refine ⟨gset acc, ?_, fun _ => ?_⟩
   ·rw [Nat.sub_zero, List.drop_length, loopM_stop (o := .inl (gset acc)) (by simp only [dec_nlt, sel_ff])]
    rfl
   ·rw [Nat.sub_zero, List.drop_length, List.append_nil]
    exact ⟨rfl, fun x hx => by cases hx⟩
  | succ k ih =>
   intro hk acc
   have hi : l.length - (k + 1) < l.length := by omega
   have hd : l.drop (l.length - (k + 1)) = nth l (l.length - (k + 1)) :: l.drop (l.length - k) := by
    rw [List.drop_eq_getElem_cons hi, show l.length - (k + 1) + 1 = l.length - k by omega]
    congr 1
    have := nth_of hi
    rw [List.getElem?_eq_getElem hi] at this
    exact Option.some.inj this
   rw [hd]
   unfold liftH liftE
   have e120 := m120_eq h (nth l (l.length - (k + 1)))
   cases h1 : isPieceS b (nth l (l.length - (k + 1))) with
   | false =>
    rw [loopM_stop (o := .inr (gset acc, 6)) (by simp only [dec_lt hi, sel_tt, idx_nat, nth_of hi, Option.bind_some, e120, h1, Bool.not_false])]
    exact ⟨_, rfl, fun e => by cases e⟩
   | true =>
    obtain ⟨g0, g1⟩ := isPiece_iff.1 h1
    have g5 : nth l (l.length - (k + 1)) < 5 := by omega
    have eidx := idx_gset acc g0 g5
    have e149 := m149_eq h h5 (out := acc) g0 g5
    cases h2 : acc.contains (nth l (l.length - (k + 1))) with
    | true =>
     rw [loopM_stop (o := .inr (gset acc, 5)) (by simp only [dec_lt hi, sel_tt, sel_ff, idx_nat, nth_of hi, Option.bind_some, e120, h1, eidx, h2, Bool.not_true])]
     exact ⟨_, rfl, fun e => by cases e⟩
    | false =>
     cases h3 : canLift b acc (nth l (l.length - (k + 1))) with
     | false =>
      rw [loopM_stop (o := .inr (gset acc, 7)) (by simp only [dec_lt hi, sel_tt, sel_ff, idx_nat, nth_of hi, Option.bind_some, e120, h1, eidx, h2, e149, h3, Bool.not_true, Bool.not_false])]
      exact ⟨_, rfl, fun e => by cases e⟩
     | true =>
      have e93 := m93_eq (out := acc) (l := [nth l (l.length - (k + 1))]) (fun x hx => by simp at hx; subst hx; exact ⟨g0, g5⟩) (by simp)
      rw [loopM_next (s' := (((l.length - k : Nat) : Int), gset (acc ++ [nth l (l.length - (k + 1))]))) (by
       simp only [dec_lt hi, sel_tt, sel_ff, idx_nat, nth_of hi, Option.bind_some, e120, h1, eidx, h2, e149, h3, e93, Bool.not_true, i64_succ (i := l.length - (k + 1)) (by omega), show l.length - (k + 1) + 1 = l.length - k by omega])]
      obtain ⟨g, hg1, hg2⟩ := ih (by omega) (acc ++ [nth l (l.length - (k + 1))])
      refine ⟨g, hg1, fun e => ?_⟩
      obtain ⟨k1, k2⟩ := hg2 e
      refine ⟨by rw [k1, List.append_assoc]; rfl, fun x hx => ?_⟩
      rcases List.mem_cons.1 hx with rfl | hx
      ·exact ⟨g0, g5⟩
      ·exact k2 x hx
 intro out
 have := key l.length (Nat.le_refl _) out
 rw [Nat.sub_self, List.drop_zero] at this
 exact this
def heelE (b : HullBook) (i : Nat) : Option Int := if btw (nth b.Heels i).After 0 (b.Out.length : Int) = false then some 6 else if btw (nth b.Heels i).Side 0 2 = false then some 1 else none
def heelsH (b : HullBook) : Int := if 4 < b.Heels.length then 2 else (firstE (heelE b) 0 b.Heels.length).getD 0
theorem m214_eq {b : HullBook} (h : Small b) : m214 b = some (heelsH b) := by
 unfold m214 heelsH
 have e3 : decide ((b.Heels.length : Int) > 4) = decide (4 < b.Heels.length) := dec_gt (m := 4)
 have hh := h.heels
 rw [e3]
 by_cases h4 : 4 < b.Heels.length
 ·simp [h4]
 simp only [h4, decide_false, sel_ff, if_false]
 refine search0 (heelE b) b.Heels.length (fun i hi => ?_) (by simp only [dec_nlt, sel_ff]) rfl
 simp only [dec_lt hi, sel_tt, idx_nat, nth_of hi, Option.bind_some, m154_eq, i64_succ (i := i) (by omega)]
 unfold heelE
 cases btw (nth b.Heels i).After 0 (b.Out.length : Int) with
 | false => rfl
 | true =>
  simp only [Bool.not_true, sel_ff, Bool.true_eq_false, if_false]
  generalize (nth b.Heels i).Side = s
  by_cases h0 : s = 0
  ·subst h0; rfl
  by_cases h1 : s = 1
  ·subst h1; rfl
  by_cases h2 : s = 2
  ·subst h2; rfl
  have : btw s 0 2 = false := by
   cases hb : btw s 0 2 with
   | false => rfl
   | true =>
    simp only [btw, Bool.and_eq_true, decide_eq_true_eq] at hb
    omega
  have e0 : (s == 0) = false := by simpa using h0
  have e1 : (s == 1) = false := by simpa using h1
  have e2 : (s == 2) = false := by simpa using h2
  rw [e0, e1, e2, this]
  rfl
def outH (b : HullBook) : Int := liftH b [] b.Out
def hullOk (b : HullBook) : Bool := btw b.Limit 0 9999 && (reachIn b.Ballast (-999) 999 && wideLt b.Ballast 3)
def chk (b : HullBook) : Int := if hullOk b = false then 1 else if piecesH b ≠ 0 then piecesH b else if outH b ≠ 0 then outH b else heelsH b
theorem m211_eq (b : HullBook) : m211 b = some (if hullOk b = false then 1 else 0) := by
 unfold m211 hullOk
 rw [m154_eq, Option.bind_some, m121_eq (by omega) (by omega)]
 cases btw b.Limit 0 9999 with
 | false => rfl
 | true => cases reachIn b.Ballast (-999) 999 && wideLt b.Ballast 3 <;> rfl
theorem pieces5 {b : HullBook} (h : piecesH b = 0) : 1 ≤ b.Pieces.length ∧ b.Pieces.length ≤ 5 := by
 unfold piecesH at h
 split at h
 ·cases h
 ·rename_i hb
  simp only [btw, Bool.and_eq_false_iff, decide_eq_false_iff_not, not_or, Decidable.not_not] at hb
  omega
theorem ne_bne {a : Int} (h : a ≠ 0) : (a != 0) = true := by simpa using h
theorem m213_eq {b : HullBook} (h : Small b) (h5 : b.Pieces.length ≤ 5) : m213 b = some (outH b) := by
 unfold m213
 have := h.out
 obtain ⟨g, hg, _⟩ := m99_eq h h5 (l := b.Out) (by omega) []
 rw [gset_nil] at hg
 rw [hg]; rfl
theorem m83_eq {b : HullBook} (h : Small b) : m83 b = some (chk b) := by
 unfold m83 chk
 rw [show (⟨b.Limit, ⟨b.Ballast.Least, b.Ballast.Most⟩, b.Pieces, b.Out, b.Heels⟩ : HullBook) = b from rfl, m211_eq, Option.bind_some]
 cases hullOk b with
 | false => rfl
 | true =>
  rw [if_neg (by decide), m212_eq h]
  by_cases hp : piecesH b = 0
  ·obtain ⟨_, h5⟩ := pieces5 hp
   rw [m213_eq h h5, m214_eq h]
   by_cases ho : outH b = 0
   ·by_cases hh : heelsH b = 0
    ·simp [hp, ho, hh]
    ·simp [hp, ho, ne_bne hh]
   ·simp [hp, ho, ne_bne ho]
  ·simp [hp, ne_bne hp]
theorem m61_eq {b : HullBook} (h : Small b) : m61 b = some (chk b) := by
 unfold m61 chk hullOk
 rw [m58_eq, Option.bind_some, m124_eq, m135_eq h, m126_eq h (by simp) (by have := h.out; omega)]
 cases btw b.Limit 0 9999 with
 | false => rfl
 | true =>
  cases hr : reachIn b.Ballast (-999) 999 with
  | false => rfl
  | true =>
   have hw : decide (i64 (b.Ballast.Most - b.Ballast.Least) ≥ 3) = !wideLt b.Ballast 3 := by
    rw [wide_i64 (w := 3) (by omega) (by omega) hr]
    unfold wideLt
    by_cases hx : b.Ballast.Most - b.Ballast.Least < 3
    ·simp [hx]
    ·simp [hx]; omega
   simp only [Bool.not_true, sel_ff, Option.bind_some, hw, Bool.true_and]
   cases wideLt b.Ballast 3 with
   | false => rfl
   | true =>
    simp only [Bool.not_true, sel_ff, Bool.true_eq_false, if_false]
    by_cases hp : piecesH b = 0
    ·by_cases ho : outH b = 0
     ·have ho' : liftH b [] b.Out = 0 := ho
      have e3 : decide ((b.Heels.length : Int) > 4) = decide (4 < b.Heels.length) := dec_gt (m := 4)
      have hh := h.heels
      simp only [hp, ho, ho', bne_self_eq_false, sel_ff, ne_eq, not_true_eq_false, if_false, e3]
      unfold heelsH
      by_cases h4 : 4 < b.Heels.length
      ·simp [h4]
      simp only [h4, decide_false, sel_ff, if_false]
      refine search0 (heelE b) b.Heels.length (fun i hi => ?_) (by simp only [dec_nlt, sel_ff]) rfl
      simp only [dec_lt hi, sel_tt, idx_nat, nth_of hi, Option.bind_some, m58_eq, i64_succ (i := i) (by omega)]
      unfold heelE
      cases btw (nth b.Heels i).After 0 (b.Out.length : Int) with
      | false => rfl
      | true => cases btw (nth b.Heels i).Side 0 2 <;> rfl
     ·have ho' : liftH b [] b.Out ≠ 0 := ho
      simp only [hp, bne_self_eq_false, sel_ff, ne_eq, not_true_eq_false, if_false, ne_bne ho', sel_tt]
      rw [if_pos ho]
      rfl
    ·simp [hp, ne_bne hp]
end Go.Proofs.YtabamagholjdcaaGreatDoor
namespace Go.Proofs.YtabamagholjdcaaGreatDoor
open Go.Lg Go.Proofs
set_option maxRecDepth 10000
structure OkPiece (b : HullBook) (i : Nat) : Prop where
 arm : -9 ≤ (nth b.Pieces i).Arm ∧ (nth b.Pieces i).Arm ≤ 9
 weight : 1 ≤ (nth b.Pieces i).Weight.Least ∧ (nth b.Pieces i).Weight.Least ≤ (nth b.Pieces i).Weight.Most ∧ (nth b.Pieces i).Weight.Most ≤ 99 ∧ (nth b.Pieces i).Weight.Most - (nth b.Pieces i).Weight.Least < 3
 on : climbsS (nth b.Pieces i).On (i : Int) = 0
structure Valid (b : HullBook) : Prop where
 small : Small b
 limit : 0 ≤ b.Limit ∧ b.Limit ≤ 9999
 ballast : -999 ≤ b.Ballast.Least ∧ b.Ballast.Least ≤ b.Ballast.Most ∧ b.Ballast.Most ≤ 999 ∧ b.Ballast.Most - b.Ballast.Least < 3
 n1 : 1 ≤ b.Pieces.length
 n5 : b.Pieces.length ≤ 5
 each : ∀ i, i < b.Pieces.length → OkPiece b i
 out : liftH b [] b.Out = 0
 heels : b.Heels.length ≤ 4
 heel : ∀ x ∈ b.Heels, 0 ≤ x.After ∧ x.After ≤ (b.Out.length : Int) ∧ 0 ≤ x.Side ∧ x.Side ≤ 2
theorem btw_iff {n a c : Int} : btw n a c = true ↔ a ≤ n ∧ n ≤ c := by simp [btw]
theorem reach_iff {x : Reach} {a c : Int} : reachIn x a c = true ↔ a ≤ x.Least ∧ x.Least ≤ x.Most ∧ x.Most ≤ c := by simp [reachIn]
theorem wide_iff {x : Reach} {w : Int} : wideLt x w = true ↔ x.Most - x.Least < w := by simp [wideLt]
theorem getD_zero {e : Nat → Option Int} {n : Nat} (hne : ∀ i, e i ≠ some 0) (h : (firstE e 0 n).getD 0 = 0) : ∀ i, i < n → e i = none := by
 cases hf : firstE e 0 n with
 | none => rw [firstE_none] at hf; exact fun i hi => hf i (Nat.zero_le _) (by omega)
 | some o =>
  rw [hf] at h
  obtain ⟨j, _, _, he, _⟩ := firstE_some hf
  have : o = 0 := h
  subst this
  exact absurd he (hne j)
theorem pieceE_ne {b : HullBook} (i : Nat) : pieceE b i ≠ some 0 := by
 unfold pieceE
 split
 ·intro e; cases e
 ·split
  ·intro e; cases e
  ·split
   ·intro e; cases e
   ·split
    ·rename_i h; intro e; injection e with e; exact h e
    ·intro e; cases e
theorem heelE_ne {b : HullBook} (i : Nat) : heelE b i ≠ some 0 := by
 unfold heelE
 split
 ·intro e; cases e
 ·split
  ·intro e; cases e
  ·intro e; cases e
theorem valid_of {b : HullBook} (hs : Small b) (h : chk b = 0) : Valid b := by
 unfold chk at h
 split at h
 ·cases h
 rename_i h1
 have h1 : hullOk b = true := by simpa using h1
 split at h
 ·rename_i h2; exact absurd h h2
 rename_i h2
 have h2 : piecesH b = 0 := by simpa using h2
 split at h
 ·rename_i h3; exact absurd h h3
 rename_i h3
 have h3 : outH b = 0 := by simpa using h3
 unfold hullOk at h1
 simp only [Bool.and_eq_true, btw_iff, reach_iff, wide_iff] at h1
 obtain ⟨g1, g2, g3⟩ := h1
 obtain ⟨n1, n5⟩ := pieces5 h2
 have hp : ∀ i, i < b.Pieces.length → pieceE b i = none := by
  unfold piecesH at h2
  split at h2
  ·cases h2
  ·exact getD_zero pieceE_ne h2
 unfold heelsH at h
 split at h
 ·cases h
 rename_i h4
 have hh := getD_zero heelE_ne h
 refine ⟨hs, g1, ⟨g2.1, g2.2.1, g2.2.2, g3⟩, n1, n5, fun i hi => ?_, h3, by omega, fun x hx => ?_⟩
 ·have := hp i hi
  unfold pieceE at this
  split at this
  ·cases this
  split at this
  ·cases this
  split at this
  ·cases this
  rename_i hb
  have hb : (btw (nth b.Pieces i).Arm (-9) 9 && (reachIn (nth b.Pieces i).Weight 1 99 && wideLt (nth b.Pieces i).Weight 3)) = true := by simpa using hb
  simp only [Bool.and_eq_true, btw_iff, reach_iff, wide_iff] at hb
  split at this
  ·cases this
  rename_i hc
  exact ⟨hb.1, ⟨hb.2.1.1, hb.2.1.2.1, hb.2.1.2.2, hb.2.2⟩, by simpa using hc⟩
 ·obtain ⟨i, hi, rfl⟩ := nth_ex hx
  have := hh i hi
  unfold heelE at this
  split at this
  ·cases this
  rename_i k1
  split at this
  ·cases this
  rename_i k2
  have k1 : btw (nth b.Heels i).After 0 (b.Out.length : Int) = true := by simpa using k1
  have k2 : btw (nth b.Heels i).Side 0 2 = true := by simpa using k2
  rw [btw_iff] at k1 k2
  exact ⟨k1.1, k1.2, k2.1, k2.2⟩
theorem liftH_cons {b : HullBook} {out : List Int} {p : Int} {r : List Int} : liftH b out (p :: r) = 0 ↔ isPieceS b p = true ∧ out.contains p = false ∧ canLift b out p = true ∧ liftH b (out ++ [p]) r = 0 := by
 conv => lhs; unfold liftH liftE
 cases isPieceS b p <;> cases out.contains p <;> cases canLift b out p <;> simp
theorem lift_in {b : HullBook} : ∀ {l out : List Int}, liftH b out l = 0 → ∀ x ∈ l, isPieceS b x = true
 | [], _, _, x, hx => by cases hx
 | p :: r, out, h, x, hx => by
  obtain ⟨h1, _, _, h4⟩ := liftH_cons.1 h
  rcases List.mem_cons.1 hx with rfl | hx
  ·exact h1
  ·exact lift_in h4 x hx
theorem in5_of {b : HullBook} (h5 : b.Pieces.length ≤ 5) {l : List Int} (h : ∀ x ∈ l, isPieceS b x = true) : In5 l := fun x hx => by
 have := isPiece_iff.1 (h x hx)
 omega
theorem Valid.in5 {b : HullBook} (h : Valid b) : In5 b.Out := in5_of h.n5 (lift_in h.out)
def momS (b : HullBook) (bal : Int) (ws out : List Int) : Nat → Int
 | 0 => bal
 | i + 1 => if out.contains (i : Int) then momS b bal ws out i else momS b bal ws out i + (nth b.Pieces i).Arm * nth ws i
def moment (b : HullBook) (bal : Int) (ws out : List Int) : Int := momS b bal ws out b.Pieces.length
structure Fitting (b : HullBook) (bal : Int) (ws : List Int) : Prop where
 bal : -999 ≤ bal ∧ bal ≤ 999
 len : b.Pieces.length ≤ ws.length
 each : ∀ i, i < b.Pieces.length → 0 ≤ nth ws i ∧ nth ws i ≤ 99
theorem mul_bound {a w : Int} (h1 : -9 ≤ a) (h2 : a ≤ 9) (h3 : 0 ≤ w) (h4 : w ≤ 99) : -891 ≤ a * w ∧ a * w ≤ 891 := by
 constructor
 ·have : -9 * w ≤ a * w := Int.mul_le_mul_of_nonneg_right h1 h3
  omega
 ·have : a * w ≤ 9 * w := Int.mul_le_mul_of_nonneg_right h2 h3
  omega
theorem momS_bound {b : HullBook} (hv : Valid b) {bal : Int} {ws out : List Int} (hf : Fitting b bal ws) : ∀ i, i ≤ b.Pieces.length → -(999 + 891 * (i : Int)) ≤ momS b bal ws out i ∧ momS b bal ws out i ≤ 999 + 891 * (i : Int)
 | 0, _ => by have := hf.bal; simp only [momS]; omega
 | i + 1, hi => by
  have ih := momS_bound hv hf (out := out) i (by omega)
  have hp := (hv.each i (by omega)).arm
  have hw := hf.each i (by omega)
  have hm := mul_bound hp.1 hp.2 hw.1 hw.2
  unfold momS
  split
  ·push_cast; omega
  ·push_cast; omega
theorem moment_bound {b : HullBook} (hv : Valid b) {bal : Int} {ws out : List Int} (hf : Fitting b bal ws) : -6000 ≤ moment b bal ws out ∧ moment b bal ws out ≤ 6000 := by
 have := momS_bound hv hf (out := out) _ (Nat.le_refl _)
 have := hv.n5
 unfold moment
 omega
theorem m104_eq {b : HullBook} (hv : Valid b) {bal : Int} {ws out : List Int} (hf : Fitting b bal ws) : m104 b ⟨bal, ws⟩ (gset out) = some (moment b bal ws out) := by
 unfold m104
 have h5 := hv.n5
 refine (loop_bind (o := moment b bal ws out) (loop_for (fun i => (momS b bal ws out i, (i : Int))) b.Pieces.length (fun i hi => ?_) ?_ : loopM _ (bal, (0 : Int)) = _)).trans rfl
 ·have hp := (hv.each i hi).arm
  have hw := hf.each i hi
  have hm := mul_bound hp.1 hp.2 hw.1 hw.2
  have hb := momS_bound hv hf (out := out) i (by omega)
  have hl := hf.len
  simp only [dec_lt hi, sel_tt, idx_nat, nth_of hi, nth_of (show i < ws.length by omega), Option.bind_some, idx_gset out (p := (i : Int)) (by omega) (by omega), i64_succ (i := i) (by omega), i64_ok (z := (nth b.Pieces i).Arm * nth ws i) (by omega) (by omega), i64_ok (z := momS b bal ws out i + (nth b.Pieces i).Arm * nth ws i) (by omega) (by omega)]
  conv => rhs; unfold momS
  cases out.contains (i : Int) <;> rfl
 ·simp only [dec_nlt, sel_ff]; rfl
theorem momS_congr {b : HullBook} {bal : Int} {ws ws' out out' : List Int} : ∀ n, (∀ i, i < n → nth ws i = nth ws' i) → (∀ i : Nat, i < n → out.contains (i : Int) = out'.contains (i : Int)) → momS b bal ws out n = momS b bal ws' out' n
 | 0, _, _ => rfl
 | n + 1, h1, h2 => by
  unfold momS
  rw [h1 n (by omega), h2 n (by omega), momS_congr n (fun i hi => h1 i (by omega)) (fun i hi => h2 i (by omega))]
def rollS (b : HullBook) (m : Int) : Bool := decide (m > b.Limit) || decide (m < -b.Limit)
def sideS (m : Int) : Int := if m > 0 then 2 else if m < 0 then 1 else 0
theorem maxI_abs {m : Int} (h1 : -1000000 ≤ m) (h2 : m ≤ 1000000) : maxI m [i64 (0 - m)] = if -m > m then -m else m := by
 rw [i64_ok (by omega) (by omega), show (0 - m) = -m by omega]
 rfl
theorem m103_eq {b : HullBook} {m : Int} (h1 : -1000000 ≤ m) (h2 : m ≤ 1000000) : m103 b m = some (rollS b m) := by
 unfold m103 rollS
 rw [maxI_abs h1 h2]
 congr 1
 by_cases h : -m > m
 ·rw [if_pos h]
  by_cases h3 : -m > b.Limit
  ·simp [h3, show m < -b.Limit by omega]
  ·simp [h3, show ¬ m < -b.Limit by omega, show ¬ m > b.Limit by omega]
 ·rw [if_neg h]
  by_cases h3 : m > b.Limit
  ·simp [h3]
  ·simp [h3, show ¬ m < -b.Limit by omega]
theorem m164_eq (m : Int) : m164 m = some (sideS m) := by
 unfold m164 sideS
 by_cases h1 : m > 0
 ·simp [h1]
 ·by_cases h2 : m < 0 <;> simp [h1, h2]
def mo (b : HullBook) (bal : Int) (ws : List Int) (n : Nat) : Int := moment b bal ws (b.Out.take n)
def seenS (b : HullBook) (bal : Int) (ws : List Int) : Bool := ((List.range (b.Out.length + 1)).all fun n => !rollS b (mo b bal ws n)) && b.Heels.all fun x => sideS (mo b bal ws x.After.toNat) == x.Side
theorem in5_take {l : List Int} (h : In5 l) (n : Nat) : In5 (l.take n) := fun x hx => h x (List.mem_of_mem_take hx)
theorem m143_eq {b : HullBook} (hv : Valid b) {bal : Int} {ws : List Int} (hf : Fitting b bal ws) : m143 b ⟨bal, ws⟩ = some (seenS b bal ws) := by
 unfold m143
 have ho := hv.small.out
 have hhl := hv.heels
 rw [i64_succ (i := b.Out.length) (by omega)]
 rw [search0 (fun n => if (rollS b (mo b bal ws n) || b.Heels.any fun x => x.After == (n : Int) && x.Side != sideS (mo b bal ws n)) = true then some false else none) (b.Out.length + 1) (d := true) (fun n hn => ?_) (by simp only [dec_nlt, sel_ff]) rfl]
 ·rw [first_all]
  congr 1
  unfold seenS
  rw [Bool.eq_iff_iff]
  simp only [List.all_eq_true, List.mem_range, Bool.and_eq_true, Bool.not_eq_true', Bool.or_eq_false_iff, List.any_eq_false]
  constructor
  ·intro h
   refine ⟨fun n hn => (h n hn).1, fun x hx => ?_⟩
   obtain ⟨k1, k2, _⟩ := hv.heel x hx
   have := (h x.After.toNat (by omega)).2 x hx
   have e : ((x.After.toNat : Nat) : Int) = x.After := Int.toNat_of_nonneg k1
   rw [e] at this
   rw [beq_iff_eq]
   exact Classical.byContradiction fun hne => this ⟨by simp, by simpa using fun hx => hne hx.symm⟩
  ·rintro ⟨h1, h2⟩ n hn
   refine ⟨h1 n hn, fun x hx => ?_⟩
   have := h2 x hx
   by_cases hxn : x.After = (n : Int)
   ·rw [hxn, Int.toNat_natCast, beq_iff_eq] at this
    simp only [hxn, this, bne_self_eq_false, Bool.false_eq_true, and_false, not_false_eq_true]
   ·simp [hxn]
 ·have hb := moment_bound hv hf (out := b.Out.take n)
  simp only [dec_lt hn, sel_tt, cut_take (show n ≤ b.Out.length by omega), Option.bind_some, m93_nil (in5_take hv.in5 n) (by simp; omega), m104_eq hv hf, m103_eq (b := b) (m := moment b bal ws (b.Out.take n)) (by omega) (by omega), i64_succ (i := n) (by omega),
   m162_eq (l := b.Heels) (f := fun y => m163 y (n : Int) (moment b bal ws (b.Out.take n))) (p := fun x => x.After == (n : Int) && x.Side != sideS (mo b bal ws n)) (by omega) (fun x _ => by
    unfold m163 mo
    rw [m164_eq]
    cases x.After == (n : Int) <;> rfl)]
  rw [show rollS b (moment b bal ws (b.Out.take n)) = rollS b (mo b bal ws n) from rfl]
  cases rollS b (mo b bal ws n) with
  | true => rfl
  | false =>
   cases b.Heels.any fun x => x.After == (n : Int) && x.Side != sideS (mo b bal ws n) <;> rfl
theorem len_ne {n m : Nat} : ((n : Int) != (m : Int)) = decide (n ≠ m) := by
 by_cases h : n = m
 ·subst h; simp
 ·have : ¬ (n : Int) = (m : Int) := by omega
  simp [h, this]
theorem nth_copy {ws : List Int} {i : Nat} (h : i < ws.length) (h5 : ws.length ≤ 5) : nth (copyL [0, 0, 0, 0, 0] ws) i = nth ws i := by
 unfold copyL nth
 rw [List.getD_eq_getElem?_getD, List.getD_eq_getElem?_getD, List.getElem?_append_left (by simp; omega), List.getElem?_take_of_lt (by simp; omega)]
theorem copy_len {ws : List Int} (h5 : ws.length ≤ 5) : (copyL [0, 0, 0, 0, 0] ws).length = 5 := by
 unfold copyL
 simp only [List.length_append, List.length_take, List.length_drop, List.length_cons, List.length_nil]
 omega
theorem copy_fit {b : HullBook} (hv : Valid b) {bal : Int} {ws : List Int} (hl : ws.length = b.Pieces.length) (hf : Fitting b bal ws) : Fitting b bal (copyL [0, 0, 0, 0, 0] ws) := by
 have := hv.n5
 refine ⟨hf.bal, by rw [copy_len (by omega)]; omega, fun i hi => ?_⟩
 rw [nth_copy (by omega) (by omega)]
 exact hf.each i hi
theorem moment_copy {b : HullBook} (hv : Valid b) {bal : Int} {ws out : List Int} (hl : ws.length = b.Pieces.length) : moment b bal (copyL [0, 0, 0, 0, 0] ws) out = moment b bal ws out := by
 have := hv.n5
 exact momS_congr _ (fun i hi => nth_copy (by omega) (by omega)) (fun _ _ => rfl)
theorem seen_copy {b : HullBook} (hv : Valid b) {bal : Int} {ws : List Int} (hl : ws.length = b.Pieces.length) : seenS b bal (copyL [0, 0, 0, 0, 0] ws) = seenS b bal ws := by
 unfold seenS mo
 simp only [moment_copy hv hl]
theorem climbs_in {l : List Int} {below : Int} (h : climbsS l below = 0) : ∀ x ∈ l, 0 ≤ x ∧ x < below := by
 intro x hx
 obtain ⟨i, hi, rfl⟩ := nth_ex hx
 have := getD_zero (e := climbE l below) (fun i => by
  unfold climbE
  split
  ·intro e; cases e
  ·split
   ·split
    ·intro e; cases e
    ·intro e; cases e
   ·intro e; cases e) h i hi
 unfold climbE at this
 split at this
 ·cases this
 ·rename_i hb
  have hb : btw (nth l i) 0 (below - 1) = true := by simpa using hb
  rw [btw_iff] at hb
  omega
end Go.Proofs.YtabamagholjdcaaGreatDoor
namespace Go.Proofs.YtabamagholjdcaaGreatDoor
open Go.Lg Go.Proofs
set_option maxRecDepth 10000
theorem m55_refl {l : List Int} (hl : l.length ≤ 1000000) : m55 l l = some false := by
 unfold m55
 refine (search0 (fun _ => none) l.length (d := false) (fun i hi => ?_) (by simp only [dec_nlt, sel_ff]) rfl).trans ?_
 ·have h1 : decide ((i : Int) ≥ (l.length : Int)) = false := by simpa using hi
  simp only [dec_lt hi, sel_tt, h1, sel_ff, idx_nat, nth_of hi, Option.bind_some, i64_succ (i := i) (by omega)]
  have h2 : decide (nth l i < nth l i) = false := by simp
  rw [h2]; rfl
 ·rw [firstE_none.2 (fun _ _ _ => rfl)]; rfl
theorem m22_refl {l : List Int} (hl : l.length ≤ 1000000) : m22 l l = some true := by
 unfold m22
 rw [m55_refl hl]
 rfl
def freesS (b : HullBook) (out : List Int) : List Int := (List.range b.Pieces.length).filterMap fun (i : Nat) => if canLift b out (i : Int) = true then some (i : Int) else none
theorem frees_len (b : HullBook) (out : List Int) : (freesS b out).length ≤ b.Pieces.length := by
 have := List.length_filterMap_le (fun i : Nat => if canLift b out (i : Int) = true then some (i : Int) else none) (List.range b.Pieces.length)
 simpa [freesS] using this
theorem m92_eq {b : HullBook} (hv : Valid b) (out : List Int) : m92 b (gset out) = some (freesS b out) := by
 unfold m92
 have h5 := hv.n5
 rw [collect (fun i : Nat => if canLift b out (i : Int) = true then some (i : Int) else none) b.Pieces.length (fun i acc hi hacc => ?_) (fun acc => by simp only [dec_nlt, sel_ff])]
 ·rfl
 ·simp only [dec_lt hi, sel_tt, Option.bind_some, m149_eq hv.small h5 (out := out) (p := (i : Int)) (by omega) (by omega), i64_succ (i := i) (by omega)]
  cases canLift b out (i : Int) with
  | true => simp [app_ok (xs := acc) (ys := [(i : Int)]) (by simp; omega)]
  | false => simp
theorem m96_eq {b : HullBook} (hs : Small b) {out : List Int} (ho : out.length ≤ 1000) : m96 b out = some (freesS b out) := by
 unfold m96
 have hp := hs.pieces
 rw [collect (fun i : Nat => if canLift b out (i : Int) = true then some (i : Int) else none) b.Pieces.length (fun i acc hi hacc => ?_) (fun acc => by simp only [dec_nlt, sel_ff])]
 ·rfl
 ·simp only [dec_lt hi, sel_tt, Option.bind_some, m150_eq hs (p := (i : Int)) ho, i64_succ (i := i) (by omega)]
  cases canLift b out (i : Int) with
  | true => simp [app_ok (xs := acc) (ys := [(i : Int)]) (by simp; omega)]
  | false => simp
def freeS (b : HullBook) : List Int × Int := if chk b ≠ 0 then ([], chk b) else (freesS b b.Out, 0)
theorem m53_eq {b : HullBook} (hs : Small b) : m53 b = some (freeS b) := by
 unfold m53 freeS
 rw [m83_eq hs, Option.bind_some]
 by_cases h1 : chk b = 0
 ·have hv := valid_of hs h1
  have ho := hs.out
  simp only [h1, bne_self_eq_false, sel_ff, ne_eq, not_true_eq_false, if_false, m93_nil hv.in5 (by omega), Option.bind_some]
  rw [show (⟨b.Limit, ⟨b.Ballast.Least, b.Ballast.Most⟩, b.Pieces, b.Out, b.Heels⟩ : HullBook) = b from rfl, m92_eq hv]
  rfl
 ·simp only [h1, ne_eq, not_false_eq_true, if_true, ne_bne h1, sel_tt]
end Go.Proofs.YtabamagholjdcaaGreatDoor
namespace Go.Proofs.YtabamagholjdcaaGreatDoor
open Go.Lg Go.Proofs
set_option maxRecDepth 10000
set_option maxRecDepth 1000000 in
theorem m42_eq (b : HullBook) : m42 b = some (!great b && (chk b == 0)) := by
 unfold m42
 rw [m18_eq, Option.bind_some]
 cases hg : great b with
 | true => rfl
 | false => rw [m61_eq (great_small hg)]; rfl
def pickS (l : List Int) (k : Nat) : Int := if k < l.length then nth l k else 0
def Kind16 (l : List Int) : Prop := ∀ x ∈ l, 0 ≤ x ∧ x ≤ 65535
theorem pick_bound {l : List Int} (h : Kind16 l) (k : Nat) : 0 ≤ pickS l k ∧ pickS l k ≤ 65535 := by
 unfold pickS
 split
 ·rename_i hk; exact h _ (nth_mem hk)
 ·omega
theorem m48_eq {l : List Int} (h : Kind16 l) (k : Nat) : m48 l (k : Int) = some (pickS l k) := by
 unfold m48 pickS
 by_cases hk : k < l.length
 ·have := h _ (nth_mem hk)
  rw [dec_lt hk, sel_tt, idx_nat, nth_of hk, Option.bind_some, if_pos hk, i64_ok (by omega) (by omega)]
 ·rw [if_neg hk, show decide ((k : Int) < (l.length : Int)) = false by simp; omega, sel_ff]
end Go.Proofs.YtabamagholjdcaaGreatDoor
namespace Go.Proofs.YtabamagholjdcaaGreatDoor
open Go.Lg Go.Proofs
set_option maxRecDepth 10000
def foldY {α S : Type} (ys : α → S → Option (S × Bool)) : List α → S → Option (S × Bool)
 | [], s => some (s, true)
 | a :: l, s => (ys a s).bind fun r => if r.2 = true then foldY ys l r.1 else some (r.1, false)
theorem foldY_append {α S : Type} (ys : α → S → Option (S × Bool)) : ∀ (l m : List α) (s : S), foldY ys (l ++ m) s = (foldY ys l s).bind fun r => if r.2 = true then foldY ys m r.1 else some (r.1, false)
 | [], _, _ => by simp [foldY]
 | a :: l, m, s => by
  simp only [List.cons_append, foldY]
  cases ys a s with
  | none => rfl
  | some r =>
   simp only [Option.bind_some]
   cases hr : r.2 with
   | true => simp only [if_true]; exact foldY_append ys l m r.1
   | false => simp
theorem loop_seg {α S X E : Type} {ys : α → S → Option (S × Bool)} {body : S × X → Option ((S × X) ⊕ (S ⊕ E))} (g : S → E) (x : Nat → X) (seg : Nat → List α) (n : Nat)
  (h : ∀ j s r, j < n → foldY ys (seg j) s = some r → body (s, x j) = some (if r.2 = true then .inl (r.1, x (j + 1)) else .inr (.inr (g r.1)))) (hn : ∀ s, body (s, x n) = some (.inr (.inl s))) {s : S} {r : S × Bool}
  (hr : foldY ys ((List.range n).flatMap seg) s = some r) : loopM body (s, x 0) = some (if r.2 = true then .inl r.1 else .inr (g r.1)) := by
 have key : ∀ k, k ≤ n → ∀ s, foldY ys ((List.range' (n - k) k).flatMap seg) s = some r → loopM body (s, x (n - k)) = some (if r.2 = true then .inl r.1 else .inr (g r.1)) := by
  intro k
  induction k with
  | zero =>
   intro _ s hr
   simp only [List.range'_zero, List.flatMap_nil, foldY, Option.some.injEq] at hr
   subst hr
   exact loopM_stop (hn s)
  | succ k ih =>
   intro hk s hr
   have e : n - k = n - (k + 1) + 1 := by omega
   rw [List.range'_succ, List.flatMap_cons, foldY_append] at hr
   obtain ⟨q, hq, hr⟩ := bnd hr
   have hb := h (n - (k + 1)) s q (by omega) hq
   split at hr
   ·rename_i h2
    rw [if_pos h2] at hb
    rw [loopM_next hb, ← e]
    exact ih (by omega) _ (by rw [e]; exact hr)
   ·rename_i h2
    rw [if_neg h2] at hb
    cases hr
    rw [loopM_stop hb]
    simp
 have := key n (Nat.le_refl n) s (by rw [Nat.sub_self, ← List.range_eq_range']; exact hr)
 rwa [Nat.sub_self] at this
def rng (x : Reach) : List Int := (List.range (x.Most + 1 - x.Least).toNat).map fun (j : Nat) => x.Least + (j : Int)
theorem mem_rng {x : Reach} {n : Int} : n ∈ rng x ↔ x.Least ≤ n ∧ n ≤ x.Most := by
 simp only [rng, List.mem_map, List.mem_range]
 constructor
 ·rintro ⟨j, hj, rfl⟩; omega
 ·intro h; exact ⟨(n - x.Least).toNat, by omega, by omega⟩
theorem rng_len {x : Reach} (h : x.Most - x.Least < 3) : (rng x).length ≤ 3 := by simp [rng]; omega
def sufL (b : HullBook) : Nat → Nat → List (List Int)
 | 0, _ => [[]]
 | j + 1, i => (rng (nth b.Pieces i).Weight).flatMap fun n => (sufL b j (i + 1)).map (n :: ·)
def preL (b : HullBook) : Nat → List (List Int)
 | 0 => [[]]
 | i + 1 => (preL b i).flatMap fun a => (rng (nth b.Pieces i).Weight).map fun n => a ++ [n]
def allW (b : HullBook) : List (List Int) := sufL b b.Pieces.length 0
theorem pre_suf (b : HullBook) : ∀ j i, (preL b i).flatMap (fun a => (sufL b j i).map (a ++ ·)) = preL b (i + j)
 | 0, i => by simp [sufL]
 | j + 1, i => by
  rw [show i + (j + 1) = i + 1 + j by omega, ← pre_suf b j (i + 1)]
  simp only [preL, sufL, List.map_flatMap, List.flatMap_assoc, List.map_map, List.flatMap_map]
  congr 1
  funext a
  congr 1
  funext n
  congr 1
  funext l
  simp
theorem preL_all (b : HullBook) : preL b b.Pieces.length = allW b := by
 have := pre_suf b b.Pieces.length 0
 rw [Nat.zero_add] at this
 rw [← this]
 simp [preL, allW]
theorem sufL_mem (b : HullBook) : ∀ j i l, l ∈ sufL b j i → l.length = j ∧ ∀ k, k < j → (nth b.Pieces (i + k)).Weight.Least ≤ nth l k ∧ nth l k ≤ (nth b.Pieces (i + k)).Weight.Most
 | 0, _, l, h => by simp [sufL] at h; subst h; exact ⟨rfl, fun k hk => by omega⟩
 | j + 1, i, l, h => by
  simp only [sufL, List.mem_flatMap, List.mem_map] at h
  obtain ⟨n, hn, m, hm, rfl⟩ := h
  obtain ⟨h1, h2⟩ := sufL_mem b j (i + 1) m hm
  refine ⟨by simp [h1], fun k hk => ?_⟩
  cases k with
  | zero => exact mem_rng.1 hn
  | succ k =>
   have := h2 k (by omega)
   rw [show i + 1 + k = i + (k + 1) by omega] at this
   exact this
theorem allW_mem {b : HullBook} {l : List Int} (h : l ∈ allW b) : l.length = b.Pieces.length ∧ ∀ k, k < b.Pieces.length → (nth b.Pieces k).Weight.Least ≤ nth l k ∧ nth l k ≤ (nth b.Pieces k).Weight.Most := by
 have := sufL_mem b b.Pieces.length 0 l h
 simpa using this
def caseL (b : HullBook) : List HullCase := (rng b.Ballast).flatMap fun n => ((allW b).filter (seenS b n)).map fun w => ⟨n, w⟩
abbrev Z5 : List Int := [0, 0, 0, 0, 0]
def carg (c : HullCase) : Cargo := ⟨c.Ballast, copyL Z5 c.Weights⟩
theorem set_copy {pre : List Int} (h : pre.length < 5) (n : Int) : (copyL Z5 pre).set pre.length n = copyL Z5 (pre ++ [n]) ∧ ∀ m : Int, (copyL Z5 (pre ++ [m])).set pre.length n = copyL Z5 (pre ++ [n]) := by
 match pre, h with
 | [], _ => exact ⟨rfl, fun _ => rfl⟩
 | [_], _ => exact ⟨rfl, fun _ => rfl⟩
 | [_, _], _ => exact ⟨rfl, fun _ => rfl⟩
 | [_, _, _], _ => exact ⟨rfl, fun _ => rfl⟩
 | [_, _, _, _], _ => exact ⟨rfl, fun _ => rfl⟩
def InW (l : List Int) : Prop := ∀ i, i < l.length → 0 ≤ nth l i ∧ nth l i ≤ 99
theorem inW_snoc {l : List Int} {n : Int} (h : InW l) (h0 : 0 ≤ n) (h9 : n ≤ 99) : InW (l ++ [n]) := fun i hi => by
 simp only [List.length_append, List.length_cons, List.length_nil] at hi
 by_cases hl : i < l.length
 ·rw [show nth (l ++ [n]) i = nth l i by unfold nth; rw [List.getD_eq_getElem?_getD, List.getD_eq_getElem?_getD, List.getElem?_append_left hl]]
  exact h i hl
 ·rw [show nth (l ++ [n]) i = n by unfold nth; rw [List.getD_eq_getElem?_getD, List.getElem?_append_right (by omega), show i - l.length = 0 by omega]; rfl]
  exact ⟨h0, h9⟩
theorem fit_of {b : HullBook} {bal : Int} {w : List Int} (hb : -999 ≤ bal ∧ bal ≤ 999) (hl : w.length = b.Pieces.length) (h : InW w) : Fitting b bal w := ⟨hb, by omega, fun i hi => h i (by omega)⟩
theorem m157_of {b : HullBook} (hv : Valid b) {S : Type} (ys : Cargo → S → Option (S × Bool)) {bal : Int} (hb : -999 ≤ bal ∧ bal ≤ 999) : ∀ (j k : Nat) (pre : List Int) (s : S) (r : S × Bool), pre.length + j = b.Pieces.length → j < k → InW pre →
  foldY ys ((((sufL b j pre.length).map (pre ++ ·)).filter (seenS b bal)).map fun w => carg ⟨bal, w⟩) s = some r → m157 ys k ⟨bal, copyL Z5 pre⟩ (pre.length : Int) b s = some r
 | 0, 0, _, _, _, _, hk, _, _ => by omega
 | 0, k + 1, pre, s, r, hl, _, hin, hr => by
  rw [Nat.add_zero] at hl
  unfold m157
  have hf := fit_of hb hl hin
  rw [show ((pre.length : Int) == (b.Pieces.length : Int)) = true by rw [hl]; simp, sel_tt, m143_eq hv (copy_fit hv hl hf), seen_copy hv hl, Option.bind_some]
  simp only [sufL, List.map_cons, List.map_nil, List.append_nil] at hr
  cases hs : seenS b bal pre with
  | true =>
   simp only [List.filter_cons, hs, if_true, List.filter_nil, List.map_cons, List.map_nil, foldY] at hr
   obtain ⟨q, hq, hr⟩ := bnd hr
   rw [show ys ⟨bal, copyL Z5 pre⟩ s = some q from hq]
   simp only [Bool.not_true, sel_ff, Option.bind_some]
   split at hr
   ·rename_i h2; cases hr; rw [h2]
   ·rename_i h2; cases hr; simp at h2; rw [h2]
  | false =>
   simp [List.filter_cons, hs, foldY] at hr
   subst hr
   rfl
 | j + 1, 0, _, _, _, _, hk, _, _ => by omega
 | j + 1, k + 1, pre, s, r, hl, hk, hin, hr => by
  unfold m157
  have h5 := hv.n5
  have hw := (hv.each pre.length (by omega)).weight
  rw [show ((pre.length : Int) == (b.Pieces.length : Int)) = false by simp; omega, sel_ff, idx_nat, nth_of (by omega), Option.bind_some]
  generalize hX : (nth b.Pieces pre.length).Weight = X at hw
  have e0 : (X.Least, copyL Z5 pre) = (fun q : Nat => (X.Least + (q : Int), if q = 0 then copyL Z5 pre else copyL Z5 (pre ++ [X.Least + ((q - 1 : Nat) : Int)]))) 0 := by simp
  rw [e0]
  refine (loop_bind (loop_seg (ys := ys) (E := S × Bool) (fun s => (s, false)) (fun q : Nat => (X.Least + (q : Int), if q = 0 then copyL Z5 pre else copyL Z5 (pre ++ [X.Least + ((q - 1 : Nat) : Int)])))
    (fun q => (((sufL b j (pre.length + 1)).map ((pre ++ [X.Least + (q : Int)]) ++ ·)).filter (seenS b bal)).map fun w => carg ⟨bal, w⟩) (X.Most + 1 - X.Least).toNat (fun q s r hq hr => ?_) (fun s => ?_) (s := s) (r := r) ?_)).trans ?_
  rotate_right
  ·cases h2 : r.2 with
   | true => simp only [if_true, Sum.elim_inl]; rw [← h2]
   | false => simp only [Bool.false_eq_true, if_false, Sum.elim_inr]; rw [← h2]
  ·have hset : (if q = 0 then copyL Z5 pre else copyL Z5 (pre ++ [X.Least + ((q - 1 : Nat) : Int)])).set pre.length (X.Least + (q : Int)) = copyL Z5 (pre ++ [X.Least + (q : Int)]) := by
    have hs := set_copy (pre := pre) (by omega) (X.Least + (q : Int))
    split
    ·exact hs.1
    ·exact hs.2 _
   have hlen : (if q = 0 then copyL Z5 pre else copyL Z5 (pre ++ [X.Least + ((q - 1 : Nat) : Int)])).length = 5 := by
    split
    ·exact copy_len (by omega)
    ·exact copy_len (by simp; omega)
   have ih := m157_of hv ys hb j k (pre ++ [X.Least + (q : Int)]) s r (by simp; omega) (by omega) (inW_snoc hin (by omega) (by omega)) (by simpa using hr)
   simp only [List.length_append, List.length_cons, List.length_nil, Nat.zero_add] at ih
   simp only [show decide (X.Least + (q : Int) ≤ X.Most) = true by simp; omega, sel_tt, idx_nat, Int.toNat_natCast, i64_succ (i := pre.length) (by omega), hset]
   rw [nth_of (by rw [hlen]; omega), Option.bind_some, ih, Option.bind_some]
   have e1 : i64 (X.Least + (q : Int) + 1) = X.Least + ((q + 1 : Nat) : Int) := by rw [i64_ok (by omega) (by omega)]; omega
   cases r.2 with
   | true => simp [e1, sel_ff]
   | false => simp [sel_tt]
  ·simp only [show decide (X.Least + (((X.Most + 1 - X.Least).toNat : Nat) : Int) ≤ X.Most) = false by simp; omega, sel_ff]
  ·rw [← hr]
   congr 1
   simp only [sufL, hX, rng, List.flatMap_map, List.map_flatMap, List.filter_flatMap, List.map_map]
   congr 1
   funext q
   congr 2
   congr 1
   funext l
   simp
theorem m130_of {b : HullBook} (hv : Valid b) {S : Type} (ys : Cargo → S → Option (S × Bool)) {s : S} {r : S × Bool} (hr : foldY ys ((caseL b).map carg) s = some r) : m130 ys b s = some r.1 := by
 unfold m130
 have h5 := hv.n5
 have hw := hv.ballast
 generalize hX : b.Ballast = X at hw
 have e0 : X.Least = (fun q : Nat => X.Least + (q : Int)) 0 := by simp
 rw [e0]
 refine (loop_bind (loop_seg (ys := ys) (E := S) (fun s => s) (fun q : Nat => X.Least + (q : Int)) (fun q => ((allW b).filter (seenS b (X.Least + (q : Int)))).map fun w => carg ⟨X.Least + (q : Int), w⟩) (X.Most + 1 - X.Least).toNat (fun q s r hq hr => ?_) (fun s => ?_) (s := s) (r := r) ?_)).trans ?_
 rotate_right
 ·cases h2 : r.2 with
  | true => simp
  | false => simp
 ·have h := m157_of hv ys (bal := X.Least + (q : Int)) (by omega) b.Pieces.length 9 [] s r (by simp) (by omega) (fun i hi => by simp at hi) (by simpa [allW] using hr)
  have h' : m157 ys 9 ⟨X.Least + (q : Int), [0, 0, 0, 0, 0]⟩ 0 b s = some r := h
  have e1 : i64 (X.Least + (q : Int) + 1) = X.Least + ((q + 1 : Nat) : Int) := by rw [i64_ok (by omega) (by omega)]; omega
  simp only [show decide (X.Least + (q : Int) ≤ X.Most) = true by simp; omega, sel_tt, h', Option.bind_some, e1]
  cases r.2 with
  | true => simp [sel_ff]
  | false => simp [sel_tt]
 ·simp only [show decide (X.Least + (((X.Most + 1 - X.Least).toNat : Nat) : Int) ≤ X.Most) = false by simp; omega, sel_ff]
 ·rw [← hr]
  congr 1
  simp only [caseL, hX, rng, List.flatMap_map, List.map_flatMap, List.map_map]
  rfl
theorem preL_len {b : HullBook} (hv : Valid b) : ∀ i, i ≤ b.Pieces.length → (preL b i).length ≤ 3 ^ i
 | 0, _ => by simp [preL]
 | i + 1, hi => by
  have ih := preL_len hv i (by omega)
  have hr := rng_len (hv.each i (by omega)).weight.2.2.2
  have key : ∀ l : List (List Int), (l.flatMap fun a => (rng (nth b.Pieces i).Weight).map fun n => a ++ [n]).length ≤ l.length * 3 := by
   intro l
   induction l with
   | nil => simp
   | cons a l ih => simp only [List.flatMap_cons, List.length_append, List.length_map, List.length_cons]; omega
  have := key (preL b i)
  simp only [preL]
  rw [Nat.pow_succ]
  omega
theorem flat_one {α β : Type} (f : α → β) : ∀ l : List α, l.flatMap (fun x => [f x]) = l.map f
 | [] => rfl
 | a :: l => by rw [List.flatMap_cons, flat_one f l]; rfl
theorem pow3 {i : Nat} (h : i ≤ 5) : 3 ^ i ≤ 243 := by
 match i, h with
 | 0, _ => decide
 | 1, _ => decide
 | 2, _ => decide
 | 3, _ => decide
 | 4, _ => decide
 | 5, _ => decide
end Go.Proofs.YtabamagholjdcaaGreatDoor
namespace Go.Proofs.YtabamagholjdcaaGreatDoor
open Go.Lg Go.Proofs
set_option maxRecDepth 10000
theorem foldY_inv {α S O : Type} {body : α → S → Option (S ⊕ O)} (I : Nat → S → Prop) (f : α → S → S) : ∀ (l : List α) (k : Nat) (s : S), I k s → (∀ j s a, j < k + l.length → I j s → a ∈ l → body a s = some (.inl (f a s)) ∧ I (j + 1) (f a s)) →
  foldY (runY body) l (.inl s) = some (.inl (l.foldl (fun s a => f a s) s), true)
 | [], _, _, _, _ => rfl
 | a :: l, k, s, hI, h => by
  obtain ⟨h1, h2⟩ := h k s a (by simp) hI (by simp)
  simp only [foldY, runY, h1, Option.map_some, Option.bind_some, Sum.isLeft_inl, if_true, List.foldl_cons]
  exact foldY_inv I f l (k + 1) _ h2 (fun j s a' hj hI ha => h j s a' (by simp only [List.length_cons]; omega) hI (by simp [ha]))
def hasC (b : HullBook) : Bool := !(caseL b).isEmpty
theorem allW_len {b : HullBook} (hv : Valid b) : (allW b).length ≤ 243 := by
 rw [← preL_all]
 exact Nat.le_trans (preL_len hv _ (Nat.le_refl _)) (pow3 hv.n5)
theorem caseL_len {b : HullBook} (hv : Valid b) : (caseL b).length ≤ 729 := by
 have h1 := allW_len hv
 have h2 := rng_len hv.ballast.2.2.2
 have key : ∀ l : List Int, (l.flatMap fun n => ((allW b).filter (seenS b n)).map fun w => (⟨n, w⟩ : HullCase)).length ≤ l.length * 243 := by
  intro l
  induction l with
  | nil => simp
  | cons a l ih =>
   have := List.length_filter_le (seenS b a) (allW b)
   simp only [List.flatMap_cons, List.length_append, List.length_map, List.length_cons]
   omega
 have := key (rng b.Ballast)
 unfold caseL
 omega
theorem m112_eq {b : HullBook} (hv : Valid b) : m112 b = some (hasC b) := by
 unfold m112 hasC
 cases hc : caseL b with
 | nil =>
  rw [m130_of hv _ (r := (.inl (), true)) (by rw [hc]; rfl)]
  rfl
 | cons c l =>
  rw [m130_of hv _ (r := (.inr (), false)) (by rw [hc]; rfl)]
  rfl
def casesS (b : HullBook) : Int × Int := if chk b ≠ 0 then (0, chk b) else ((caseL b).length, 0)
theorem m44_eq {b : HullBook} (hs : Small b) : m44 b = some (casesS b) := by
 unfold m44 casesS
 rw [m83_eq hs, Option.bind_some]
 by_cases h1 : chk b = 0
 ·have hv := valid_of hs h1
  have hl := caseL_len hv
  simp only [h1, bne_self_eq_false, sel_ff, ne_eq, not_true_eq_false, if_false]
  rw [show (⟨b.Limit, ⟨b.Ballast.Least, b.Ballast.Most⟩, b.Pieces, b.Out, b.Heels⟩ : HullBook) = b from rfl]
  rw [m130_of hv _ (r := (.inl ((((caseL b).map carg).foldl (fun (s : Int) _ => s + 1) 0)), true)) (foldY_inv (fun k s => s = (k : Int)) (fun _ s => s + 1) _ 0 0 rfl (fun j s a hj hs _ => by
   subst hs
   simp only [List.length_map] at hj
   rw [i64_succ (i := j) (by omega)]
   exact ⟨rfl, rfl⟩))]
  have key : ∀ (l : List Cargo) (s : Int), l.foldl (fun s _ => s + 1) s = s + l.length := by
   intro l
   induction l with
   | nil => simp
   | cons a l ih => intro s; rw [List.foldl_cons, ih]; simp; omega
  rw [Option.bind_some, Sum.elim_inl, key]
  simp
 ·simp only [h1, ne_eq, not_false_eq_true, if_true, ne_bne h1, sel_tt]
theorem m146_eq {b : HullBook} (hv : Valid b) : m146 (fun y s => m130 y b s) = some ((caseL b).map carg) := by
 unfold m146 m165
 have hl := caseL_len hv
 have key : ∀ (l a : List Cargo), l.foldl (fun s c => s ++ [c]) a = a ++ l := by
  intro l
  induction l with
  | nil => simp
  | cons c l ih => intro a; rw [List.foldl_cons, ih]; simp
 dsimp only
 rw [m130_of hv _ (r := (.inl ((((caseL b).map carg).foldl (fun (s : List Cargo) c => s ++ [c]) [])), true)) (foldY_inv (fun k s => s.length = k) (fun c s => s ++ [c]) _ 0 [] rfl (fun j s a hj hs _ => by
  simp only [List.length_map] at hj
  rw [app_ok (by simp; omega)]
  exact ⟨rfl, by simp [hs]⟩))]
 rw [key]
 rfl
def noneO : Opened := ⟨⟨0, ⟨0, 0⟩, [], [], []⟩, [], nilTab⟩
def openS (b : HullBook) (own : Int) : Opened × Int :=
 if chk b ≠ 0 then (noneO, chk b) else if own ≠ 0 then (noneO, own) else if caseL b = [] then (noneO, 9) else (⟨b, (caseL b).map carg, []⟩, 0)
theorem m89_eq {b : HullBook} (hs : Small b) {f : HullBook → Option Int} {own : Int} (hf : chk b = 0 → f b = some own) : m89 b f = some (openS b own) := by
 unfold m89 openS
 rw [m83_eq hs, Option.bind_some]
 by_cases h1 : chk b = 0
 ·have hv := valid_of hs h1
  simp only [h1, bne_self_eq_false, sel_ff, ne_eq, not_true_eq_false, if_false, hf h1, Option.bind_some]
  by_cases h2 : own = 0
  ·simp only [h2, bne_self_eq_false, sel_ff, not_true_eq_false, if_false, m146_eq hv, Option.bind_some, List.length_map]
   cases hc : caseL b with
   | nil => rfl
   | cons c l =>
    rw [if_neg (by simp), show ((((c :: l).length : Nat) : Int) == 0) = false by simp; omega, sel_ff]
  ·simp only [h2, not_false_eq_true, if_true, ne_bne h2, sel_tt]
   rfl
 ·simp only [h1, ne_eq, not_false_eq_true, if_true, ne_bne h1, sel_tt]
  rfl
end Go.Proofs.YtabamagholjdcaaGreatDoor
