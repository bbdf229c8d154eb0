/- Plain laws of chapter 6, first part: loops as searches; numbers, reaches, lists that climb; labels; the hitch of a book. Conditions: lists and names of the sizes that the statements consider. -/
import Derived.Test.YtabamagholjdcaaGreatDoorQHuM
namespace Go.Proofs.YtabamagholjdcaaGreatDoor
open Go.Lg Go.Proofs
set_option maxRecDepth 10000
theorem loop_for {S O : Type} {body : S → Option (S ⊕ O)} (st : Nat → S) (n : Nat) {o : O} (h : ∀ i, i < n → body (st i) = some (.inl (st (i + 1)))) (hn : body (st n) = some (.inr o)) : loopM body (st 0) = some o := by
 have key : ∀ k, k ≤ n → loopM body (st (n - k)) = some o := by
  intro k
  induction k with
  | zero => intro _; exact loopM_stop hn
  | succ k ih =>
   intro hk
   rw [loopM_next (h (n - (k + 1)) (by omega)), show n - (k + 1) + 1 = n - k by omega]
   exact ih (by omega)
 have := key n (Nat.le_refl _)
 rwa [Nat.sub_self] at this
def firstE {O : Type} (e : Nat → Option O) : Nat → Nat → Option O
 | _, 0 => none
 | i, k + 1 => match e i with | some o => some o | none => firstE e (i + 1) k
def stepE {S O : Type} (s : S) : Option O → S ⊕ O
 | some o => .inr o
 | none => .inl s
theorem loop_exit' {S O : Type} {body : S → Option (S ⊕ O)} (st : Nat → S) (e : Nat → Option O) (i0 n : Nat) {o : O} (h : ∀ i, i0 ≤ i → i < n → body (st i) = some (stepE (st (i + 1)) (e i))) (hn : body (st n) = some (.inr o)) (h0 : i0 ≤ n) : loopM body (st i0) = some ((firstE e i0 (n - i0)).getD o) := by
 have key : ∀ k, k ≤ n - i0 → loopM body (st (n - k)) = some ((firstE e (n - k) k).getD o) := by
  intro k
  induction k with
  | zero => intro _; exact loopM_stop hn
  | succ k ih =>
   intro hk
   have hb := h (n - (k + 1)) (by omega) (by omega)
   unfold firstE
   cases he : e (n - (k + 1)) with
   | some o' =>
    rw [he] at hb
    exact loopM_stop hb
   | none =>
    rw [he] at hb
    rw [loopM_next hb, show n - (k + 1) + 1 = n - k by omega]
    exact ih (by omega)
 have := key (n - i0) (Nat.le_refl _)
 rwa [show n - (n - i0) = i0 by omega] at this
theorem loop_exit {S O : Type} {body : S → Option (S ⊕ O)} (st : Nat → S) (e : Nat → Option O) (n : Nat) {o : O} (h : ∀ i, i < n → body (st i) = some (stepE (st (i + 1)) (e i))) (hn : body (st n) = some (.inr o)) : loopM body (st 0) = some ((firstE e 0 n).getD o) := by
 simpa using loop_exit' st e 0 n (fun i _ hi => h i hi) hn (Nat.zero_le _)
theorem firstE_congr {O : Type} {e e' : Nat → Option O} : ∀ (k i : Nat), (∀ j, i ≤ j → j < i + k → e j = e' j) → firstE e i k = firstE e' i k
 | 0, _, _ => rfl
 | k + 1, i, h => by
  unfold firstE
  rw [h i (Nat.le_refl _) (by omega), firstE_congr k (i + 1) (fun j h1 h2 => h j (by omega) (by omega))]
theorem firstE_none {O : Type} {e : Nat → Option O} : ∀ {k i : Nat}, firstE e i k = none ↔ ∀ j, i ≤ j → j < i + k → e j = none
 | 0, i => by simp [firstE]; omega
 | k + 1, i => by
  unfold firstE
  cases he : e i with
  | some o => simp; exact ⟨i, Nat.le_refl _, by omega, by rw [he]; simp⟩
  | none =>
   simp only
   rw [firstE_none]
   constructor
   ·intro h j h1 h2
    by_cases hj : j = i
    ·subst hj; exact he
    ·exact h j (by omega) (by omega)
   ·intro h j h1 h2; exact h j (by omega) (by omega)
theorem firstE_some {O : Type} {e : Nat → Option O} : ∀ {k i : Nat} {o : O}, firstE e i k = some o → ∃ j, i ≤ j ∧ j < i + k ∧ e j = some o ∧ ∀ m, i ≤ m → m < j → e m = none
 | 0, i, o, h => by cases h
 | k + 1, i, o, h => by
  unfold firstE at h
  cases he : e i with
  | some o' => rw [he] at h; cases h; exact ⟨i, Nat.le_refl _, by omega, he, fun m h1 h2 => by omega⟩
  | none =>
   rw [he] at h
   obtain ⟨j, h1, h2, h3, h4⟩ := firstE_some h
   refine ⟨j, by omega, by omega, h3, fun m hm1 hm2 => ?_⟩
   by_cases hm : m = i
   ·subst hm; exact he
   ·exact h4 m (by omega) hm2
@[simp] theorem sel_tt {α : Type} {a b : Option α} : sel true a b = a := rfl
@[simp] theorem sel_ff {α : Type} {a b : Option α} : sel false a b = b := rfl
@[simp] theorem idx_nat {α : Type} (xs : List α) (k : Nat) : idx xs (k : Int) = xs[k]? := by simp [idx]
theorem i64_ok {z : Int} (h1 : -4611686018427387904 ≤ z) (h2 : z ≤ 4611686018427387904) : i64 z = z := i64_fit (by omega)
theorem i64_succ {i : Nat} (h : i ≤ 1000000000) : i64 ((i : Int) + 1) = ((i + 1 : Nat) : Int) := by rw [i64_ok (by omega) (by omega)]; omega
theorem i64_pred {i : Nat} (h : i ≤ 1000000000) (h0 : 0 < i) : i64 ((i : Int) - 1) = ((i - 1 : Nat) : Int) := by rw [i64_ok (by omega) (by omega)]; omega
theorem cut_take {α : Type} {xs : List α} {k : Nat} (h : k ≤ xs.length) : cutM xs 0 (k : Int) = some (xs.take k) := by simp [cutM, h]
theorem app_ok {α : Type} {xs ys : List α} (h : xs.length + ys.length ≤ 16777216) : appM xs ys = some (xs ++ ys) := by simp [appM, h]
def btw (n a c : Int) : Bool := decide (a ≤ n) && decide (n ≤ c)
theorem m154_eq (n a c : Int) : m154 n a c = some (btw n a c) := by
 unfold m154 btw
 cases decide (a ≤ n) <;> rfl
theorem m58_eq (n a c : Int) : m58 n a c = some (btw n a c) := by
 unfold m58 btw
 cases decide (a ≤ n) <;> rfl
def reachIn (x : Reach) (a c : Int) : Bool := decide (a ≤ x.Least) && (decide (x.Least ≤ x.Most) && decide (x.Most ≤ c))
theorem m124_eq (x : Reach) (a c : Int) : m124 x a c = some (reachIn x a c) := by
 unfold m124 reachIn
 cases decide (a ≤ x.Least) <;> cases decide (x.Least ≤ x.Most) <;> rfl
def wideLt (x : Reach) (w : Int) : Bool := decide (x.Most - x.Least < w)
theorem wide_i64 {x : Reach} {a c w : Int} (ha : -1000000 ≤ a) (hc : c ≤ 1000000) (h : reachIn x a c = true) : i64 (x.Most - x.Least) = x.Most - x.Least := by
 simp only [reachIn, Bool.and_eq_true, decide_eq_true_eq] at h
 exact i64_ok (by omega) (by omega)
theorem m121_eq {x : Reach} {a c w : Int} (ha : -1000000 ≤ a) (hc : c ≤ 1000000) : m121 x a c w = some (reachIn x a c && wideLt x w) := by
 unfold m121 reachIn wideLt
 by_cases h1 : a ≤ x.Least
 ·by_cases h2 : x.Least ≤ x.Most
  ·by_cases h3 : x.Most ≤ c
   ·simp [h1, h2, h3, i64_ok (z := x.Most - x.Least) (by omega) (by omega)]
   ·simp [h1, h2, h3]
  ·simp [h1, h2]
 ·simp [h1]
def nth {α : Type} [Inhabited α] (l : List α) (i : Nat) : α := l.getD i default
theorem nth_of {α : Type} [Inhabited α] {l : List α} {i : Nat} (h : i < l.length) : l[i]? = some (nth l i) := by
 unfold nth
 rw [List.getD_eq_getElem?_getD, List.getElem?_eq_getElem h]; rfl
theorem nth_mem {α : Type} [Inhabited α] {l : List α} {i : Nat} (h : i < l.length) : nth l i ∈ l := List.mem_of_getElem? (nth_of h)
theorem nth_ex {α : Type} [Inhabited α] {l : List α} {x : α} (h : x ∈ l) : ∃ i, i < l.length ∧ nth l i = x := by
 obtain ⟨i, hi, rfl⟩ := List.mem_iff_getElem.1 h
 refine ⟨i, hi, ?_⟩
 have := nth_of hi
 rw [List.getElem?_eq_getElem hi] at this
 exact (Option.some.inj this).symm
theorem nth_ext {α : Type} [Inhabited α] {l m : List α} (h : l.length = m.length) (he : ∀ i, i < l.length → nth l i = nth m i) : l = m := by
 apply List.ext_getElem?
 intro i
 by_cases hi : i < l.length
 ·rw [nth_of hi, nth_of (h ▸ hi), he i hi]
 ·rw [List.getElem?_eq_none (by omega), List.getElem?_eq_none (by omega)]
theorem nth_take {α : Type} [Inhabited α] {l : List α} {i k : Nat} (h : i < k) : nth (l.take k) i = nth l i := by
 unfold nth
 rw [List.getD_eq_getElem?_getD, List.getD_eq_getElem?_getD, List.getElem?_take_of_lt h]
instance : Inhabited HullPiece := ⟨⟨⟨#[]⟩, 0, ⟨0, 0⟩, []⟩⟩
instance : Inhabited HullHeel := ⟨⟨0, 0⟩⟩
theorem loop_bind {S O β : Type} {body : S → Option (S ⊕ O)} {s : S} {o : O} {f : O → Option β} (h : loopM body s = some o) : (loopM body s).bind f = f o := by rw [h]; rfl
theorem dec_lt {i : Nat} {n : Nat} (h : i < n) : decide ((i : Int) < (n : Int)) = true := by simpa using h
theorem dec_le {i : Nat} {n : Nat} (h : i ≤ n) : decide ((i : Int) ≤ (n : Int)) = true := by simpa using h
theorem dec_nlt {n : Nat} : decide ((n : Int) < (n : Int)) = false := by simp
theorem dec_nle {n : Nat} : decide (((n + 1 : Nat) : Int) ≤ (n : Int)) = false := by simp; omega
theorem dec_pos {i : Nat} (h : 0 < i) : decide ((i : Int) > 0) = true := by simpa using h
theorem dec_npos {i : Nat} (h : ¬ 0 < i) : decide ((i : Int) > 0) = false := by simpa using h
theorem elim_first {O : Type} {f : Option O} {g : Unit → Option O} {d : O} (hd : g () = some d) : Sum.elim g (fun q => some q) (((f.map Sum.inr).getD (.inl ())) : Unit ⊕ O) = some (f.getD d) := by
 cases f with
 | none => exact hd
 | some o => rfl
theorem firstE_map {O Q : Type} (g : O → Q) (e : Nat → Option O) : ∀ (k i : Nat), firstE (fun j => (e j).map g) i k = (firstE e i k).map g
 | 0, _ => rfl
 | k + 1, i => by
  unfold firstE
  cases e i with
  | none => exact firstE_map g e k (i + 1)
  | some o => rfl
theorem search {O : Type} {body : Int → Option (Int ⊕ (Unit ⊕ O))} (e : Nat → Option O) (i0 n : Nat) {d : O} {g : Unit → Option O} (h : ∀ i, i0 ≤ i → i < n → body (i : Int) = some (match e i with | some o => .inr (.inr o) | none => .inl ((i + 1 : Nat) : Int))) (hn : body (n : Int) = some (.inr (.inl ()))) (h0 : i0 ≤ n) (hd : g () = some d) :
  (loopM body (i0 : Int)).bind (Sum.elim g fun q => some q) = some ((firstE e i0 (n - i0)).getD d) := by
 refine (loop_bind (loop_exit' (fun i => (i : Int)) (fun i => (e i).map Sum.inr) i0 n (o := .inl ()) (fun i h1 h2 => ?_) hn h0)).trans ?_
 ·rw [h i h1 h2]
  cases e i <;> rfl
 ·rw [firstE_map]
  exact elim_first hd
theorem search0 {O : Type} {body : Int → Option (Int ⊕ (Unit ⊕ O))} (e : Nat → Option O) (n : Nat) {d : O} {g : Unit → Option O} (h : ∀ i, i < n → body (i : Int) = some (match e i with | some o => .inr (.inr o) | none => .inl ((i + 1 : Nat) : Int))) (hn : body (n : Int) = some (.inr (.inl ()))) (hd : g () = some d) :
  (loopM body 0).bind (Sum.elim g fun q => some q) = some ((firstE e 0 n).getD d) := search e 0 n (fun i _ hi => h i hi) hn (Nat.zero_le _) hd
def climbE (l : List Int) (below : Int) (i : Nat) : Option Int :=
 if btw (nth l i) 0 (below - 1) = false then some 6 else if 0 < i then (if nth l i ≤ nth l (i - 1) then some 7 else none) else none
def climbsS (l : List Int) (below : Int) : Int := (firstE (climbE l below) 0 l.length).getD 0
theorem m132_eq {l : List Int} {below : Int} (hl : l.length ≤ 1000) (h0 : 0 ≤ below) (h1 : below ≤ 1000) : m132 l below = some (climbsS l below) := by
 unfold m132
 refine search0 (climbE l below) l.length (fun i hi => ?_) (by simp only [dec_nlt, sel_ff]) rfl
 simp only [dec_lt hi, sel_tt, idx_nat, nth_of hi, Option.bind_some, m154_eq, i64_ok (z := below - 1) (by omega) (by omega), i64_succ (i := i) (by omega)]
 unfold climbE
 cases btw (nth l i) 0 (below - 1) with
 | false => rfl
 | true =>
  by_cases hp : 0 < i
  ·simp only [dec_pos hp, Bool.not_true, sel_ff, sel_tt, i64_pred (i := i) (by omega) hp, idx_nat, nth_of (show i - 1 < l.length by omega), Option.bind_some, hp, if_true, Bool.true_eq_false, if_false]
   by_cases hc : nth l i ≤ nth l (i - 1) <;> simp [hc]
  ·simp [hp]
theorem m66_eq {l : List Int} {below : Int} (hl : l.length ≤ 1000) (h0 : 0 ≤ below) (h1 : below ≤ 1000) : m66 l below = some (climbsS l below) := by
 unfold m66
 refine search0 (climbE l below) l.length (fun i hi => ?_) (by simp only [dec_nlt, sel_ff]) rfl
 simp only [dec_lt hi, sel_tt, idx_nat, nth_of hi, Option.bind_some, m58_eq, i64_ok (z := below - 1) (by omega) (by omega), i64_succ (i := i) (by omega)]
 unfold climbE
 cases btw (nth l i) 0 (below - 1) with
 | false => rfl
 | true =>
  by_cases hp : 0 < i
  ·simp only [dec_pos hp, Bool.not_true, sel_ff, sel_tt, i64_pred (i := i) (by omega) hp, idx_nat, nth_of (show i - 1 < l.length by omega), Option.bind_some, hp, if_true, Bool.true_eq_false, if_false]
   by_cases hc : nth l i ≤ nth l (i - 1) <;> simp [hc]
  ·simp [hp]
theorem first_any {α : Type} [Inhabited α] (p : α → Bool) (l : List α) : (firstE (fun i => if p (nth l i) then some true else none) 0 l.length).getD false = l.any p := by
 cases h : firstE (fun i => if p (nth l i) then some true else none) 0 l.length with
 | none =>
  rw [firstE_none] at h
  symm
  rw [Option.getD_none, List.any_eq_false]
  intro x hx
  obtain ⟨i, hi, rfl⟩ := nth_ex hx
  have := h i (Nat.zero_le _) (by omega)
  simpa using this
 | some o =>
  obtain ⟨j, _, hj, he, _⟩ := firstE_some h
  split at he
  ·rename_i hp
   cases he
   symm
   rw [Option.getD_some, List.any_eq_true]
   exact ⟨nth l j, nth_mem (by omega), hp⟩
  ·cases he
theorem any_eq2 (l : List Int) (n : Int) : (l.any fun x => n == x) = l.contains n := by
 rw [Bool.eq_iff_iff, List.any_eq_true, List.contains_iff_mem]
 constructor
 ·rintro ⟨x, hx, h⟩
  rw [beq_iff_eq] at h; subst h; exact hx
 ·intro h; exact ⟨n, h, by simp⟩
theorem any_eq1 (l : List Int) (n : Int) : (l.any fun x => x == n) = l.contains n := by
 rw [Bool.eq_iff_iff, List.any_eq_true, List.contains_iff_mem]
 constructor
 ·rintro ⟨x, hx, h⟩
  rw [beq_iff_eq] at h; subst h; exact hx
 ·intro h; exact ⟨n, h, by simp⟩
theorem m47_eq {l : List Int} {n : Int} (hl : l.length ≤ 1000) : m47 l n = some (l.contains n) := by
 unfold m47
 refine (search0 (fun i => if (nth l i == n) then some true else none) l.length (d := false) (fun i hi => ?_) (by simp only [dec_nlt, sel_ff]) rfl).trans ?_
 ·simp only [dec_lt hi, sel_tt, idx_nat, nth_of hi, Option.bind_some, i64_succ (i := i) (by omega)]
  cases nth l i == n <;> rfl
 ·rw [first_any (fun x => x == n) l]
  rw [any_eq1]
theorem first_idx {α : Type} [Inhabited α] (p : α → Bool) (l : List α) : decide ((firstE (fun i => if p (nth l i) then some (i : Int) else none) 0 l.length).getD (-1) ≥ 0) = l.any p := by
 rw [← first_any p l]
 cases h : firstE (fun i => if p (nth l i) then some (i : Int) else none) 0 l.length with
 | none =>
  rw [firstE_none] at h
  have : firstE (fun i => if p (nth l i) then some true else none) 0 l.length = none := by
   rw [firstE_none]
   intro j h1 h2
   have := h j h1 h2
   cases hp : p (nth l j) with
   | true => rw [hp] at this; cases this
   | false => rfl
  rw [this]; rfl
 | some o =>
  obtain ⟨j, h1, h2, h3, h4⟩ := firstE_some h
  split at h3
  ·rename_i hp
   cases h3
   have : firstE (fun i => if p (nth l i) then some true else none) 0 l.length = some true := by
    cases hf : firstE (fun i => if p (nth l i) then some true else none) 0 l.length with
    | none => rw [firstE_none] at hf; have := hf j h1 h2; rw [if_pos hp] at this; cases this
    | some b =>
     obtain ⟨_, _, _, hb, _⟩ := firstE_some hf
     split at hb
     ·cases hb; rfl
     ·cases hb
   rw [this]
   simp
  ·cases h3
theorem m175_eq {l : List Int} {n : Int} (hl : l.length ≤ 1000) : m175 l n = some (l.contains n) := by
 unfold m175 m188
 rw [search0 (fun i => if (n == nth l i) then some (i : Int) else none) l.length (d := (-1)) (fun i hi => ?_) (by simp only [dec_nlt, sel_ff]) rfl]
 ·rw [Option.bind_some, first_idx (fun x => n == x) l]
  rw [any_eq2]
 ·simp only [dec_lt hi, sel_tt, idx_nat, nth_of hi, Option.bind_some, i64_succ (i := i) (by omega)]
  cases n == nth l i <;> rfl
theorem m158_eq {l : List Int} {f : Int → Option Bool} {p : Int → Bool} (hl : l.length ≤ 1000) (hf : ∀ x ∈ l, f x = some (p x)) : m158 l f = some (l.any p) := by
 unfold m158 m171
 rw [search0 (fun i => if p (nth l i) then some (i : Int) else none) l.length (d := (-1)) (fun i hi => ?_) (by simp only [dec_nlt, sel_ff]) rfl]
 ·rw [Option.bind_some, first_idx p l]
 ·simp only [dec_lt hi, sel_tt, idx_nat, nth_of hi, Option.bind_some, hf _ (nth_mem hi), i64_succ (i := i) (by omega)]
  cases p (nth l i) <;> rfl
theorem m216_eq {l : List HullPiece} {f : HullPiece → Option Bool} {p : HullPiece → Bool} (hl : l.length ≤ 1000) (hf : ∀ x ∈ l, f x = some (p x)) : m216 l f = some (l.any p) := by
 unfold m216 m218
 rw [search0 (fun i => if p (nth l i) then some (i : Int) else none) l.length (d := (-1)) (fun i hi => ?_) (by simp only [dec_nlt, sel_ff]) rfl]
 ·rw [Option.bind_some, first_idx p l]
 ·simp only [dec_lt hi, sel_tt, idx_nat, nth_of hi, Option.bind_some, hf _ (nth_mem hi), i64_succ (i := i) (by omega)]
  cases p (nth l i) <;> rfl
theorem m162_eq {l : List HullHeel} {f : HullHeel → Option Bool} {p : HullHeel → Bool} (hl : l.length ≤ 1000) (hf : ∀ x ∈ l, f x = some (p x)) : m162 l f = some (l.any p) := by
 unfold m162 m174
 rw [search0 (fun i => if p (nth l i) then some (i : Int) else none) l.length (d := (-1)) (fun i hi => ?_) (by simp only [dec_nlt, sel_ff]) rfl]
 ·rw [Option.bind_some, first_idx p l]
 ·simp only [dec_lt hi, sel_tt, idx_nat, nth_of hi, Option.bind_some, hf _ (nth_mem hi), i64_succ (i := i) (by omega)]
  cases p (nth l i) <;> rfl
end Go.Proofs.YtabamagholjdcaaGreatDoor
