/- Plain laws of chapter 6, second part: labels, pieces, what can be lifted, heels, the hitch of a book: the program and the specification agree. Conditions: books of the sizes that the statements consider. -/
import Derived.Test.YtabamagholjdcaaGreatDoorQHuL1
namespace Go.Proofs.YtabamagholjdcaaGreatDoor
open Go.Lg Go.Proofs
set_option maxRecDepth 10000
theorem searchM {O : Type} {body : Int → Option (Int ⊕ (Unit ⊕ O))} (e : Nat → Option O) (n : Nat) (h : ∀ i, i < n → body (i : Int) = some (match e i with | some o => .inr (.inr o) | none => .inl ((i + 1 : Nat) : Int))) (hn : body (n : Int) = some (.inr (.inl ()))) :
  loopM body 0 = some (match firstE e 0 n with | some o => .inr o | none => .inl ()) := by
 refine (loop_exit (fun i => (i : Int)) (fun i => (e i).map Sum.inr) n (o := .inl ()) (fun i hi => ?_) hn).trans ?_
 ·rw [h i hi]
  cases e i <;> rfl
 ·rw [firstE_map]
  cases firstE e 0 n <;> rfl
theorem first_const {α O : Type} [Inhabited α] (p : α → Bool) (c : O) (l : List α) (n : Nat) (hn : n ≤ l.length) : firstE (fun k => if p (nth l k) then some c else none) 0 n = if (l.take n).any p then some c else none := by
 cases h : firstE (fun k => if p (nth l k) then some c else none) 0 n with
 | none =>
  rw [firstE_none] at h
  have : (l.take n).any p = false := by
   rw [List.any_eq_false]
   intro x hx
   obtain ⟨i, hi, rfl⟩ := nth_ex hx
   have hi' : i < n := by simp at hi; omega
   rw [nth_take hi']
   have := h i (Nat.zero_le _) (by omega)
   simpa using this
  rw [this]; rfl
 | some o =>
  obtain ⟨j, _, hj, he, _⟩ := firstE_some h
  split at he
  ·rename_i hp
   cases he
   have : (l.take n).any p = true := by
    rw [List.any_eq_true]
    refine ⟨nth l j, ?_, hp⟩
    rw [← nth_take (l := l) (show j < n by omega)]
    exact nth_mem (by simp; omega)
   rw [this]; rfl
  ·cases he
theorem collect {α : Type} {body : List α × Int → Option ((List α × Int) ⊕ List α)} (g : Nat → Option α) (n : Nat) (h : ∀ i acc, i < n → acc.length ≤ i → body (acc, (i : Int)) = some (.inl (acc ++ (g i).toList, ((i + 1 : Nat) : Int)))) (hn : ∀ acc, body (acc, (n : Int)) = some (.inr acc)) :
  loopM body ([], 0) = some ((List.range n).filterMap g) := by
 refine (loop_for (fun i => ((List.range i).filterMap g, (i : Int))) n (fun i hi => ?_) (hn _) : loopM body ([], (0 : Int)) = _)
 have hl : ((List.range i).filterMap g).length ≤ i := by
  have := List.length_filterMap_le g (List.range i)
  simpa using this
 rw [h i _ hi hl, List.range_succ, List.filterMap_append, show List.filterMap g [i] = (g i).toList by cases hg : g i <;> simp [hg]]
structure Small (b : HullBook) : Prop where
 pieces : b.Pieces.length ≤ 20
 out : b.Out.length ≤ 20
 heels : b.Heels.length ≤ 20
 each : ∀ p ∈ b.Pieces, p.Name.size ≤ 100 ∧ p.On.length ≤ 20
def great (b : HullBook) : Bool :=
 decide (20 < b.Pieces.length) || (decide (20 < b.Out.length) || (decide (20 < b.Heels.length) || b.Pieces.any fun p => decide (100 < p.Name.size) || decide (20 < p.On.length)))
theorem dec_gt {n m : Nat} : decide ((n : Int) > (m : Int)) = decide (m < n) := by
 by_cases h : m < n <;> simp [h]
theorem m18_eq (b : HullBook) : m18 b = some (great b) := by
 unfold m18 great
 have e1 : decide ((b.Pieces.length : Int) > 20) = decide (20 < b.Pieces.length) := dec_gt (m := 20)
 have e2 : decide ((b.Out.length : Int) > 20) = decide (20 < b.Out.length) := dec_gt (m := 20)
 have e3 : decide ((b.Heels.length : Int) > 20) = decide (20 < b.Heels.length) := dec_gt (m := 20)
 rw [e1, e2, e3]
 by_cases h1 : 20 < b.Pieces.length
 ·simp [h1]
 by_cases h2 : 20 < b.Out.length
 ·simp [h1, h2]
 by_cases h3 : 20 < b.Heels.length
 ·simp [h1, h2, h3]
 simp only [h1, h2, h3, decide_false, sel_ff, Option.bind_some, Bool.false_or]
 rw [search0 (fun i => if (decide (100 < (nth b.Pieces i).Name.size) || decide (20 < (nth b.Pieces i).On.length)) then some true else none) b.Pieces.length (d := false) (fun i hi => ?_) (by simp only [dec_nlt, sel_ff]) rfl]
 ·rw [first_any (fun p : HullPiece => decide (100 < p.Name.size) || decide (20 < p.On.length)) b.Pieces]
 ·have f1 : decide (((nth b.Pieces i).Name.size : Int) > 100) = decide (100 < (nth b.Pieces i).Name.size) := dec_gt (m := 100)
  have f2 : decide (((nth b.Pieces i).On.length : Int) > 20) = decide (20 < (nth b.Pieces i).On.length) := dec_gt (m := 20)
  simp only [dec_lt hi, sel_tt, idx_nat, nth_of hi, Option.bind_some, f1, f2, i64_succ (i := i) (by omega)]
  cases decide (100 < (nth b.Pieces i).Name.size) <;> cases decide (20 < (nth b.Pieces i).On.length) <;> rfl
theorem great_small {b : HullBook} (h : great b = false) : Small b := by
 simp only [great, Bool.or_eq_false_iff, decide_eq_false_iff_not, List.any_eq_false, Bool.not_eq_true] at h
 obtain ⟨h1, h2, h3, h4⟩ := h
 refine ⟨by omega, by omega, by omega, fun p hp => ?_⟩
 have := h4 p hp
 omega
def isLet (n : Int) : Bool := btw n 97 122
def isDig (n : Int) : Bool := btw n 48 57
theorem strL_len (s : ByteArray) : (strL s).length = s.size := by simp [strL]
theorem strL_byte {s : ByteArray} {i : Nat} (h : i < s.size) : 0 ≤ nth (strL s) i ∧ nth (strL s) i < 256 := by
 have hm : nth (strL s) i ∈ strL s := nth_mem (by rw [strL_len]; exact h)
 unfold strL at hm
 obtain ⟨b, _, hb⟩ := List.mem_map.1 hm
 unfold strL
 rw [← hb]
 have := b.toNat_lt
 omega
def labE (s : ByteArray) (i : Nat) : Option Bool := if isLet (nth (strL s) i) = false then (if i = 0 then some false else if isDig (nth (strL s) i) = false then some false else none) else none
def labelS (s : ByteArray) : Bool := (firstE (labE s) 0 s.size).getD (btw (s.size : Int) 1 12)
theorem m215_eq {s : ByteArray} (hs : s.size ≤ 1000) : m215 s = some (labelS s) := by
 unfold m215 labelS
 have e := strL_len s
 rw [e]
 refine search0 (labE s) s.size (fun i hi => ?_) (by simp only [dec_nlt, sel_ff]) (by rw [m154_eq]; rfl)
 have hi' : i < (strL s).length := by omega
 obtain ⟨h1, h2⟩ := strL_byte hi
 simp only [dec_lt hi, sel_tt, idx_nat, nth_of hi', Option.bind_some, m154_eq, i64_ok (z := nth (strL s) i) (by omega) (by omega), i64_succ (i := i) (by omega)]
 unfold labE isLet isDig
 cases btw (nth (strL s) i) 97 122 with
 | true => rfl
 | false =>
  by_cases h0 : i = 0
  ·subst h0; rfl
  ·have : ((i : Int) == 0) = false := by simpa using h0
   simp only [this, Bool.not_false, sel_tt, sel_ff, h0, if_false, if_true]
   cases btw (nth (strL s) i) 48 57 <;> rfl
theorem m172_eq {n : Int} (h1 : 0 ≤ n) (h2 : n < 256) : m172 n = some (isLet n) := by unfold m172 isLet; rw [i64_ok (by omega) (by omega), m58_eq]; rfl
theorem m173_eq {n : Int} (h1 : 0 ≤ n) (h2 : n < 256) : m173 n = some (isDig n) := by unfold m173 isDig; rw [i64_ok (by omega) (by omega), m58_eq]; rfl
theorem lab_false {s : ByteArray} {k i : Nat} {o : Bool} (h : firstE (labE s) i k = some o) : o = false := by
 obtain ⟨j, _, _, he, _⟩ := firstE_some h
 unfold labE at he
 split at he
 ·split at he
  ·cases he; rfl
  ·split at he
   ·cases he; rfl
   ·cases he
 ·cases he
theorem m161_eq {s : ByteArray} (hs : s.size ≤ 1000) : m161 s = some (labelS s) := by
 unfold m161 labelS
 rw [m58_eq, Option.bind_some]
 cases hb : btw (s.size : Int) 1 12 with
 | false =>
  simp only [Bool.not_false, sel_tt, Option.bind_some]
  congr 1
  cases hf : firstE (labE s) 0 s.size with
  | none => rfl
  | some o => rw [lab_false hf]; rfl
 | true =>
  have h1 : 1 ≤ s.size := by
   simp only [btw, Bool.and_eq_true, decide_eq_true_eq] at hb
   omega
  have hi' : 0 < (strL s).length := by rw [strL_len]; omega
  obtain ⟨g1, g2⟩ := strL_byte (s := s) (i := 0) (by omega)
  have hs0 : strAt s 0 = some (nth (strL s) 0) := by unfold strAt; rw [← nth_of hi']; exact idx_nat _ 0
  simp only [Bool.not_true, sel_ff, hs0, Option.bind_some, m172_eq g1 g2]
  have hu : firstE (labE s) 0 s.size = match labE s 0 with | some o => some o | none => firstE (labE s) 1 (s.size - 1) := by
   obtain ⟨k, hk⟩ : ∃ k, s.size = k + 1 := ⟨s.size - 1, by omega⟩
   rw [hk]
   simp only [firstE, Nat.add_sub_cancel, Nat.zero_add]
   cases labE s 0 <;> rfl
  rw [hu]
  unfold labE
  cases hl : isLet (nth (strL s) 0) with
  | false => rfl
  | true =>
   simp only [Bool.not_true, sel_ff, Bool.true_eq_false, if_false]
   have e2 := search (body := fun (s72 : Int) =>
    sel (decide (s72 < (s.size : Int)))
    ((strAt s s72).bind fun x94 =>
    (m172 x94).bind fun x95 =>
    sel (!x95)
    ((strAt s s72).bind fun x97 =>
    (m173 x97).bind fun x98 =>
    sel (!x98)
    (some (.inr (.inr false)))
    (some (.inl (i64 (s72 + 1)))))
    (some (.inl (i64 (s72 + 1)))))
    (some (.inr (.inl ())))) (labE s) 1 s.size (d := true) (g := fun _ => some true) (fun i hi1 hi => ?_) (by simp only [dec_nlt, sel_ff]) h1 rfl
   ·exact e2
   ·have hi2 : i < (strL s).length := by rw [strL_len]; exact hi
    obtain ⟨k1, k2⟩ := strL_byte hi
    have hsi : strAt s (i : Int) = some (nth (strL s) i) := by unfold strAt; rw [← nth_of hi2]; exact idx_nat _ i
    simp only [dec_lt hi, sel_tt, hsi, Option.bind_some, m172_eq k1 k2, m173_eq k1 k2, i64_succ (i := i) (by omega)]
    have h0 : i ≠ 0 := by omega
    unfold labE
    cases isLet (nth (strL s) i) with
    | true => rfl
    | false =>
     simp only [Bool.not_false, sel_tt, h0, if_false, if_true]
     cases isDig (nth (strL s) i) <;> rfl
def sameName (p q : HullPiece) : Bool := q.Name.toList == p.Name.toList
def pieceE (b : HullBook) (i : Nat) : Option Int :=
 if labelS (nth b.Pieces i).Name = false then some 4
 else if (b.Pieces.take i).any (sameName (nth b.Pieces i)) = true then some 5
 else if (btw (nth b.Pieces i).Arm (-9) 9 && (reachIn (nth b.Pieces i).Weight 1 99 && wideLt (nth b.Pieces i).Weight 3)) = false then some 1
 else if climbsS (nth b.Pieces i).On (i : Int) ≠ 0 then some (climbsS (nth b.Pieces i).On (i : Int)) else none
def piecesH (b : HullBook) : Int := if btw (b.Pieces.length : Int) 1 5 = false then 2 else (firstE (pieceE b) 0 b.Pieces.length).getD 0
theorem m212_eq {b : HullBook} (h : Small b) : m212 b = some (piecesH b) := by
 unfold m212 piecesH
 rw [m154_eq, Option.bind_some]
 cases btw (b.Pieces.length : Int) 1 5 with
 | false => rfl
 | true =>
  simp only [Bool.not_true, sel_ff, Bool.true_eq_false, if_false]
  have hp := h.pieces
  refine search0 (pieceE b) b.Pieces.length (fun i hi => ?_) (by simp only [dec_nlt, sel_ff]) rfl
  obtain ⟨hn, ho⟩ := h.each _ (nth_mem hi)
  simp only [dec_lt hi, sel_tt, idx_nat, nth_of hi, Option.bind_some, m215_eq (show (nth b.Pieces i).Name.size ≤ 1000 by omega), cut_take (show i ≤ b.Pieces.length by omega), m121_eq (x := (nth b.Pieces i).Weight) (a := 1) (c := 99) (w := 3) (by omega) (by omega), m154_eq,
   m216_eq (l := b.Pieces.take i) (f := fun y => m217 y (nth b.Pieces i)) (p := sameName (nth b.Pieces i)) (by simp; omega) (fun x _ => rfl), m132_eq (l := (nth b.Pieces i).On) (below := (i : Int)) (by omega) (by omega) (by omega), i64_succ (i := i) (by omega)]
  unfold pieceE
  cases labelS (nth b.Pieces i).Name with
  | false => rfl
  | true =>
   cases (b.Pieces.take i).any (sameName (nth b.Pieces i)) with
   | true => rfl
   | false =>
    cases btw (nth b.Pieces i).Arm (-9) 9 with
    | false => rfl
    | true =>
     cases (reachIn (nth b.Pieces i).Weight 1 99 && wideLt (nth b.Pieces i).Weight 3) with
     | false => rfl
     | true =>
      by_cases hc : climbsS (nth b.Pieces i).On (i : Int) = 0
      ·simp [hc]
      ·have : (climbsS (nth b.Pieces i).On (i : Int) != 0) = true := by simpa using hc
       simp [hc, this]
theorem m135_eq {b : HullBook} (h : Small b) : m135 b = some (piecesH b) := by
 unfold m135 piecesH
 rw [m58_eq, Option.bind_some]
 cases btw (b.Pieces.length : Int) 1 5 with
 | false => rfl
 | true =>
  simp only [Bool.not_true, sel_ff, Bool.true_eq_false, if_false]
  have hp := h.pieces
  refine search0 (pieceE b) b.Pieces.length (fun i hi => ?_) (by simp only [dec_nlt, sel_ff]) rfl
  obtain ⟨hn, ho⟩ := h.each _ (nth_mem hi)
  simp only [dec_lt hi, sel_tt, idx_nat, nth_of hi, Option.bind_some, m161_eq (show (nth b.Pieces i).Name.size ≤ 1000 by omega)]
  rw [searchM (fun k => if sameName (nth b.Pieces i) (nth b.Pieces k) then some (5 : Int) else none) i (fun k hk => ?_) (by simp only [dec_nlt, sel_ff])]
  ·rw [first_const (sameName (nth b.Pieces i)) (5 : Int) b.Pieces i (by omega)]
   simp only [m124_eq, m58_eq, Option.bind_some, m66_eq (l := (nth b.Pieces i).On) (below := (i : Int)) (by omega) (by omega) (by omega), i64_succ (i := i) (by omega)]
   unfold pieceE
   cases labelS (nth b.Pieces i).Name with
   | false => rfl
   | true =>
    cases (b.Pieces.take i).any (sameName (nth b.Pieces i)) with
    | true => rfl
    | false =>
     cases btw (nth b.Pieces i).Arm (-9) 9 with
     | false => rfl
     | true =>
      cases hr : reachIn (nth b.Pieces i).Weight 1 99 with
      | false => rfl
      | true =>
       have hw : decide (i64 ((nth b.Pieces i).Weight.Most - (nth b.Pieces i).Weight.Least) ≥ 3) = !wideLt (nth b.Pieces i).Weight 3 := by
        rw [wide_i64 (w := 3) (by omega) (by omega) hr]
        unfold wideLt
        by_cases hx : (nth b.Pieces i).Weight.Most - (nth b.Pieces i).Weight.Least < 3
        ·simp [hx]
        ·simp [hx]; omega
       simp only [Bool.not_true, sel_ff, Sum.elim_inl, Option.bind_some, hw, Bool.false_eq_true, if_false, Bool.true_and, Bool.true_eq_false]
       cases wideLt (nth b.Pieces i).Weight 3 with
       | false => rfl
       | true =>
        by_cases hc : climbsS (nth b.Pieces i).On (i : Int) = 0
        ·simp [hc]
        ·have : (climbsS (nth b.Pieces i).On (i : Int) != 0) = true := by simpa using hc
         simp [hc, this]
  ·simp only [dec_lt hk, sel_tt, idx_nat, nth_of (show k < b.Pieces.length by omega), Option.bind_some, i64_succ (i := k) (by omega)]
   rw [show ((nth b.Pieces k).Name.toList == (nth b.Pieces i).Name.toList) = sameName (nth b.Pieces i) (nth b.Pieces k) from rfl]
   cases sameName (nth b.Pieces i) (nth b.Pieces k) <;> rfl
end Go.Proofs.YtabamagholjdcaaGreatDoor
