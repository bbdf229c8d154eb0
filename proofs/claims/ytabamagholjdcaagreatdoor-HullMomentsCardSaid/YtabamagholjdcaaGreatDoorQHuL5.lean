/- Plain laws of chapter 6, fifth part: which cases are cases, what is free, equal lists; the statement HullMoments as a plain law. Conditions: none. -/
import Derived.Test.YtabamagholjdcaaGreatDoorQHuL4
import Derived.Test.YtabamagholjdcaaGreatDoorQHuC
namespace Go.Proofs.YtabamagholjdcaaGreatDoor
open Go.Lg Go.Proofs
set_option maxRecDepth 10000
theorem m55_refl {l : List Int} (hl : l.length ≤ 1000000) : m55 l l = some false := by
 unfold m55
 refine (search0 (fun _ => none) l.length (d := false) (fun i hi => ?_) (by simp only [dec_nlt, sel_ff]) rfl).trans ?_
 ·have h1 : decide ((i : Int) ≥ (l.length : Int)) = false := by simpa using hi
  simp only [dec_lt hi, sel_tt, h1, sel_ff, idx_nat, nth_of hi, Option.bind_some, i64_succ (i := i) (by omega)]
  have h2 : decide (nth l i < nth l i) = false := by simp
  rw [h2]; rfl
 ·rw [firstE_none.2 (fun _ _ _ => rfl)]; rfl
theorem m22_refl {l : List Int} (hl : l.length ≤ 1000000) : m22 l l = some true := by
 unfold m22
 rw [m55_refl hl]
 rfl
def freesS (b : HullBook) (out : List Int) : List Int := (List.range b.Pieces.length).filterMap fun (i : Nat) => if canLift b out (i : Int) = true then some (i : Int) else none
theorem frees_len (b : HullBook) (out : List Int) : (freesS b out).length ≤ b.Pieces.length := by
 have := List.length_filterMap_le (fun i : Nat => if canLift b out (i : Int) = true then some (i : Int) else none) (List.range b.Pieces.length)
 simpa [freesS] using this
theorem m92_eq {b : HullBook} (hv : Valid b) (out : List Int) : m92 b (gset out) = some (freesS b out) := by
 unfold m92
 have h5 := hv.n5
 rw [collect (fun i : Nat => if canLift b out (i : Int) = true then some (i : Int) else none) b.Pieces.length (fun i acc hi hacc => ?_) (fun acc => by simp only [dec_nlt, sel_ff])]
 ·rfl
 ·simp only [dec_lt hi, sel_tt, Option.bind_some, m149_eq hv.small h5 (out := out) (p := (i : Int)) (by omega) (by omega), i64_succ (i := i) (by omega)]
  cases canLift b out (i : Int) with
  | true => simp [app_ok (xs := acc) (ys := [(i : Int)]) (by simp; omega)]
  | false => simp
theorem m96_eq {b : HullBook} (hs : Small b) {out : List Int} (ho : out.length ≤ 1000) : m96 b out = some (freesS b out) := by
 unfold m96
 have hp := hs.pieces
 rw [collect (fun i : Nat => if canLift b out (i : Int) = true then some (i : Int) else none) b.Pieces.length (fun i acc hi hacc => ?_) (fun acc => by simp only [dec_nlt, sel_ff])]
 ·rfl
 ·simp only [dec_lt hi, sel_tt, Option.bind_some, m150_eq hs (p := (i : Int)) ho, i64_succ (i := i) (by omega)]
  cases canLift b out (i : Int) with
  | true => simp [app_ok (xs := acc) (ys := [(i : Int)]) (by simp; omega)]
  | false => simp
def freeS (b : HullBook) : List Int × Int := if chk b ≠ 0 then ([], chk b) else (freesS b b.Out, 0)
theorem m53_eq {b : HullBook} (hs : Small b) : m53 b = some (freeS b) := by
 unfold m53 freeS
 rw [m83_eq hs, Option.bind_some]
 by_cases h1 : chk b = 0
 ·have hv := valid_of hs h1
  have ho := hs.out
  simp only [h1, bne_self_eq_false, sel_ff, ne_eq, not_true_eq_false, if_false, m93_nil hv.in5 (by omega), Option.bind_some]
  rw [show (⟨b.Limit, ⟨b.Ballast.Least, b.Ballast.Most⟩, b.Pieces, b.Out, b.Heels⟩ : HullBook) = b from rfl, m92_eq hv]
  rfl
 ·simp only [h1, ne_eq, not_false_eq_true, if_true, ne_bne h1, sel_tt]
theorem m82_eq {b : HullBook} (hs : Small b) : m82 b = some (freeS b) := by
 unfold m82 freeS
 rw [m61_eq hs, Option.bind_some]
 by_cases h1 : chk b = 0
 ·have ho := hs.out
  simp only [h1, bne_self_eq_false, sel_ff, ne_eq, not_true_eq_false, if_false, m96_eq hs (out := b.Out) (by omega), Option.bind_some]
 ·simp only [h1, ne_eq, not_false_eq_true, if_true, ne_bne h1, sel_tt]
theorem clamp_eq {x a c : Int} (h : a ≤ c) : (minI (maxI x [a]) [c] = x) ↔ btw x a c = true := by
 rw [btw_iff]
 have hm : maxI x [a] = if a > x then a else x := rfl
 have hd : (a > x ∧ maxI x [a] = a) ∨ (¬ a > x ∧ maxI x [a] = x) := by
  by_cases h1 : a > x
  ·left; rw [hm, if_pos h1]; exact ⟨h1, rfl⟩
  ·right; rw [hm, if_neg h1]; exact ⟨h1, rfl⟩
 generalize maxI x [a] = d at hd
 have hn : minI d [c] = if c < d then c else d := rfl
 rw [hn]
 by_cases h2 : c < d
 ·rw [if_pos h2]; omega
 ·rw [if_neg h2]; omega
def inReach (b : HullBook) (bal : Int) (ws : List Int) : Bool := btw bal b.Ballast.Least b.Ballast.Most && (List.range b.Pieces.length).all fun i => btw (nth ws i) (nth b.Pieces i).Weight.Least (nth b.Pieces i).Weight.Most
def isCaseS (b : HullBook) (c : HullCase) : Bool × Int :=
 if chk b ≠ 0 then (false, chk b) else if caseH b c ≠ 0 then (false, caseH b c) else if inReach b c.Ballast c.Weights = true then (seenS b c.Ballast c.Weights, 0) else (false, 0)
def clampS (b : HullBook) (cw : List Int) (j : Nat) : Int := minI (maxI (nth cw j) [(nth b.Pieces j).Weight.Least]) [(nth b.Pieces j).Weight.Most]
def nearL (b : HullBook) (cw : List Int) (i : Nat) : List Int := (List.range 5).map fun j => if j < i then clampS b cw j else 0
theorem near_len (b : HullBook) (cw : List Int) (i : Nat) : (nearL b cw i).length = 5 := by simp [nearL]
theorem near_set (b : HullBook) (cw : List Int) {i : Nat} (h : i < 5) : (nearL b cw i).set i (clampS b cw i) = nearL b cw (i + 1) := by
 apply List.ext_getElem?
 intro j
 rw [List.getElem?_set]
 by_cases hj : j < 5
 ·by_cases hij : i = j
  ·subst hij
   simp [nearL, hj]
  ·simp only [hij, if_false, nearL, List.getElem?_map, List.getElem?_range hj, Option.map_some]
   by_cases h1 : j < i
   ·simp [h1, show j < i + 1 by omega]
   ·simp [h1, show ¬ j < i + 1 by omega]
 ·rw [if_neg (by omega)]
  simp [nearL, hj]
theorem near_nth (b : HullBook) (cw : List Int) {i j : Nat} (h : j < 5) : nth (nearL b cw i) j = if j < i then clampS b cw j else 0 := by
 have := nth_of (l := nearL b cw i) (i := j) (by rw [near_len]; exact h)
 simp only [nearL, List.getElem?_map, List.getElem?_range h, Option.map_some, Option.some.injEq] at this
 exact this.symm
theorem m80_eq {b : HullBook} (hs : Small b) {c : HullCase} (hc : c.Weights.length ≤ 20) : m80 b c = some (isCaseS b c) := by
 unfold m80 isCaseS
 rw [m83_eq hs, Option.bind_some]
 by_cases h1 : chk b = 0
 ·have hv := valid_of hs h1
  have h5 := hv.n5
  obtain ⟨k, hk1, hk2⟩ := m131_eq (b := b) (c := c) (by omega)
  rw [hk1]
  by_cases h2 : caseH b c = 0
  ·obtain ⟨hl, hf⟩ := case_ok hv h2
   have hkk := hk2 h2
   subst hkk
   have hcl := copy_len (ws := c.Weights) (by omega)
   simp only [h1, h2, bne_self_eq_false, sel_ff, Option.bind_some, ne_eq, not_true_eq_false, if_false]
   refine (loop_bind (o := nearL b (copyL [0, 0, 0, 0, 0] c.Weights) b.Pieces.length) ?_).trans ?_
   rotate_left
   ·have hiff : (eqCargo (⟨minI (maxI c.Ballast [b.Ballast.Least]) [b.Ballast.Most], nearL b (copyL [0, 0, 0, 0, 0] c.Weights) b.Pieces.length⟩ : Cargo) (⟨c.Ballast, copyL [0, 0, 0, 0, 0] c.Weights⟩ : Cargo) == true) = inReach b c.Ballast c.Weights := by
     rw [Bool.eq_iff_iff]
     unfold eqCargo inReach
     simp only [Bool.and_true, beq_true, Bool.and_eq_true, beq_iff_eq, clamp_eq hv.ballast.2.1, List.all_eq_true, List.mem_range]
     refine and_congr_right fun _ => ?_
     constructor
     ·intro he i hi
      have h3 := near_nth b (copyL [0, 0, 0, 0, 0] c.Weights) (i := b.Pieces.length) (j := i) (by omega)
      rw [he, if_pos hi] at h3
      have h4 := (clamp_eq (hv.each i hi).weight.2.1).1 h3.symm
      rwa [nth_copy (by omega) (by omega)] at h4
     ·intro he
      refine nth_ext (by rw [near_len, hcl]) fun i hi => ?_
      rw [near_len] at hi
      rw [near_nth _ _ hi]
      by_cases h3 : i < b.Pieces.length
      ·rw [if_pos h3]
       refine (clamp_eq (hv.each i h3).weight.2.1).2 ?_
       rw [nth_copy (by omega) (by omega)]
       exact he i h3
      ·rw [if_neg h3]
       unfold copyL nth
       rw [List.getD_eq_getElem?_getD, List.getElem?_append_right (by simp; omega), List.getElem?_drop]
       have hi2 : c.Weights.length + (i - (c.Weights.take [0, 0, 0, 0, (0 : Int)].length).length) < 5 := by simp; omega
       generalize c.Weights.length + (i - (c.Weights.take [0, 0, 0, 0, (0 : Int)].length).length) = j at hi2
       match j, hi2 with
       | 0, _ => rfl
       | 1, _ => rfl
       | 2, _ => rfl
       | 3, _ => rfl
       | 4, _ => rfl
    rw [hiff]
    cases inReach b c.Ballast c.Weights with
    | true =>
     rw [sel_tt, m143_eq hv (copy_fit hv hl hf), seen_copy hv hl]
     rfl
    | false => rfl
   have e0 : ((0 : Int), [0, 0, 0, 0, (0 : Int)]) = (fun i : Nat => ((i : Int), nearL b (copyL [0, 0, 0, 0, 0] c.Weights) i)) 0 := rfl
   rw [e0]
   refine loop_for (fun i : Nat => ((i : Int), nearL b (copyL [0, 0, 0, 0, 0] c.Weights) i)) b.Pieces.length (fun i hi => ?_) ?_
   ·simp only [dec_lt hi, sel_tt, idx_nat, nth_of hi, nth_of (l := copyL [0, 0, 0, 0, 0] c.Weights) (i := i) (by omega), nth_of (l := nearL b (copyL [0, 0, 0, 0, 0] c.Weights) i) (i := i) (by rw [near_len]; omega), Option.bind_some, Int.toNat_natCast, i64_succ (i := i) (by omega)]
    rw [show minI (maxI (nth (copyL [0, 0, 0, 0, 0] c.Weights) i) [(nth b.Pieces i).Weight.Least]) [(nth b.Pieces i).Weight.Most] = clampS b (copyL [0, 0, 0, 0, 0] c.Weights) i from rfl, near_set _ _ (by omega)]
   ·simp only [dec_nlt, sel_ff]
  ·simp only [h1, h2, bne_self_eq_false, sel_ff, Option.bind_some, ne_eq, not_true_eq_false, not_false_eq_true, if_true, if_false, ne_bne h2, sel_tt]
 ·simp only [h1, ne_eq, not_false_eq_true, if_true, ne_bne h1, sel_tt]
theorem m81_eq {b : HullBook} (hs : Small b) {c : HullCase} (hc : c.Weights.length ≤ 20) : m81 b c = some (isCaseS b c) := by
 unfold m81 isCaseS
 rw [m61_eq hs, Option.bind_some, m142_eq (by omega)]
 by_cases h1 : chk b = 0
 ·have hv := valid_of hs h1
  by_cases h2 : caseH b c = 0
  ·obtain ⟨hl, hf⟩ := case_ok hv h2
   simp only [h1, h2, bne_self_eq_false, sel_ff, Option.bind_some, ne_eq, not_true_eq_false, if_false, m58_eq]
   unfold inReach
   cases btw c.Ballast b.Ballast.Least b.Ballast.Most with
   | false => rfl
   | true =>
    simp only [Bool.not_true, sel_ff, Bool.true_and]
    rw [search0 (fun i => if (!btw (nth c.Weights i) (nth b.Pieces i).Weight.Least (nth b.Pieces i).Weight.Most) = true then some (false, (0 : Int)) else none) c.Weights.length (d := (seenS b c.Ballast c.Weights, 0)) (fun i hi => ?_) (by simp only [dec_nlt, sel_ff]) (by
     have := m144_eq hv hf
     rw [show c = (⟨c.Ballast, c.Weights⟩ : HullCase) from rfl, this]; rfl)]
    ·rw [hl]
     congr 1
     have ha := first_all (fun i => !btw (nth c.Weights i) (nth b.Pieces i).Weight.Least (nth b.Pieces i).Weight.Most) b.Pieces.length
     simp only [Bool.not_not] at ha
     rw [← ha]
     rw [show (fun i => if (!btw (nth c.Weights i) (nth b.Pieces i).Weight.Least (nth b.Pieces i).Weight.Most) = true then some (false, (0 : Int)) else none) = (fun i => ((if (!btw (nth c.Weights i) (nth b.Pieces i).Weight.Least (nth b.Pieces i).Weight.Most) = true then some false else none) : Option Bool).map fun x => (x, (0 : Int))) by
      funext i
      cases btw (nth c.Weights i) (nth b.Pieces i).Weight.Least (nth b.Pieces i).Weight.Most <;> rfl]
     rw [firstE_map]
     cases hf1 : firstE (fun i => if (!btw (nth c.Weights i) (nth b.Pieces i).Weight.Least (nth b.Pieces i).Weight.Most) = true then some false else none) 0 b.Pieces.length with
     | none => rfl
     | some o =>
      obtain ⟨j, _, _, he, _⟩ := firstE_some hf1
      split at he
      ·cases he; rfl
      ·cases he
    ·simp only [dec_lt hi, sel_tt, idx_nat, nth_of hi, nth_of (show i < b.Pieces.length by omega), Option.bind_some, i64_succ (i := i) (by omega)]
     cases btw (nth c.Weights i) (nth b.Pieces i).Weight.Least (nth b.Pieces i).Weight.Most <;> rfl
  ·simp only [h1, h2, bne_self_eq_false, sel_ff, Option.bind_some, ne_eq, not_true_eq_false, not_false_eq_true, if_true, if_false, ne_bne h2, sel_tt]
 ·simp only [h1, ne_eq, not_false_eq_true, if_true, ne_bne h1, sel_tt]
theorem law16 (b : HullBook) (c : HullCase) (out : List Int) : m16 b c out = some true := by
 unfold m16
 rw [m18_eq, righted_ok]
 have e1 : decide ((c.Weights.length : Int) > 20) = decide (20 < c.Weights.length) := dec_gt (m := 20)
 have e2 : decide ((out.length : Int) > 20) = decide (20 < out.length) := dec_gt (m := 20)
 rw [e1, e2]
 cases hg : great b with
 | true => rfl
 | false =>
  have hs := great_small hg
  by_cases h1 : 20 < c.Weights.length
  ·simp [h1]
  by_cases h2 : 20 < out.length
  ·simp [h1, h2]
  simp only [h1, h2, decide_false, Option.bind_some, sel_ff]
  have hl : (freeS b).1.length ≤ 1000000 := by
   unfold freeS
   have := frees_len b b.Out
   have := hs.pieces
   split
   ·simp
   ·simp; omega
  rw [m50_eq hs (by omega) (by omega), m79_eq hs (by omega) (by omega), m80_eq hs (by omega), m81_eq hs (by omega), m53_eq hs, m82_eq hs, m83_eq hs, m61_eq hs]
  simp only [Option.bind_some, beq_self_eq_true, sel_tt, m22_refl hl]
end Go.Proofs.YtabamagholjdcaaGreatDoor
