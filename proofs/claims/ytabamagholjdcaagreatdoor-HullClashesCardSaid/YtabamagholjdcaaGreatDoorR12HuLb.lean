/- Plain laws of chapter 6, the rest. Conditions: none. -/
import Derived.Test.YtabamagholjdcaaGreatDoorR12HuL
namespace Go.Proofs.YtabamagholjdcaaGreatDoor
open Go.Lg Go.Proofs
set_option maxRecDepth 10000
def withH (b : HullBook) (hs : List HullHeel) : HullBook := ⟨b.Limit, ⟨b.Ballast.Least, b.Ballast.Most⟩, b.Pieces, b.Out, hs⟩
theorem liftH_withH (b : HullBook) (hs : List HullHeel) : ∀ (l out : List Int), liftH (withH b hs) out l = liftH b out l
 | [], _ => rfl
 | p :: r, out => by
  unfold liftH
  rw [show liftE (withH b hs) out p = liftE b out p from rfl]
  cases liftE b out p with
  | some h => rfl
  | none => exact liftH_withH b hs r _
theorem momS_withH (b : HullBook) (hs : List HullHeel) (bal : Int) (ws out : List Int) : ∀ n, momS (withH b hs) bal ws out n = momS b bal ws out n
 | 0 => rfl
 | n + 1 => by simp only [momS, momS_withH b hs bal ws out n]; rfl
theorem sufL_withH (b : HullBook) (hs : List HullHeel) : ∀ j i, sufL (withH b hs) j i = sufL b j i
 | 0, _ => rfl
 | j + 1, i => by simp only [sufL, sufL_withH b hs j (i + 1)]; rfl
theorem mo_withH (b : HullBook) (hs : List HullHeel) (bal : Int) (ws : List Int) (n : Nat) : mo (withH b hs) bal ws n = mo b bal ws n := momS_withH b hs bal ws _ _
theorem seen_withH (b : HullBook) (hs : List HullHeel) (bal : Int) (ws : List Int) : seenS (withH b hs) bal ws = (((List.range (b.Out.length + 1)).all fun n => !rollS b (mo b bal ws n)) && hs.all fun x => sideS (mo b bal ws x.After.toNat) == x.Side) := by
 unfold seenS
 simp only [mo_withH]
 rfl
theorem allW_withH (b : HullBook) (hs : List HullHeel) : allW (withH b hs) = allW b := sufL_withH b hs _ _
theorem small_withH {b : HullBook} (h : Small b) {hs : List HullHeel} (hl : hs.length ≤ 20) : Small (withH b hs) := ⟨h.pieces, h.out, hl, h.each⟩
theorem chk_withH {b : HullBook} (hs : Small b) (h : chk b = 0) {hl : List HullHeel} (h4 : hl.length ≤ 4) (hm : ∀ x ∈ hl, x ∈ b.Heels) : chk (withH b hl) = 0 := by
 have hv := valid_of hs h
 have e : chk (withH b hl) = if hullOk b = false then 1 else if piecesH b ≠ 0 then piecesH b else if outH b ≠ 0 then outH b else heelsH (withH b hl) := by
  unfold chk
  rw [show outH (withH b hl) = outH b from liftH_withH b hl _ _]
  rfl
 rw [e]
 unfold chk at h
 by_cases h1 : hullOk b = false
 ·rw [if_pos h1] at h; cases h
 rw [if_neg h1] at h ⊢
 by_cases h2 : piecesH b = 0
 ·rw [if_neg (by simpa using h2)] at h ⊢
  by_cases h3 : outH b = 0
  ·rw [if_neg (by simpa using h3)]
   unfold heelsH
   rw [if_neg (by show ¬ 4 < hl.length; omega), firstE_none.2 (fun i _ hi => ?_)]
   ·rfl
   ·have hx := hv.heel _ (hm _ (nth_mem (l := hl) (i := i) (by simpa [withH] using hi)))
    unfold heelE
    rw [if_neg, if_neg]
    ·rw [Bool.not_eq_false, btw_iff]; exact hx.2.2
    ·rw [Bool.not_eq_false, btw_iff]; exact ⟨hx.1, hx.2.1⟩
  ·rw [if_pos (by simpa using h3)] at h; exact absurd h h3
 ·rw [if_pos (by simpa using h2)] at h; exact absurd h h2
theorem hasC_iff {b : HullBook} : hasC b = true ↔ ∃ n ∈ rng b.Ballast, ∃ w ∈ allW b, seenS b n w = true := by
 unfold hasC
 rw [Bool.not_eq_true', List.isEmpty_eq_false_iff_exists_mem]
 simp only [caseL, List.mem_flatMap, List.mem_map, List.mem_filter]
 constructor
 ·rintro ⟨_, n, hn, w, ⟨hw, hs⟩, _⟩; exact ⟨n, hn, w, hw, hs⟩
 ·rintro ⟨n, hn, w, hw, hs⟩; exact ⟨_, n, hn, w, ⟨hw, hs⟩, rfl⟩
theorem hasC_mono {b : HullBook} {hs hs' : List HullHeel} (hm : ∀ x ∈ hs, x ∈ hs') (h : hasC (withH b hs') = true) : hasC (withH b hs) = true := by
 rw [hasC_iff] at h ⊢
 obtain ⟨n, hn, w, hw, h⟩ := h
 refine ⟨n, hn, w, by rw [allW_withH] at hw ⊢; exact hw, ?_⟩
 rw [seen_withH, Bool.and_eq_true] at h ⊢
 refine ⟨h.1, ?_⟩
 have h2 := h.2
 rw [List.all_eq_true] at h2 ⊢
 exact fun x hx => h2 x (hm x hx)
def maskL (n a : Nat) : List Int := ((List.range n).filter fun i => a.testBit i).map fun (i : Nat) => (i : Int)
def heelsM (b : HullBook) (a : Nat) : List HullHeel := ((List.range b.Heels.length).filter fun i => a.testBit i).map fun i => nth b.Heels i
def lexB : List Int → List Int → Bool
 | [], [] => false
 | [], _ :: _ => true
 | _ :: _, [] => false
 | a :: l, c :: m => decide (a < c) || (a == c && lexB l m)
def fewB (l m : List Int) : Bool := decide (l.length < m.length) || (l.length == m.length && lexB l m)
def okA (n a : Nat) : Bool :=
 climbsS (maskL n a) n == 0 && (((maskL n a).length == 0) == (a == 0)) && (a == 0 || fewB [] (maskL n a)) && !fewB (maskL n a) (maskL n a) && decide ((maskL n a).length ≤ 4) &&
  ((List.range (maskL n a).length).all fun i => match c68 (maskL n a) i with | some l => (List.range (2 ^ n)).any fun c => l == maskL n c && fewB l (maskL n a) | none => false) &&
  ((List.range n).all fun i => (shrM .i64 a i).bind (fun x => bitsI .and .i64 x 1) == some (if a.testBit i then 1 else 0))
def okC (n a c : Nat) : Bool := c113 (maskL n a) (maskL n c) == some (fewB (maskL n a) (maskL n c)) && c67 (maskL n a) (maskL n c) == some (fewB (maskL n a) (maskL n c)) &&
 ((List.range (2 ^ n)).all fun d => !(fewB (maskL n a) (maskL n c) && fewB (maskL n c) (maskL n d)) || fewB (maskL n a) (maskL n d))
set_option maxRecDepth 1000000 in
theorem masks_all : ((List.range 5).all fun n => shlM .i64 1 n == some ((2 ^ n : Nat) : Int) && (List.range (2 ^ n)).all fun a => okA n a && (List.range (2 ^ n)).all fun c => okC n a c) = true := by decide +kernel
set_option maxRecDepth 1000000 in
theorem some_all : ((List.range 256).all fun x => (List.range 5).all fun n => c49 x n == some (maskL n (x % 2 ^ n))) = true := by decide +kernel
theorem shl_mask {n : Nat} (h : n < 5) : shlM .i64 1 (n : Int) = some ((2 ^ n : Nat) : Int) := by
 have := masks_all
 simp only [List.all_eq_true, List.mem_range, Bool.and_eq_true, beq_iff_eq] at this
 exact (this n h).1
theorem ok_a {n a : Nat} (h : n < 5) (ha : a < 2 ^ n) : climbsS (maskL n a) n = 0 ∧ ((maskL n a).length = 0 ↔ a = 0) ∧ (a ≠ 0 → fewB [] (maskL n a) = true) ∧ fewB (maskL n a) (maskL n a) = false ∧ (maskL n a).length ≤ 4 ∧
  (∀ i, i < (maskL n a).length → ∃ c, c < 2 ^ n ∧ m68 (maskL n a) i = some (maskL n c) ∧ fewB (maskL n c) (maskL n a) = true) ∧ ∀ i, i < n → (shrM .i64 a i).bind (fun x => bitsI .and .i64 x 1) = some (if a.testBit i then 1 else 0) := by
 have := masks_all
 simp only [List.all_eq_true, List.mem_range, Bool.and_eq_true, beq_iff_eq] at this
 have h1 := ((this n h).2 a ha).1
 simp only [okA, Bool.and_eq_true, beq_iff_eq, List.all_eq_true, List.mem_range, Bool.or_eq_true, Bool.not_eq_true', decide_eq_true_eq] at h1
 obtain ⟨⟨⟨⟨⟨⟨h1, h2⟩, h3⟩, h4⟩, h5⟩, h6⟩, h7⟩ := h1
 refine ⟨h1, ?_, fun hne => h3.resolve_left hne, h4, h5, fun i hi => ?_, h7⟩
 ·rw [Bool.eq_iff_iff] at h2; simpa using h2
 ·have h8 := h6 i hi
  cases hc : c68 (maskL n a) i with
  | none => rw [hc] at h8; cases h8
  | some l =>
   rw [hc] at h8
   simp only [List.any_eq_true, List.mem_range, Bool.and_eq_true, beq_iff_eq] at h8
   obtain ⟨c, hc1, hc2, hc3⟩ := h8
   subst hc2
   exact ⟨c, hc1, le68 _ _ _ hc, hc3⟩
theorem ok_c {n a c : Nat} (h : n < 5) (ha : a < 2 ^ n) (hc : c < 2 ^ n) : m113 (maskL n a) (maskL n c) = some (fewB (maskL n a) (maskL n c)) ∧ m67 (maskL n a) (maskL n c) = some (fewB (maskL n a) (maskL n c)) ∧
  ∀ d, d < 2 ^ n → fewB (maskL n a) (maskL n c) = true → fewB (maskL n c) (maskL n d) = true → fewB (maskL n a) (maskL n d) = true := by
 have := masks_all
 simp only [List.all_eq_true, List.mem_range, Bool.and_eq_true, beq_iff_eq] at this
 have h1 := ((this n h).2 a ha).2 c hc
 simp only [okC, Bool.and_eq_true, beq_iff_eq, List.all_eq_true, List.mem_range, Bool.or_eq_true, Bool.not_eq_true'] at h1
 obtain ⟨⟨h1, h2⟩, h3⟩ := h1
 refine ⟨le113 _ _ _ h1, le67 _ _ _ h2, fun d hd g1 g2 => (h3 d hd).resolve_left fun hn => ?_⟩
 rw [g1, g2] at hn
 cases hn
theorem some_eq {x n : Nat} (hx : x < 256) (hn : n < 5) : m49 x n = some (maskL n (x % 2 ^ n)) := by
 have := some_all
 simp only [List.all_eq_true, List.mem_range, beq_iff_eq] at this
 exact le49 _ _ _ (this x hx n hn)
theorem heelsM_mem (b : HullBook) (a : Nat) : ∀ x ∈ heelsM b a, x ∈ b.Heels := by
 intro x hx
 simp only [heelsM, List.mem_map, List.mem_filter, List.mem_range] at hx
 obtain ⟨i, ⟨hi, _⟩, rfl⟩ := hx
 exact nth_mem hi
theorem heelsM_len (b : HullBook) (a : Nat) : (heelsM b a).length ≤ b.Heels.length := by
 unfold heelsM
 rw [List.length_map]
 exact Nat.le_trans (List.length_filter_le _ _) (by simp)
theorem m65_eq {b : HullBook} (hb : b.Heels.length ≤ 4) (a : Nat) : m65 b (maskL b.Heels.length a) = some (withH b (heelsM b a)) := by
 unfold m65
 have hl : (maskL b.Heels.length a).length ≤ 4 := by
  unfold maskL
  rw [List.length_map]
  exact Nat.le_trans (Nat.le_trans (List.length_filter_le _ _) (by simp)) hb
 have e : heelsM b a = (maskL b.Heels.length a).map fun k => nth b.Heels k.toNat := by
  unfold heelsM maskL
  rw [List.map_map]
  rfl
 refine (loop_bind (o := heelsM b a) ?_).trans rfl
 have e0 : ((0 : Int), ([] : List HullHeel)) = (fun i : Nat => ((i : Int), ((maskL b.Heels.length a).take i).map fun k => nth b.Heels k.toNat)) 0 := rfl
 rw [e0]
 refine loop_for (fun i : Nat => ((i : Int), ((maskL b.Heels.length a).take i).map fun k => nth b.Heels k.toNat)) (maskL b.Heels.length a).length (fun i hi => ?_) ?_
 ·have hm := nth_mem hi
  generalize hx : nth (maskL b.Heels.length a) i = x at hm
  have hm' := hm
  simp only [maskL, List.mem_map, List.mem_filter, List.mem_range] at hm'
  obtain ⟨j, ⟨hj, _⟩, rfl⟩ := hm'
  simp only [dec_lt hi, sel_tt, idx_nat, nth_of hi, hx, nth_of hj, Option.bind_some, i64_succ (i := i) (by omega)]
  rw [app_ok (by simp; omega), Option.bind_some, List.take_succ_eq_append_getElem hi, List.map_append]
  have h2 : (maskL b.Heels.length a)[i] = (j : Int) := by
   have := nth_of hi
   rw [List.getElem?_eq_getElem hi, hx] at this
   exact Option.some.inj this
  rw [h2]
  simp
 ·simp only [dec_nlt, sel_ff, List.take_length, e]
def oddL (b : HullBook) : List (List Int) := (List.range (2 ^ b.Heels.length)).flatMap fun a => if hasC (withH b (heelsM b a)) = true then [] else [maskL b.Heels.length a]
theorem mem_odd {b : HullBook} {l : List Int} : l ∈ oddL b ↔ ∃ a, a < 2 ^ b.Heels.length ∧ hasC (withH b (heelsM b a)) = false ∧ l = maskL b.Heels.length a := by
 simp only [oddL, List.mem_flatMap, List.mem_range]
 constructor
 ·rintro ⟨a, ha, h⟩
  split at h
  ·cases h
  ·rename_i hc; exact ⟨a, ha, by simpa using hc, by simpa using h⟩
 ·rintro ⟨a, ha, hc, rfl⟩
  exact ⟨a, ha, by rw [if_neg (by simp [hc])]; simp⟩
def bst (l : List (List Int)) : Nat → List Int
 | 0 => nth l 0
 | i + 1 => if fewB (nth l i) (bst l i) = true then nth l i else bst l i
theorem full_mask {n : Nat} : ∀ i, i < n → (2 ^ n - 1).testBit i = true := fun i hi => by rw [Nat.testBit_two_pow_sub_one]; simpa using hi
theorem heelsM_full (b : HullBook) : heelsM b (2 ^ b.Heels.length - 1) = b.Heels := by
 unfold heelsM
 rw [List.filter_eq_self.2 (fun i hi => full_mask i (List.mem_range.1 hi))]
 refine nth_ext (by simp) fun i hi => ?_
 rw [List.length_map, List.length_range] at hi
 have h1 := nth_of (l := (List.range b.Heels.length).map fun i => nth b.Heels i) (i := i) (by simpa using hi)
 simp only [List.getElem?_map, List.getElem?_range hi, Option.map_some, Option.some.injEq] at h1
 exact h1.symm
theorem pow4 {n : Nat} (h : n < 5) : 2 ^ n ≤ 16 := by
 match n, h with
 | 0, _ => decide
 | 1, _ => decide
 | 2, _ => decide
 | 3, _ => decide
 | 4, _ => decide
structure Clashes (b : HullBook) (l : List Int) (h : Int) : Prop where
 fine : hasC b = true → l = [] ∧ h = 0
 odd : hasC b = false → ∃ a, a < 2 ^ b.Heels.length ∧ l = maskL b.Heels.length a ∧ hasC (withH b (heelsM b a)) = false ∧ (∀ c, c < 2 ^ b.Heels.length → hasC (withH b (heelsM b c)) = false → fewB (maskL b.Heels.length c) l = false) ∧ h = if l.length = 0 then 8 else 0
theorem m31_eq {b : HullBook} (hs : Small b) (h1 : chk b = 0) : ∃ l h, m31 b = some (l, h) ∧ Clashes b l h := by
 have hv := valid_of hs h1
 have h4 := hv.heels
 have hp := pow4 (n := b.Heels.length) (by omega)
 unfold m31
 rw [m83_eq hs, Option.bind_some, h1, m112_eq hv]
 simp only [bne_self_eq_false, sel_ff, Option.bind_some]
 cases hc : hasC b with
 | true => exact ⟨[], 0, rfl, fun _ => ⟨rfl, rfl⟩, fun h => by rw [hc] at h; cases h⟩
 | false =>
 have hvm : ∀ a, Valid (withH b (heelsM b a)) := fun a => by
  have := heelsM_len b a
  exact valid_of (small_withH hs (by omega)) (chk_withH hs h1 (by omega) (heelsM_mem b a))
 have hodd : (2 ^ b.Heels.length - 1) < 2 ^ b.Heels.length := by have := Nat.two_pow_pos b.Heels.length; omega
 have hin : maskL b.Heels.length (2 ^ b.Heels.length - 1) ∈ oddL b := mem_odd.2 ⟨_, hodd, by rw [heelsM_full]; exact hc, rfl⟩
 have hne : 0 < (oddL b).length := List.length_pos_of_mem hin
 have hol : (oddL b).length ≤ 16 := by
  have key : ∀ l : List Nat, (l.flatMap fun a => if hasC (withH b (heelsM b a)) = true then [] else [maskL b.Heels.length a]).length ≤ l.length := by
   intro l
   induction l with
   | nil => simp
   | cons a l ih =>
    simp only [List.flatMap_cons, List.length_append, List.length_cons]
    split
    ·simp only [List.length_nil]; omega
    ·simp only [List.length_cons, List.length_nil]; omega
  have := key (List.range (2 ^ b.Heels.length))
  rw [List.length_range] at this
  unfold oddL
  omega
 have hbst : ∀ i, i ≤ (oddL b).length → bst (oddL b) i ∈ oddL b ∧ ∀ j, j < i → fewB (nth (oddL b) j) (bst (oddL b) i) = false := by
  intro i
  induction i with
  | zero => intro _; exact ⟨nth_mem hne, fun j hj => by omega⟩
  | succ i ih =>
   intro hi
   obtain ⟨g1, g2⟩ := ih (by omega)
   obtain ⟨a, ha, _, ea⟩ := mem_odd.1 g1
   obtain ⟨c, hc', _, ec⟩ := mem_odd.1 (nth_mem (l := oddL b) (i := i) (by omega))
   simp only [bst]
   by_cases hf : fewB (nth (oddL b) i) (bst (oddL b) i) = true
   ·rw [if_pos hf]
    refine ⟨nth_mem (by omega), fun j hj => ?_⟩
    by_cases hji : j = i
    ·subst hji; rw [ec]; exact (ok_a (by omega) hc').2.2.2.1
    ·cases hx : fewB (nth (oddL b) j) (nth (oddL b) i) with
     | false => rfl
     | true =>
      obtain ⟨d, hd, _, ed⟩ := mem_odd.1 (nth_mem (l := oddL b) (i := j) (by omega))
      have h3 := g2 j (by omega)
      rw [ec, ea] at hf
      rw [ec, ed] at hx
      rw [ed, ea, (ok_c (by omega) hd hc').2.2 a ha hx hf] at h3
      cases h3
   ·rw [if_neg hf]
    refine ⟨g1, fun j hj => ?_⟩
    by_cases hji : j = i
    ·subst hji; simpa using hf
    ·exact g2 j (by omega)
 obtain ⟨g1, g2⟩ := hbst _ (Nat.le_refl _)
 obtain ⟨a, ha, hca, ea⟩ := mem_odd.1 g1
 refine ⟨bst (oddL b) (oddL b).length, if (bst (oddL b) (oddL b).length).length = 0 then 8 else 0, ?_, ⟨fun h => (by rw [hc] at h; cases h), fun _ => ⟨a, ha, ea, hca, fun c hcl hcc => ?_, rfl⟩⟩⟩
 ·rw [sel_ff, shl_mask (by omega), Option.bind_some]
  rw [loop_bind (o := oddL b) ?_]
  ·rw [show idx (oddL b) 0 = some (nth (oddL b) 0) from nth_of hne, Option.bind_some]
   rw [loop_bind (o := bst (oddL b) (oddL b).length) ?_]
   ·by_cases hz : (bst (oddL b) (oddL b).length).length = 0
    ·rw [if_pos hz, show ((bst (oddL b) (oddL b).length).length : Int) == 0 from by simp [hz], sel_tt, List.length_eq_zero_iff.1 hz]
    ·rw [if_neg hz, show (((bst (oddL b) (oddL b).length).length : Int) == 0) = false from by simpa using hz, sel_ff]
   ·have e0 : (nth (oddL b) 0, (0 : Int)) = (fun i : Nat => (bst (oddL b) i, (i : Int))) 0 := rfl
    rw [e0]
    refine loop_for (fun i : Nat => (bst (oddL b) i, (i : Int))) (oddL b).length (fun i hi => ?_) (by simp only [dec_nlt, sel_ff])
    obtain ⟨a, ha, _, ea⟩ := mem_odd.1 (hbst i (by omega)).1
    obtain ⟨c, hc', _, ec⟩ := mem_odd.1 (nth_mem hi)
    simp only [dec_lt hi, sel_tt, idx_nat, nth_of hi, Option.bind_some, i64_succ (i := i) (by omega), bst]
    rw [ec, ea, (ok_c (by omega) hc' ha).1, Option.bind_some]
    cases fewB (maskL b.Heels.length c) (maskL b.Heels.length a) <;> rfl
  ·have e0 : (([] : List (List Int)), (0 : Int)) = ([], (fun i : Nat => (i : Int)) 0) := rfl
   rw [e0, show oddL b = [] ++ oddL b from rfl]
   unfold oddL
   refine loop_fl (fun i : Nat => (i : Int)) (fun a => if hasC (withH b (heelsM b a)) = true then [] else [maskL b.Heels.length a]) (2 ^ b.Heels.length) 1 [] (fun a _ => by split <;> simp) (fun a l ha hl => ?_) (fun l => by simp only [dec_nlt, sel_ff])
   have hb := (ok_a (n := b.Heels.length) (by omega) ha).2.2.2.2.2.2
   simp only [dec_lt ha, sel_tt]
   rw [loop_bind (o := (maskL b.Heels.length a, heelsM b a)) ?_]
   ·rw [show (⟨b.Limit, ⟨b.Ballast.Least, b.Ballast.Most⟩, b.Pieces, b.Out, heelsM b a⟩ : HullBook) = withH b (heelsM b a) from rfl, m112_eq (hvm a), Option.bind_some, i64_succ (i := a) (by omega)]
    cases hasC (withH b (heelsM b a)) with
    | true => simp [sel_ff]
    | false =>
     simp only [List.length_nil] at hl
     simp only [Bool.not_false, sel_tt]
     rw [app_ok (by simp; omega)]
     rfl
   ·have q0 : (([] : List Int), (0 : Int), ([] : List HullHeel)) = (fun i : Nat => (((List.range i).filter fun i => a.testBit i).map (fun (i : Nat) => (i : Int)), (i : Int), ((List.range i).filter fun i => a.testBit i).map fun i => nth b.Heels i)) 0 := rfl
    rw [q0]
    refine loop_for (fun i : Nat => (((List.range i).filter fun i => a.testBit i).map (fun (i : Nat) => (i : Int)), (i : Int), ((List.range i).filter fun i => a.testBit i).map fun i => nth b.Heels i)) b.Heels.length (fun i hi => ?_) (by simp only [dec_nlt, sel_ff]; rfl)
    have hfl : ((List.range i).filter fun i => a.testBit i).length ≤ i := Nat.le_trans (List.length_filter_le _ _) (by simp)
    have hbi := hb i hi
    obtain ⟨x, hx, hbi⟩ := bnd hbi
    simp only [dec_lt hi, sel_tt, idx_nat, nth_of hi, Option.bind_some, hx, hbi, i64_succ (i := i) (by omega), List.range_succ, List.filter_append, List.map_append]
    cases ht : a.testBit i with
    | true =>
     simp only [if_true, beq_self_eq_true, sel_tt]
     rw [app_ok (by simp; omega), Option.bind_some, app_ok (by simp; omega), Option.bind_some]
     simp [ht]
    | false => simp [ht, sel_ff]
 ·obtain ⟨j, hj, ej⟩ := nth_ex (mem_odd.2 ⟨c, hcl, hcc, rfl⟩ : maskL b.Heels.length c ∈ oddL b)
  rw [← ej]
  exact g2 j hj
theorem len_hasC {b : HullBook} : ((caseL b).length == 0) = !hasC b := by
 unfold hasC
 cases caseL b <;> rfl
theorem int_len0 {n : Nat} : (((n : Nat) : Int) == 0) = (n == 0) := by
 rw [Bool.eq_iff_iff, beq_iff_eq, beq_iff_eq]
 omega
theorem mask0 (n : Nat) : maskL n 0 = [] := by simp [maskL]
theorem law12 (b : HullBook) (x : Nat) (hx : x < 256) : m12 b x = some true := by
 unfold m12
 rw [m42_eq, righted_ok, Option.bind_some]
 cases hg : great b with
 | true => rfl
 | false =>
 by_cases h1 : chk b = 0
 case neg =>
  have : (chk b == 0) = false := by simpa using h1
  rw [this]
  rfl
 have hs := great_small hg
 have hv := valid_of hs h1
 have h4 := hv.heels
 simp only [h1, Bool.not_false, beq_self_eq_true, Bool.and_true, Bool.not_true, sel_ff]
 obtain ⟨l, h, e31, hc⟩ := m31_eq hs h1
 have hch : ∀ a, chk (withH b (heelsM b a)) = 0 := fun a => chk_withH hs h1 (by have := heelsM_len b a; omega) (heelsM_mem b a)
 have e44 : ∀ a, m44 (withH b (heelsM b a)) = some (((caseL (withH b (heelsM b a))).length : Int), 0) := fun a => by
  rw [m44_eq (small_withH hs (by have := heelsM_len b a; omega))]
  unfold casesS
  rw [if_neg (by simpa using hch a)]
 have e65 : ∀ a, m65 b (maskL b.Heels.length a) = some (withH b (heelsM b a)) := m65_eq h4
 have eb : m44 b = some (((caseL b).length : Int), 0) := by
  rw [m44_eq hs]
  unfold casesS
  rw [if_neg (by simpa using h1)]
 have e0 : m65 b [] = some (withH b (heelsM b 0)) := by rw [← mask0 b.Heels.length]; exact e65 0
 rw [e31, Option.bind_some, eb, Option.bind_some, e0, Option.bind_some, e44, Option.bind_some]
 have hp : (0 : Nat) < 2 ^ b.Heels.length := Nat.two_pow_pos _
 have hlen : l.length ≤ 4 := by
  cases hcb : hasC b with
  | true => rw [(hc.fine hcb).1]; simp
  | false =>
   obtain ⟨a, ha, rfl, _⟩ := hc.odd hcb
   exact (ok_a (by omega) ha).2.2.2.2.1
 simp only [int_len0, len_hasC, bne_self_eq_false, sel_ff, m66_eq (l := l) (below := (b.Heels.length : Int)) (by omega) (by omega) (by omega), Option.bind_some]
 cases hcb : hasC b with
 | true =>
  obtain ⟨rfl, rfl⟩ := hc.fine hcb
  have h0 : hasC (withH b (heelsM b 0)) = true := hasC_mono (hs' := b.Heels) (heelsM_mem b 0) hcb
  have hn : 0 < (caseL b).length := by
   have := len_hasC (b := b)
   rw [hcb] at this
   rcases Nat.eq_zero_or_pos (caseL b).length with hz | hz
   ·rw [hz] at this; cases this
   ·exact hz
  simp only [h0, show decide (((caseL b).length : Int) > 0) = true by simpa using hn]
  rfl
 | false =>
 obtain ⟨a, ha, rfl, hca, hmin, rfl⟩ := hc.odd hcb
 have hn : decide (((caseL b).length : Int) > 0) = false := by
  have := len_hasC (b := b)
  rw [hcb] at this
  have : (caseL b).length = 0 := by simpa using this
  simp [this]
 obtain ⟨c1, c2, c3, c4, c5, c6, c7⟩ := ok_a (n := b.Heels.length) (by omega) ha
 simp only [c1, hn]
 by_cases ha0 : a = 0
 ·subst ha0
  rw [mask0, hca]
  rfl
 ·have hl0 : ¬ (maskL b.Heels.length a).length = 0 := fun h => ha0 (c2.1 h)
  have h0 : hasC (withH b (heelsM b 0)) = true := by
   cases h : hasC (withH b (heelsM b 0)) with
   | true => rfl
   | false =>
    have := hmin 0 hp h
    rw [mask0, c3 ha0] at this
    cases this
  have hl0' : ((maskL b.Heels.length a).length == 0) = false := by simpa using hl0
  have ex := some_eq (x := x) (n := b.Heels.length) hx (by omega)
  have hxm : x % 2 ^ b.Heels.length < 2 ^ b.Heels.length := Nat.mod_lt _ hp
  simp only [h0, hl0, hl0', if_false, e65, e44, ex, Option.bind_some, Bool.not_true, bne_self_eq_false, sel_ff, int_len0, len_hasC, hca, Bool.not_false, (ok_c (n := b.Heels.length) (by omega) hxm ha).2.1]
  have hp : (sel (!hasC (withH b (heelsM b (x % 2 ^ b.Heels.length)))) (some (fewB (maskL b.Heels.length (x % 2 ^ b.Heels.length)) (maskL b.Heels.length a))) (some false)) = some false := by
   cases h : hasC (withH b (heelsM b (x % 2 ^ b.Heels.length))) with
   | true => rfl
   | false => rw [hmin _ hxm h]; rfl
  have hq : ((((caseL (withH b (heelsM b a))).length : Nat) : Int) != 0) = false := by
   have := len_hasC (b := withH b (heelsM b a))
   rw [hca] at this
   have : (caseL (withH b (heelsM b a))).length = 0 := by simpa using this
   simp [this]
  simp only [show (((0 : Int) == 8) == false) = true from rfl, Bool.not_true, sel_ff, Option.bind_some, hp, hq]
  refine (loop_bind (o := Sum.inl ()) ?_).trans rfl
  refine loop_for (fun i : Nat => (i : Int)) (maskL b.Heels.length a).length (fun i hi => ?_) ?_
  ·obtain ⟨c, hcl, hc68, hcf⟩ := c6 i hi
   have hcc : hasC (withH b (heelsM b c)) = true := by
    cases h : hasC (withH b (heelsM b c)) with
    | true => rfl
    | false => rw [hmin c hcl h] at hcf; cases hcf
   have hz : (((caseL (withH b (heelsM b c))).length : Int) == 0) = false := by rw [int_len0, len_hasC, hcc]; rfl
   simp only [dec_lt hi, sel_tt, hc68, Option.bind_some, e65, e44, hz, bne_self_eq_false, sel_ff, i64_succ (i := i) (by omega)]
  ·simp only [dec_nlt, sel_ff]
end Go.Proofs.YtabamagholjdcaaGreatDoor
