/- Plain laws of chapter 6, fourth part: valid books; moments, cases; what is free: the program and the specification agree. Conditions: books of the sizes that the statements consider. -/
import Derived.Test.YtabamagholjdcaaGreatDoorQHuL3
namespace Go.Proofs.YtabamagholjdcaaGreatDoor
open Go.Lg Go.Proofs
set_option maxRecDepth 10000
structure OkPiece (b : HullBook) (i : Nat) : Prop where
 arm : -9 ≤ (nth b.Pieces i).Arm ∧ (nth b.Pieces i).Arm ≤ 9
 weight : 1 ≤ (nth b.Pieces i).Weight.Least ∧ (nth b.Pieces i).Weight.Least ≤ (nth b.Pieces i).Weight.Most ∧ (nth b.Pieces i).Weight.Most ≤ 99 ∧ (nth b.Pieces i).Weight.Most - (nth b.Pieces i).Weight.Least < 3
 on : climbsS (nth b.Pieces i).On (i : Int) = 0
structure Valid (b : HullBook) : Prop where
 small : Small b
 limit : 0 ≤ b.Limit ∧ b.Limit ≤ 9999
 ballast : -999 ≤ b.Ballast.Least ∧ b.Ballast.Least ≤ b.Ballast.Most ∧ b.Ballast.Most ≤ 999 ∧ b.Ballast.Most - b.Ballast.Least < 3
 n1 : 1 ≤ b.Pieces.length
 n5 : b.Pieces.length ≤ 5
 each : ∀ i, i < b.Pieces.length → OkPiece b i
 out : liftH b [] b.Out = 0
 heels : b.Heels.length ≤ 4
 heel : ∀ x ∈ b.Heels, 0 ≤ x.After ∧ x.After ≤ (b.Out.length : Int) ∧ 0 ≤ x.Side ∧ x.Side ≤ 2
theorem btw_iff {n a c : Int} : btw n a c = true ↔ a ≤ n ∧ n ≤ c := by simp [btw]
theorem reach_iff {x : Reach} {a c : Int} : reachIn x a c = true ↔ a ≤ x.Least ∧ x.Least ≤ x.Most ∧ x.Most ≤ c := by simp [reachIn]
theorem wide_iff {x : Reach} {w : Int} : wideLt x w = true ↔ x.Most - x.Least < w := by simp [wideLt]
theorem getD_zero {e : Nat → Option Int} {n : Nat} (hne : ∀ i, e i ≠ some 0) (h : (firstE e 0 n).getD 0 = 0) : ∀ i, i < n → e i = none := by
 cases hf : firstE e 0 n with
 | none => rw [firstE_none] at hf; exact fun i hi => hf i (Nat.zero_le _) (by omega)
 | some o =>
  rw [hf] at h
  obtain ⟨j, _, _, he, _⟩ := firstE_some hf
  have : o = 0 := h
  subst this
  exact absurd he (hne j)
theorem pieceE_ne {b : HullBook} (i : Nat) : pieceE b i ≠ some 0 := by
 unfold pieceE
 split
 ·intro e; cases e
 ·split
  ·intro e; cases e
  ·split
   ·intro e; cases e
   ·split
    ·rename_i h; intro e; injection e with e; exact h e
    ·intro e; cases e
theorem heelE_ne {b : HullBook} (i : Nat) : heelE b i ≠ some 0 := by
 unfold heelE
 split
 ·intro e; cases e
 ·split
  ·intro e; cases e
  ·intro e; cases e
theorem valid_of {b : HullBook} (hs : Small b) (h : chk b = 0) : Valid b := by
 unfold chk at h
 split at h
 ·cases h
 rename_i h1
 have h1 : hullOk b = true := by simpa using h1
 split at h
 ·rename_i h2; exact absurd h h2
 rename_i h2
 have h2 : piecesH b = 0 := by simpa using h2
 split at h
 ·rename_i h3; exact absurd h h3
 rename_i h3
 have h3 : outH b = 0 := by simpa using h3
 unfold hullOk at h1
 simp only [Bool.and_eq_true, btw_iff, reach_iff, wide_iff] at h1
 obtain ⟨g1, g2, g3⟩ := h1
 obtain ⟨n1, n5⟩ := pieces5 h2
 have hp : ∀ i, i < b.Pieces.length → pieceE b i = none := by
  unfold piecesH at h2
  split at h2
  ·cases h2
  ·exact getD_zero pieceE_ne h2
 unfold heelsH at h
 split at h
 ·cases h
 rename_i h4
 have hh := getD_zero heelE_ne h
 refine ⟨hs, g1, ⟨g2.1, g2.2.1, g2.2.2, g3⟩, n1, n5, fun i hi => ?_, h3, by omega, fun x hx => ?_⟩
 ·have := hp i hi
  unfold pieceE at this
  split at this
  ·cases this
  split at this
  ·cases this
  split at this
  ·cases this
  rename_i hb
  have hb : (btw (nth b.Pieces i).Arm (-9) 9 && (reachIn (nth b.Pieces i).Weight 1 99 && wideLt (nth b.Pieces i).Weight 3)) = true := by simpa using hb
  simp only [Bool.and_eq_true, btw_iff, reach_iff, wide_iff] at hb
  split at this
  ·cases this
  rename_i hc
  exact ⟨hb.1, ⟨hb.2.1.1, hb.2.1.2.1, hb.2.1.2.2, hb.2.2⟩, by simpa using hc⟩
 ·obtain ⟨i, hi, rfl⟩ := nth_ex hx
  have := hh i hi
  unfold heelE at this
  split at this
  ·cases this
  rename_i k1
  split at this
  ·cases this
  rename_i k2
  have k1 : btw (nth b.Heels i).After 0 (b.Out.length : Int) = true := by simpa using k1
  have k2 : btw (nth b.Heels i).Side 0 2 = true := by simpa using k2
  rw [btw_iff] at k1 k2
  exact ⟨k1.1, k1.2, k2.1, k2.2⟩
theorem liftH_cons {b : HullBook} {out : List Int} {p : Int} {r : List Int} : liftH b out (p :: r) = 0 ↔ isPieceS b p = true ∧ out.contains p = false ∧ canLift b out p = true ∧ liftH b (out ++ [p]) r = 0 := by
 conv => lhs; unfold liftH liftE
 cases isPieceS b p <;> cases out.contains p <;> cases canLift b out p <;> simp
theorem lift_in {b : HullBook} : ∀ {l out : List Int}, liftH b out l = 0 → ∀ x ∈ l, isPieceS b x = true
 | [], _, _, x, hx => by cases hx
 | p :: r, out, h, x, hx => by
  obtain ⟨h1, _, _, h4⟩ := liftH_cons.1 h
  rcases List.mem_cons.1 hx with rfl | hx
  ·exact h1
  ·exact lift_in h4 x hx
theorem in5_of {b : HullBook} (h5 : b.Pieces.length ≤ 5) {l : List Int} (h : ∀ x ∈ l, isPieceS b x = true) : In5 l := fun x hx => by
 have := isPiece_iff.1 (h x hx)
 omega
theorem Valid.in5 {b : HullBook} (h : Valid b) : In5 b.Out := in5_of h.n5 (lift_in h.out)
def momS (b : HullBook) (bal : Int) (ws out : List Int) : Nat → Int
 | 0 => bal
 | i + 1 => if out.contains (i : Int) then momS b bal ws out i else momS b bal ws out i + (nth b.Pieces i).Arm * nth ws i
def moment (b : HullBook) (bal : Int) (ws out : List Int) : Int := momS b bal ws out b.Pieces.length
structure Fitting (b : HullBook) (bal : Int) (ws : List Int) : Prop where
 bal : -999 ≤ bal ∧ bal ≤ 999
 len : b.Pieces.length ≤ ws.length
 each : ∀ i, i < b.Pieces.length → 0 ≤ nth ws i ∧ nth ws i ≤ 99
theorem mul_bound {a w : Int} (h1 : -9 ≤ a) (h2 : a ≤ 9) (h3 : 0 ≤ w) (h4 : w ≤ 99) : -891 ≤ a * w ∧ a * w ≤ 891 := by
 constructor
 ·have : -9 * w ≤ a * w := Int.mul_le_mul_of_nonneg_right h1 h3
  omega
 ·have : a * w ≤ 9 * w := Int.mul_le_mul_of_nonneg_right h2 h3
  omega
theorem momS_bound {b : HullBook} (hv : Valid b) {bal : Int} {ws out : List Int} (hf : Fitting b bal ws) : ∀ i, i ≤ b.Pieces.length → -(999 + 891 * (i : Int)) ≤ momS b bal ws out i ∧ momS b bal ws out i ≤ 999 + 891 * (i : Int)
 | 0, _ => by have := hf.bal; simp only [momS]; omega
 | i + 1, hi => by
  have ih := momS_bound hv hf (out := out) i (by omega)
  have hp := (hv.each i (by omega)).arm
  have hw := hf.each i (by omega)
  have hm := mul_bound hp.1 hp.2 hw.1 hw.2
  unfold momS
  split
  ·push_cast; omega
  ·push_cast; omega
theorem moment_bound {b : HullBook} (hv : Valid b) {bal : Int} {ws out : List Int} (hf : Fitting b bal ws) : -6000 ≤ moment b bal ws out ∧ moment b bal ws out ≤ 6000 := by
 have := momS_bound hv hf (out := out) _ (Nat.le_refl _)
 have := hv.n5
 unfold moment
 omega
theorem m104_eq {b : HullBook} (hv : Valid b) {bal : Int} {ws out : List Int} (hf : Fitting b bal ws) : m104 b ⟨bal, ws⟩ (gset out) = some (moment b bal ws out) := by
 unfold m104
 have h5 := hv.n5
 refine (loop_bind (o := moment b bal ws out) (loop_for (fun i => (momS b bal ws out i, (i : Int))) b.Pieces.length (fun i hi => ?_) ?_ : loopM _ (bal, (0 : Int)) = _)).trans rfl
 ·have hp := (hv.each i hi).arm
  have hw := hf.each i hi
  have hm := mul_bound hp.1 hp.2 hw.1 hw.2
  have hb := momS_bound hv hf (out := out) i (by omega)
  have hl := hf.len
  simp only [dec_lt hi, sel_tt, idx_nat, nth_of hi, nth_of (show i < ws.length by omega), Option.bind_some, idx_gset out (p := (i : Int)) (by omega) (by omega), i64_succ (i := i) (by omega), i64_ok (z := (nth b.Pieces i).Arm * nth ws i) (by omega) (by omega), i64_ok (z := momS b bal ws out i + (nth b.Pieces i).Arm * nth ws i) (by omega) (by omega)]
  conv => rhs; unfold momS
  cases out.contains (i : Int) <;> rfl
 ·simp only [dec_nlt, sel_ff]; rfl
theorem m140_eq {b : HullBook} (hv : Valid b) {bal : Int} {ws out : List Int} (hf : Fitting b bal ws) (ho : out.length ≤ 1000) : m140 b ⟨bal, ws⟩ out = some (moment b bal ws out) := by
 unfold m140
 have h5 := hv.n5
 refine (loop_bind (o := moment b bal ws out) (loop_for (fun i => (momS b bal ws out i, (i : Int))) b.Pieces.length (fun i hi => ?_) ?_ : loopM _ (bal, (0 : Int)) = _)).trans rfl
 ·have hp := (hv.each i hi).arm
  have hw := hf.each i hi
  have hm := mul_bound hp.1 hp.2 hw.1 hw.2
  have hb := momS_bound hv hf (out := out) i (by omega)
  have hl := hf.len
  simp only [dec_lt hi, sel_tt, idx_nat, nth_of hi, nth_of (show i < ws.length by omega), Option.bind_some, m47_eq ho, i64_succ (i := i) (by omega), i64_ok (z := (nth b.Pieces i).Arm * nth ws i) (by omega) (by omega), i64_ok (z := momS b bal ws out i + (nth b.Pieces i).Arm * nth ws i) (by omega) (by omega)]
  conv => rhs; unfold momS
  cases out.contains (i : Int) <;> rfl
 ·simp only [dec_nlt, sel_ff]; rfl
theorem momS_congr {b : HullBook} {bal : Int} {ws ws' out out' : List Int} : ∀ n, (∀ i, i < n → nth ws i = nth ws' i) → (∀ i : Nat, i < n → out.contains (i : Int) = out'.contains (i : Int)) → momS b bal ws out n = momS b bal ws' out' n
 | 0, _, _ => rfl
 | n + 1, h1, h2 => by
  unfold momS
  rw [h1 n (by omega), h2 n (by omega), momS_congr n (fun i hi => h1 i (by omega)) (fun i hi => h2 i (by omega))]
def rollS (b : HullBook) (m : Int) : Bool := decide (m > b.Limit) || decide (m < -b.Limit)
def sideS (m : Int) : Int := if m > 0 then 2 else if m < 0 then 1 else 0
theorem maxI_abs {m : Int} (h1 : -1000000 ≤ m) (h2 : m ≤ 1000000) : maxI m [i64 (0 - m)] = if -m > m then -m else m := by
 rw [i64_ok (by omega) (by omega), show (0 - m) = -m by omega]
 rfl
theorem m103_eq {b : HullBook} {m : Int} (h1 : -1000000 ≤ m) (h2 : m ≤ 1000000) : m103 b m = some (rollS b m) := by
 unfold m103 rollS
 rw [maxI_abs h1 h2]
 congr 1
 by_cases h : -m > m
 ·rw [if_pos h]
  by_cases h3 : -m > b.Limit
  ·simp [h3, show m < -b.Limit by omega]
  ·simp [h3, show ¬ m < -b.Limit by omega, show ¬ m > b.Limit by omega]
 ·rw [if_neg h]
  by_cases h3 : m > b.Limit
  ·simp [h3]
  ·simp [h3, show ¬ m < -b.Limit by omega]
theorem m141_eq {b : HullBook} (hv : Valid b) (m : Int) : m141 b m = some (rollS b m) := by
 unfold m141 rollS
 have := hv.limit
 rw [i64_ok (by omega) (by omega), show (0 - b.Limit) = -b.Limit by omega]
 cases decide (m > b.Limit) <;> rfl
theorem m164_eq (m : Int) : m164 m = some (sideS m) := by
 unfold m164 sideS
 by_cases h1 : m > 0
 ·simp [h1]
 ·by_cases h2 : m < 0 <;> simp [h1, h2]
theorem m145_eq (m : Int) : m145 m = some (sideS m) := by
 unfold m145 sideS
 by_cases h1 : m > 0
 ·simp [h1]
 ·by_cases h2 : m < 0 <;> simp [h1, h2]
def mo (b : HullBook) (bal : Int) (ws : List Int) (n : Nat) : Int := moment b bal ws (b.Out.take n)
def seenS (b : HullBook) (bal : Int) (ws : List Int) : Bool := ((List.range (b.Out.length + 1)).all fun n => !rollS b (mo b bal ws n)) && b.Heels.all fun x => sideS (mo b bal ws x.After.toNat) == x.Side
theorem in5_take {l : List Int} (h : In5 l) (n : Nat) : In5 (l.take n) := fun x hx => h x (List.mem_of_mem_take hx)
theorem m143_eq {b : HullBook} (hv : Valid b) {bal : Int} {ws : List Int} (hf : Fitting b bal ws) : m143 b ⟨bal, ws⟩ = some (seenS b bal ws) := by
 unfold m143
 have ho := hv.small.out
 have hhl := hv.heels
 rw [i64_succ (i := b.Out.length) (by omega)]
 rw [search0 (fun n => if (rollS b (mo b bal ws n) || b.Heels.any fun x => x.After == (n : Int) && x.Side != sideS (mo b bal ws n)) = true then some false else none) (b.Out.length + 1) (d := true) (fun n hn => ?_) (by simp only [dec_nlt, sel_ff]) rfl]
 ·rw [first_all]
  congr 1
  unfold seenS
  rw [Bool.eq_iff_iff]
  simp only [List.all_eq_true, List.mem_range, Bool.and_eq_true, Bool.not_eq_true', Bool.or_eq_false_iff, List.any_eq_false]
  constructor
  ·intro h
   refine ⟨fun n hn => (h n hn).1, fun x hx => ?_⟩
   obtain ⟨k1, k2, _⟩ := hv.heel x hx
   have := (h x.After.toNat (by omega)).2 x hx
   have e : ((x.After.toNat : Nat) : Int) = x.After := Int.toNat_of_nonneg k1
   rw [e] at this
   rw [beq_iff_eq]
   exact Classical.byContradiction fun hne => this ⟨by simp, by simpa using fun hx => hne hx.symm⟩
  ·rintro ⟨h1, h2⟩ n hn
   refine ⟨h1 n hn, fun x hx => ?_⟩
   have := h2 x hx
   by_cases hxn : x.After = (n : Int)
   ·rw [hxn, Int.toNat_natCast, beq_iff_eq] at this
    simp only [hxn, this, bne_self_eq_false, Bool.false_eq_true, and_false, not_false_eq_true]
   ·simp [hxn]
 ·have hb := moment_bound hv hf (out := b.Out.take n)
  simp only [dec_lt hn, sel_tt, cut_take (show n ≤ b.Out.length by omega), Option.bind_some, m93_nil (in5_take hv.in5 n) (by simp; omega), m104_eq hv hf, m103_eq (b := b) (m := moment b bal ws (b.Out.take n)) (by omega) (by omega), i64_succ (i := n) (by omega),
   m162_eq (l := b.Heels) (f := fun y => m163 y (n : Int) (moment b bal ws (b.Out.take n))) (p := fun x => x.After == (n : Int) && x.Side != sideS (mo b bal ws n)) (by omega) (fun x _ => by
    unfold m163 mo
    rw [m164_eq]
    cases x.After == (n : Int) <;> rfl)]
  rw [show rollS b (moment b bal ws (b.Out.take n)) = rollS b (mo b bal ws n) from rfl]
  cases rollS b (mo b bal ws n) with
  | true => rfl
  | false =>
   cases b.Heels.any fun x => x.After == (n : Int) && x.Side != sideS (mo b bal ws n) <;> rfl
theorem m144_eq {b : HullBook} (hv : Valid b) {bal : Int} {ws : List Int} (hf : Fitting b bal ws) : m144 b ⟨bal, ws⟩ = some (seenS b bal ws) := by
 unfold m144 seenS
 have ho := hv.small.out
 have hhl := hv.heels
 rw [searchM (fun n => if rollS b (mo b bal ws n) = true then some false else none) (b.Out.length + 1) (fun n hn => ?_) (by simp only [dec_nle, sel_ff])]
 ·have ha := first_all (fun n => rollS b (mo b bal ws n)) (b.Out.length + 1)
  cases hf1 : firstE (fun n => if rollS b (mo b bal ws n) = true then some false else none) 0 (b.Out.length + 1) with
  | some o =>
   rw [hf1] at ha
   rw [← ha]
   obtain ⟨j, _, _, he, _⟩ := firstE_some hf1
   split at he
   ·cases he; rfl
   ·cases he
  | none =>
   rw [hf1] at ha
   rw [← ha]
   simp only [Option.getD_none, Bool.true_and, Option.bind_some, Sum.elim_inl]
   rw [search0 (fun i => if (sideS (mo b bal ws (nth b.Heels i).After.toNat) != (nth b.Heels i).Side) = true then some false else none) b.Heels.length (d := true) (fun i hi => ?_) (by simp only [dec_nlt, sel_ff]) rfl]
   ·rw [first_all]
    congr 1
    rw [Bool.eq_iff_iff]
    simp only [List.all_eq_true, List.mem_range, Bool.not_eq_true', bne_eq_false_iff_eq, beq_iff_eq]
    constructor
    ·intro h x hx
     obtain ⟨i, hi, rfl⟩ := nth_ex hx
     exact h i hi
    ·intro h i hi
     exact h _ (nth_mem hi)
   ·obtain ⟨k1, k2, _⟩ := hv.heel _ (nth_mem hi)
    have e : ((nth b.Heels i).After.toNat : Int) = (nth b.Heels i).After := Int.toNat_of_nonneg k1
    have ec := cut_take (xs := b.Out) (k := (nth b.Heels i).After.toNat) (by omega)
    rw [e] at ec
    simp only [dec_lt hi, sel_tt, idx_nat, nth_of hi, Option.bind_some, ec, m140_eq hv hf (out := b.Out.take (nth b.Heels i).After.toNat) (by simp; omega), m145_eq, i64_succ (i := i) (by omega)]
    rw [show moment b bal ws (b.Out.take (nth b.Heels i).After.toNat) = mo b bal ws (nth b.Heels i).After.toNat from rfl]
    cases sideS (mo b bal ws (nth b.Heels i).After.toNat) != (nth b.Heels i).Side <;> rfl
 ·simp only [dec_le (show n ≤ b.Out.length by omega), sel_tt, cut_take (show n ≤ b.Out.length by omega), Option.bind_some, m140_eq hv hf (out := b.Out.take n) (by simp; omega), m141_eq hv, i64_succ (i := n) (by omega)]
  rw [show rollS b (moment b bal ws (b.Out.take n)) = rollS b (mo b bal ws n) from rfl]
  cases rollS b (mo b bal ws n) <;> rfl
def caseH (b : HullBook) (c : HullCase) : Int :=
 if btw c.Ballast (-999) 999 = false then 1 else if c.Weights.length ≠ b.Pieces.length then 2 else if (c.Weights.any fun n => !btw n 0 99) = true then 1 else 0
theorem len_ne {n m : Nat} : ((n : Int) != (m : Int)) = decide (n ≠ m) := by
 by_cases h : n = m
 ·subst h; simp
 ·have : ¬ (n : Int) = (m : Int) := by omega
  simp [h, this]
theorem m131_eq {b : HullBook} {c : HullCase} (hc : c.Weights.length ≤ 100) : ∃ k, m131 b c = some (k, caseH b c) ∧ (caseH b c = 0 → k = ⟨c.Ballast, copyL [0, 0, 0, 0, 0] c.Weights⟩) := by
 unfold m131 caseH
 rw [m154_eq, Option.bind_some, len_ne]
 cases btw c.Ballast (-999) 999 with
 | false => exact ⟨_, rfl, fun e => by cases e⟩
 | true =>
  by_cases hl : c.Weights.length = b.Pieces.length
  ·simp only [hl, ne_eq, not_true_eq_false, decide_false, Bool.not_true, sel_ff, Bool.true_eq_false, if_false]
   rw [m158_eq (l := c.Weights) (f := fun y => m159 y) (p := fun n => !btw n 0 99) (by omega) (fun x _ => by unfold m159; rw [m154_eq]; rfl), Option.bind_some]
   cases c.Weights.any fun n => !btw n 0 99 with
   | true => exact ⟨_, rfl, fun e => by cases e⟩
   | false => exact ⟨_, rfl, fun _ => rfl⟩
  ·simp only [hl, ne_eq, not_false_eq_true, decide_true, Bool.not_true, sel_ff, sel_tt, Bool.true_eq_false, if_false, if_true]
   exact ⟨_, rfl, fun e => by cases e⟩
theorem m142_eq {b : HullBook} {c : HullCase} (hc : c.Weights.length ≤ 100) : m142 b c = some (caseH b c) := by
 unfold m142 caseH
 rw [m58_eq, Option.bind_some, len_ne]
 cases btw c.Ballast (-999) 999 with
 | false => rfl
 | true =>
  by_cases hl : c.Weights.length = b.Pieces.length
  ·simp only [hl, ne_eq, not_true_eq_false, decide_false, Bool.not_true, sel_ff, Bool.true_eq_false, if_false]
   rw [← hl]
   rw [search0 (fun i => if (!btw (nth c.Weights i) 0 99) = true then some (1 : Int) else none) c.Weights.length (d := 0) (fun i hi => ?_) (by simp only [dec_nlt, sel_ff]) rfl]
   ·rw [first_const (fun n => !btw n 0 99) (1 : Int) c.Weights c.Weights.length (Nat.le_refl _), List.take_length]
    cases c.Weights.any fun n => !btw n 0 99 <;> rfl
   ·simp only [dec_lt hi, sel_tt, idx_nat, nth_of hi, Option.bind_some, m58_eq, i64_succ (i := i) (by omega)]
    cases btw (nth c.Weights i) 0 99 <;> rfl
  ·simp only [hl, ne_eq, not_false_eq_true, decide_true, Bool.not_true, sel_ff, sel_tt, Bool.true_eq_false, if_false, if_true]
theorem case_ok {b : HullBook} (_ : Valid b) {c : HullCase} (h : caseH b c = 0) : c.Weights.length = b.Pieces.length ∧ Fitting b c.Ballast c.Weights := by
 unfold caseH at h
 split at h
 ·cases h
 rename_i h1
 split at h
 ·cases h
 rename_i h2
 split at h
 ·cases h
 rename_i h3
 have h1 : btw c.Ballast (-999) 999 = true := by simpa using h1
 have h2 : c.Weights.length = b.Pieces.length := by simpa using h2
 rw [btw_iff] at h1
 refine ⟨h2, h1, by omega, fun i hi => ?_⟩
 have h3 : (c.Weights.any fun n => !btw n 0 99) = false := by simpa using h3
 rw [List.any_eq_false] at h3
 have := h3 _ (nth_mem (show i < c.Weights.length by omega))
 have : btw (nth c.Weights i) 0 99 = true := by simpa using this
 rwa [btw_iff] at this
theorem nth_copy {ws : List Int} {i : Nat} (h : i < ws.length) (h5 : ws.length ≤ 5) : nth (copyL [0, 0, 0, 0, 0] ws) i = nth ws i := by
 unfold copyL nth
 rw [List.getD_eq_getElem?_getD, List.getD_eq_getElem?_getD, List.getElem?_append_left (by simp; omega), List.getElem?_take_of_lt (by simp; omega)]
theorem copy_len {ws : List Int} (h5 : ws.length ≤ 5) : (copyL [0, 0, 0, 0, 0] ws).length = 5 := by
 unfold copyL
 simp only [List.length_append, List.length_take, List.length_drop, List.length_cons, List.length_nil]
 omega
theorem copy_fit {b : HullBook} (hv : Valid b) {bal : Int} {ws : List Int} (hl : ws.length = b.Pieces.length) (hf : Fitting b bal ws) : Fitting b bal (copyL [0, 0, 0, 0, 0] ws) := by
 have := hv.n5
 refine ⟨hf.bal, by rw [copy_len (by omega)]; omega, fun i hi => ?_⟩
 rw [nth_copy (by omega) (by omega)]
 exact hf.each i hi
theorem moment_copy {b : HullBook} (hv : Valid b) {bal : Int} {ws out : List Int} (hl : ws.length = b.Pieces.length) : moment b bal (copyL [0, 0, 0, 0, 0] ws) out = moment b bal ws out := by
 have := hv.n5
 exact momS_congr _ (fun i hi => nth_copy (by omega) (by omega)) (fun _ _ => rfl)
theorem seen_copy {b : HullBook} (hv : Valid b) {bal : Int} {ws : List Int} (hl : ws.length = b.Pieces.length) : seenS b bal (copyL [0, 0, 0, 0, 0] ws) = seenS b bal ws := by
 unfold seenS mo
 simp only [moment_copy hv hl]
theorem climbs_in {l : List Int} {below : Int} (h : climbsS l below = 0) : ∀ x ∈ l, 0 ≤ x ∧ x < below := by
 intro x hx
 obtain ⟨i, hi, rfl⟩ := nth_ex hx
 have := getD_zero (e := climbE l below) (fun i => by
  unfold climbE
  split
  ·intro e; cases e
  ·split
   ·split
    ·intro e; cases e
    ·intro e; cases e
   ·intro e; cases e) h i hi
 unfold climbE at this
 split at this
 ·cases this
 ·rename_i hb
  have hb : btw (nth l i) 0 (below - 1) = true := by simpa using hb
  rw [btw_iff] at hb
  omega
def momentS (b : HullBook) (c : HullCase) (out : List Int) : Int × Int :=
 if chk b ≠ 0 then (0, chk b) else if caseH b c ≠ 0 then (0, caseH b c) else if climbsS out (b.Pieces.length : Int) ≠ 0 then (0, climbsS out (b.Pieces.length : Int)) else (moment b c.Ballast c.Weights out, 0)
theorem m50_eq {b : HullBook} (hs : Small b) {c : HullCase} {out : List Int} (hc : c.Weights.length ≤ 20) (ho : out.length ≤ 20) : m50 b c out = some (momentS b c out) := by
 unfold m50 momentS
 have hp := hs.pieces
 rw [m83_eq hs, Option.bind_some]
 by_cases h1 : chk b = 0
 ·have hv := valid_of hs h1
  obtain ⟨k, hk1, hk2⟩ := m131_eq (b := b) (c := c) (by omega)
  rw [hk1, m132_eq (by omega) (by omega) (by omega)]
  by_cases h2 : caseH b c = 0
  ·obtain ⟨hl, hf⟩ := case_ok hv h2
   have hkk := hk2 h2
   subst hkk
   by_cases h3 : climbsS out (b.Pieces.length : Int) = 0
   ·have hin : In5 out := fun x hx => by have := climbs_in h3 x hx; have := hv.n5; omega
    simp only [h1, h2, h3, bne_self_eq_false, sel_ff, Option.bind_some, ne_eq, not_true_eq_false, if_false, m93_nil hin (by omega), m104_eq hv (copy_fit hv hl hf), moment_copy hv hl]
   ·simp only [h1, h2, h3, bne_self_eq_false, sel_ff, Option.bind_some, ne_eq, not_true_eq_false, not_false_eq_true, if_true, if_false, ne_bne h3, sel_tt]
  ·simp only [h1, h2, bne_self_eq_false, sel_ff, Option.bind_some, ne_eq, not_true_eq_false, not_false_eq_true, if_true, if_false, ne_bne h2, sel_tt]
 ·simp only [h1, ne_eq, not_false_eq_true, if_true, ne_bne h1, sel_tt]
theorem m79_eq {b : HullBook} (hs : Small b) {c : HullCase} {out : List Int} (hc : c.Weights.length ≤ 20) (ho : out.length ≤ 20) : m79 b c out = some (momentS b c out) := by
 unfold m79 momentS
 have hp := hs.pieces
 rw [m61_eq hs, Option.bind_some, m142_eq (by omega), m66_eq (by omega) (by omega) (by omega)]
 by_cases h1 : chk b = 0
 ·have hv := valid_of hs h1
  by_cases h2 : caseH b c = 0
  ·obtain ⟨hl, hf⟩ := case_ok hv h2
   by_cases h3 : climbsS out (b.Pieces.length : Int) = 0
   ·have := m140_eq hv hf (out := out) (by omega)
    simp only [h1, h2, h3, bne_self_eq_false, sel_ff, Option.bind_some, ne_eq, not_true_eq_false, if_false]
    rw [show c = (⟨c.Ballast, c.Weights⟩ : HullCase) from rfl, this]
    rfl
   ·simp only [h1, h2, h3, bne_self_eq_false, sel_ff, Option.bind_some, ne_eq, not_true_eq_false, not_false_eq_true, if_true, if_false, ne_bne h3, sel_tt]
  ·simp only [h1, h2, bne_self_eq_false, sel_ff, Option.bind_some, ne_eq, not_true_eq_false, not_false_eq_true, if_true, if_false, ne_bne h2, sel_tt]
 ·simp only [h1, ne_eq, not_false_eq_true, if_true, ne_bne h1, sel_tt]
end Go.Proofs.YtabamagholjdcaaGreatDoor
