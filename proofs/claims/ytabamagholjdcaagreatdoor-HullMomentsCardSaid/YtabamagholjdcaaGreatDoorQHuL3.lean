/- Plain laws of chapter 6, third part: what is out, what can be lifted, heels, the hitch of a book: the program and the specification agree. Conditions: books of the sizes that the statements consider. -/
import Derived.Test.YtabamagholjdcaaGreatDoorQHuL2
namespace Go.Proofs.YtabamagholjdcaaGreatDoor
open Go.Lg Go.Proofs
set_option maxRecDepth 10000
def gset (out : List Int) : List Bool := (List.range 5).map fun (i : Nat) => out.contains (i : Int)
theorem gset_nil : gset [] = [false, false, false, false, false] := rfl
def In5 (l : List Int) : Prop := ∀ x ∈ l, 0 ≤ x ∧ x < 5
theorem idx_gset (out : List Int) {p : Int} (h0 : 0 ≤ p) (h5 : p < 5) : idx (gset out) p = some (out.contains p) := by
 obtain ⟨k, rfl⟩ : ∃ k : Nat, p = (k : Int) := ⟨p.toNat, by omega⟩
 have hk : k < 5 := by omega
 rw [idx_nat]
 simp [gset, hk]
theorem gset_set (out : List Int) {p : Int} (h0 : 0 ≤ p) (h5 : p < 5) : (gset out).set p.toNat true = gset (out ++ [p]) := by
 obtain ⟨k, rfl⟩ : ∃ k : Nat, p = (k : Int) := ⟨p.toNat, by omega⟩
 have hk : k < 5 := by omega
 apply List.ext_getElem?
 intro i
 rw [Int.toNat_natCast, List.getElem?_set]
 by_cases hi : i < 5
 ·by_cases hik : k = i
  ·subst hik
   simp [gset, hk]
  ·have : ¬ (i : Int) = (k : Int) := by omega
   simp [gset, hi, hik, this]
 ·rw [if_neg (by omega)]
  simp [gset, hi]
theorem m93_eq {l out : List Int} (hl : In5 l) (hn : l.length ≤ 1000) : m93 (gset out) l = some (gset (out ++ l)) := by
 unfold m93
 refine (loop_bind (o := gset (out ++ l)) ?_).trans rfl
 have e0 : ((0 : Int), gset out) = (fun i : Nat => ((i : Int), gset (out ++ l.take i))) 0 := by simp
 rw [e0]
 refine loop_for (fun i : Nat => ((i : Int), gset (out ++ l.take i))) l.length (fun i hi => ?_) ?_
 ·obtain ⟨h0, h5⟩ := hl _ (nth_mem hi)
  simp only [dec_lt hi, sel_tt, idx_nat, nth_of hi, Option.bind_some, idx_gset _ h0 h5, gset_set _ h0 h5, i64_succ (i := i) (by omega)]
  rw [List.append_assoc, List.take_add_one, nth_of hi]
  rfl
 ·simp only [dec_nlt, sel_ff, List.take_length]
theorem m93_nil {l : List Int} (hl : In5 l) (hn : l.length ≤ 1000) : m93 [false, false, false, false, false] l = some (gset l) := by
 have := m93_eq (out := []) hl hn
 rwa [List.nil_append, gset_nil] at this
def restsOn (b : HullBook) (p : Int) (i : Nat) : Bool := (nth b.Pieces i).On.contains p
def canLift (b : HullBook) (out : List Int) (p : Int) : Bool := !out.contains p && (List.range b.Pieces.length).all fun (i : Nat) => out.contains (i : Int) || !restsOn b p i
theorem first_all (p : Nat → Bool) (n : Nat) : (firstE (fun i => if p i = true then some false else none) 0 n).getD true = (List.range n).all fun i => !p i := by
 cases h : firstE (fun i => if p i = true then some false else none) 0 n with
 | none =>
  rw [firstE_none] at h
  symm
  rw [Option.getD_none, List.all_eq_true]
  intro i hi
  have hi' : i < n := by simpa using hi
  have := h i (Nat.zero_le _) (by omega)
  simpa using this
 | some o =>
  obtain ⟨j, _, hj, he, _⟩ := firstE_some h
  split at he
  ·rename_i hp
   cases he
   symm
   rw [Option.getD_some, List.all_eq_false]
   exact ⟨j, by simp; omega, by simp [hp]⟩
  ·cases he
theorem m150_eq {b : HullBook} (h : Small b) {out : List Int} {p : Int} (ho : out.length ≤ 1000) : m150 b out p = some (canLift b out p) := by
 unfold m150 canLift
 have hp := h.pieces
 rw [m47_eq ho, Option.bind_some]
 cases out.contains p with
 | true => rfl
 | false =>
  rw [sel_ff, Bool.not_false, Bool.true_and]
  rw [search0 (fun i => if (!(out.contains (i : Int)) && restsOn b p i) = true then some false else none) b.Pieces.length (d := true) (fun i hi => ?_) (by simp only [dec_nlt, sel_ff]) rfl]
  ·rw [first_all]
   congr 1
   congr 1
   funext i
   cases out.contains (i : Int) <;> simp
  ·obtain ⟨_, hon⟩ := h.each _ (nth_mem hi)
   simp only [dec_lt hi, sel_tt, idx_nat, nth_of hi, Option.bind_some, m47_eq ho, m47_eq (l := (nth b.Pieces i).On) (n := p) (by omega), i64_succ (i := i) (by omega)]
   rw [show (nth b.Pieces i).On.contains p = restsOn b p i from rfl]
   cases out.contains (i : Int) with
   | true => rfl
   | false => cases restsOn b p i <;> rfl
theorem m166_eq {b : HullBook} (h : Small b) (p : Int) : m166 b p = some ((List.range b.Pieces.length).filterMap fun i => if restsOn b p i = true then some (i : Int) else none) := by
 unfold m166
 have hp := h.pieces
 rw [collect (fun i => if restsOn b p i = true then some (i : Int) else none) b.Pieces.length (fun i acc hi hacc => ?_) (fun acc => by simp only [dec_nlt, sel_ff])]
 ·rfl
 ·obtain ⟨_, hon⟩ := h.each _ (nth_mem hi)
  simp only [dec_lt hi, sel_tt, idx_nat, nth_of hi, Option.bind_some, m175_eq (l := (nth b.Pieces i).On) (n := p) (by omega), i64_succ (i := i) (by omega)]
  rw [show (nth b.Pieces i).On.contains p = restsOn b p i from rfl]
  cases restsOn b p i with
  | true => simp [app_ok (xs := acc) (ys := [(i : Int)]) (by simp; omega)]
  | false => simp
theorem m149_eq {b : HullBook} (h : Small b) (h5 : b.Pieces.length ≤ 5) {out : List Int} {p : Int} (hp0 : 0 ≤ p) (hp5 : p < 5) : m149 b (gset out) p = some (canLift b out p) := by
 unfold m149 canLift
 rw [idx_gset out hp0 hp5, Option.bind_some]
 cases out.contains p with
 | true => rfl
 | false =>
  rw [Bool.not_false, sel_tt, m166_eq h, Option.bind_some, m158_eq (p := fun n => !out.contains n) (l := (List.range b.Pieces.length).filterMap fun i => if restsOn b p i = true then some (i : Int) else none) (by
   have := List.length_filterMap_le (fun i => if restsOn b p i = true then some (i : Int) else none) (List.range b.Pieces.length)
   simp at this; omega) (fun x hx => ?_)]
  ·rw [Option.bind_some, Bool.true_and]
   congr 1
   rw [Bool.eq_iff_iff, Bool.not_eq_true', List.any_eq_false, List.all_eq_true]
   constructor
   ·intro hh i hi
    cases hr : restsOn b p i with
    | false => simp
    | true =>
     have := hh (i : Int) (List.mem_filterMap.2 ⟨i, hi, by rw [hr]; rfl⟩)
     simpa using this
   ·intro hh x hx
    obtain ⟨i, hi, hx⟩ := List.mem_filterMap.1 hx
    split at hx
    ·rename_i hr
     cases hx
     have := hh i hi
     rw [hr] at this
     simpa using this
    ·cases hx
  ·obtain ⟨i, hi, hx⟩ := List.mem_filterMap.1 hx
   have hi' : i < b.Pieces.length := by simpa using hi
   split at hx
   ·cases hx
    unfold m167
    rw [idx_gset out (by omega) (by omega)]; rfl
   ·cases hx
def isPieceS (b : HullBook) (p : Int) : Bool := btw p 0 ((b.Pieces.length : Int) - 1)
theorem m120_eq {b : HullBook} (h : Small b) (p : Int) : m120 b p = some (isPieceS b p) := by
 unfold m120 isPieceS
 have := h.pieces
 rw [m154_eq, i64_ok (by omega) (by omega)]; rfl
theorem m123_eq {b : HullBook} (h : Small b) (p : Int) : m123 b p = some (isPieceS b p) := by
 unfold m123 isPieceS
 have := h.pieces
 rw [m58_eq, i64_ok (by omega) (by omega)]; rfl
theorem isPiece_iff {b : HullBook} {p : Int} : isPieceS b p = true ↔ 0 ≤ p ∧ p < (b.Pieces.length : Int) := by
 simp only [isPieceS, btw, Bool.and_eq_true, decide_eq_true_eq]
 omega
def liftE (b : HullBook) (out : List Int) (p : Int) : Option Int :=
 if isPieceS b p = false then some 6 else if out.contains p = true then some 5 else if canLift b out p = false then some 7 else none
def liftH (b : HullBook) : List Int → List Int → Int
 | _, [] => 0
 | out, p :: r => match liftE b out p with | some h => h | none => liftH b (out ++ [p]) r
theorem m126_eq {b : HullBook} (h : Small b) {out l : List Int} (ho : out.length ≤ 100) (hl : l.length ≤ 100) : m126 b out l = some (liftH b out l) := by
 unfold m126
 rw [app_ok (by simp; omega), Option.bind_some, List.nil_append]
 have key : ∀ k, k ≤ l.length → ∀ acc : List Int, acc.length + k ≤ 400 → (loopM (fun (s90 : ((List Int) × Int)) =>
   sel (decide (s90.2 < (l.length : Int)))
   ((idx l s90.2).bind fun x136 =>
   (m123 b x136).bind fun x137 =>
   sel (!x137)
   (some (.inr (.inr 6)))
   ((idx l s90.2).bind fun x141 =>
   (m47 s90.1 x141).bind fun x142 =>
   sel x142
   (some (.inr (.inr 5)))
   ((idx l s90.2).bind fun x146 =>
   (m150 b s90.1 x146).bind fun x147 =>
   sel (!x147)
   (some (.inr (.inr 7)))
   ((idx l s90.2).bind fun x151 =>
   (appM s90.1 [x151]).bind fun x153 =>
   some (.inl (x153, i64 (s90.2 + 1)))))))
   (some (.inr (.inl ())))) (acc, ((l.length - k : Nat) : Int))).bind (Sum.elim (fun (_ : Unit) => some 0) (fun (q : Int) => some q)) = some (liftH b acc (l.drop (l.length - k))) := by
  intro k
  induction k with
  | zero =>
   intro _ acc _
   rw [Nat.sub_zero, List.drop_length, loopM_stop (o := .inl ()) (by simp only [dec_nlt, sel_ff])]
   rfl
  | succ k ih =>
   intro hk acc hacc
   have hi : l.length - (k + 1) < l.length := by omega
   have hd : l.drop (l.length - (k + 1)) = nth l (l.length - (k + 1)) :: l.drop (l.length - k) := by
    rw [List.drop_eq_getElem_cons hi, show l.length - (k + 1) + 1 = l.length - k by omega]
    congr 1
    have := nth_of hi
    rw [List.getElem?_eq_getElem hi] at this
    exact Option.some.inj this
   rw [hd]
   unfold liftH liftE
   have e123 := m123_eq h (nth l (l.length - (k + 1)))
   have e47 := m47_eq (l := acc) (n := nth l (l.length - (k + 1))) (by omega)
   have e150 := m150_eq h (out := acc) (p := nth l (l.length - (k + 1))) (by omega)
   cases h1 : isPieceS b (nth l (l.length - (k + 1))) with
   | false =>
    rw [loopM_stop (o := .inr 6) (by simp only [dec_lt hi, sel_tt, idx_nat, nth_of hi, Option.bind_some, e123, h1, Bool.not_false])]
    rfl
   | true =>
    cases h2 : acc.contains (nth l (l.length - (k + 1))) with
    | true =>
     rw [loopM_stop (o := .inr 5) (by simp only [dec_lt hi, sel_tt, sel_ff, idx_nat, nth_of hi, Option.bind_some, e123, h1, e47, h2, Bool.not_true])]
     rfl
    | false =>
     cases h3 : canLift b acc (nth l (l.length - (k + 1))) with
     | false =>
      rw [loopM_stop (o := .inr 7) (by simp only [dec_lt hi, sel_tt, sel_ff, idx_nat, nth_of hi, Option.bind_some, e123, h1, e47, h2, e150, h3, Bool.not_true, Bool.not_false])]
      rfl
     | true =>
      rw [loopM_next (s' := (acc ++ [nth l (l.length - (k + 1))], ((l.length - k : Nat) : Int))) (by
       simp only [dec_lt hi, sel_tt, sel_ff, idx_nat, nth_of hi, Option.bind_some, e123, h1, e47, h2, e150, h3, Bool.not_true, app_ok (xs := acc) (ys := [nth l (l.length - (k + 1))]) (by simp; omega), i64_succ (i := l.length - (k + 1)) (by omega), show l.length - (k + 1) + 1 = l.length - k by omega])]
      rw [ih (by omega) _ (by simp; omega)]
      rfl
 have := key l.length (Nat.le_refl _) out (by omega)
 rw [Nat.sub_self, List.drop_zero] at this
 exact this
theorem m99_eq {b : HullBook} (h : Small b) (h5 : b.Pieces.length ≤ 5) {l : List Int} (hl : l.length ≤ 100) : ∀ (out : List Int), ∃ g, m99 b (gset out) l = some (g, liftH b out l) ∧ (liftH b out l = 0 → g = gset (out ++ l) ∧ In5 l) := by
 unfold m99
 have key : ∀ k, k ≤ l.length → ∀ acc : List Int, ∃ g, (loopM (fun (s99 : (Int × (List Bool))) =>
   sel (decide (s99.1 < (l.length : Int)))
   ((idx l s99.1).bind fun x151 =>
   (m120 b x151).bind fun x152 =>
   sel (!x152)
   (some (.inr (.inr (s99.2, 6))))
   ((idx s99.2 x151).bind fun x160 =>
   sel x160
   (some (.inr (.inr (s99.2, 5))))
   ((m149 b s99.2 x151).bind fun x166 =>
   sel (!x166)
   (some (.inr (.inr (s99.2, 7))))
   ((m93 s99.2 [x151]).bind fun x171 =>
   some (.inl (i64 (s99.1 + 1), x171))))))
   (some (.inr (.inl s99.2)))) (((l.length - k : Nat) : Int), gset acc)).bind (Sum.elim (fun (p99_0 : (List Bool)) =>
   some (p99_0, 0)) (fun (q : (List Bool) × Int) => some q)) = some (g, liftH b acc (l.drop (l.length - k))) ∧ (liftH b acc (l.drop (l.length - k)) = 0 → g = gset (acc ++ l.drop (l.length - k)) ∧ In5 (l.drop (l.length - k))) := by
  intro k
  induction k with
  | zero =>
   intro _ acc
   refine ⟨gset acc, ?_, fun _ => ?_⟩
   ·rw [Nat.sub_zero, List.drop_length, loopM_stop (o := .inl (gset acc)) (by simp only [dec_nlt, sel_ff])]
    rfl
   ·rw [Nat.sub_zero, List.drop_length, List.append_nil]
    exact ⟨rfl, fun x hx => by cases hx⟩
  | succ k ih =>
   intro hk acc
   have hi : l.length - (k + 1) < l.length := by omega
   have hd : l.drop (l.length - (k + 1)) = nth l (l.length - (k + 1)) :: l.drop (l.length - k) := by
    rw [List.drop_eq_getElem_cons hi, show l.length - (k + 1) + 1 = l.length - k by omega]
    congr 1
    have := nth_of hi
    rw [List.getElem?_eq_getElem hi] at this
    exact Option.some.inj this
   rw [hd]
   unfold liftH liftE
   have e120 := m120_eq h (nth l (l.length - (k + 1)))
   cases h1 : isPieceS b (nth l (l.length - (k + 1))) with
   | false =>
    rw [loopM_stop (o := .inr (gset acc, 6)) (by simp only [dec_lt hi, sel_tt, idx_nat, nth_of hi, Option.bind_some, e120, h1, Bool.not_false])]
    exact ⟨_, rfl, fun e => by cases e⟩
   | true =>
    obtain ⟨g0, g1⟩ := isPiece_iff.1 h1
    have g5 : nth l (l.length - (k + 1)) < 5 := by omega
    have eidx := idx_gset acc g0 g5
    have e149 := m149_eq h h5 (out := acc) g0 g5
    cases h2 : acc.contains (nth l (l.length - (k + 1))) with
    | true =>
     rw [loopM_stop (o := .inr (gset acc, 5)) (by simp only [dec_lt hi, sel_tt, sel_ff, idx_nat, nth_of hi, Option.bind_some, e120, h1, eidx, h2, Bool.not_true])]
     exact ⟨_, rfl, fun e => by cases e⟩
    | false =>
     cases h3 : canLift b acc (nth l (l.length - (k + 1))) with
     | false =>
      rw [loopM_stop (o := .inr (gset acc, 7)) (by simp only [dec_lt hi, sel_tt, sel_ff, idx_nat, nth_of hi, Option.bind_some, e120, h1, eidx, h2, e149, h3, Bool.not_true, Bool.not_false])]
      exact ⟨_, rfl, fun e => by cases e⟩
     | true =>
      have e93 := m93_eq (out := acc) (l := [nth l (l.length - (k + 1))]) (fun x hx => by simp at hx; subst hx; exact ⟨g0, g5⟩) (by simp)
      rw [loopM_next (s' := (((l.length - k : Nat) : Int), gset (acc ++ [nth l (l.length - (k + 1))]))) (by
       simp only [dec_lt hi, sel_tt, sel_ff, idx_nat, nth_of hi, Option.bind_some, e120, h1, eidx, h2, e149, h3, e93, Bool.not_true, i64_succ (i := l.length - (k + 1)) (by omega), show l.length - (k + 1) + 1 = l.length - k by omega])]
      obtain ⟨g, hg1, hg2⟩ := ih (by omega) (acc ++ [nth l (l.length - (k + 1))])
      refine ⟨g, hg1, fun e => ?_⟩
      obtain ⟨k1, k2⟩ := hg2 e
      refine ⟨by rw [k1, List.append_assoc]; rfl, fun x hx => ?_⟩
      rcases List.mem_cons.1 hx with rfl | hx
      ·exact ⟨g0, g5⟩
      ·exact k2 x hx
 intro out
 have := key l.length (Nat.le_refl _) out
 rw [Nat.sub_self, List.drop_zero] at this
 exact this
def heelE (b : HullBook) (i : Nat) : Option Int := if btw (nth b.Heels i).After 0 (b.Out.length : Int) = false then some 6 else if btw (nth b.Heels i).Side 0 2 = false then some 1 else none
def heelsH (b : HullBook) : Int := if 4 < b.Heels.length then 2 else (firstE (heelE b) 0 b.Heels.length).getD 0
theorem m214_eq {b : HullBook} (h : Small b) : m214 b = some (heelsH b) := by
 unfold m214 heelsH
 have e3 : decide ((b.Heels.length : Int) > 4) = decide (4 < b.Heels.length) := dec_gt (m := 4)
 have hh := h.heels
 rw [e3]
 by_cases h4 : 4 < b.Heels.length
 ·simp [h4]
 simp only [h4, decide_false, sel_ff, if_false]
 refine search0 (heelE b) b.Heels.length (fun i hi => ?_) (by simp only [dec_nlt, sel_ff]) rfl
 simp only [dec_lt hi, sel_tt, idx_nat, nth_of hi, Option.bind_some, m154_eq, i64_succ (i := i) (by omega)]
 unfold heelE
 cases btw (nth b.Heels i).After 0 (b.Out.length : Int) with
 | false => rfl
 | true =>
  simp only [Bool.not_true, sel_ff, Bool.true_eq_false, if_false]
  generalize (nth b.Heels i).Side = s
  by_cases h0 : s = 0
  ·subst h0; rfl
  by_cases h1 : s = 1
  ·subst h1; rfl
  by_cases h2 : s = 2
  ·subst h2; rfl
  have : btw s 0 2 = false := by
   cases hb : btw s 0 2 with
   | false => rfl
   | true =>
    simp only [btw, Bool.and_eq_true, decide_eq_true_eq] at hb
    omega
  have e0 : (s == 0) = false := by simpa using h0
  have e1 : (s == 1) = false := by simpa using h1
  have e2 : (s == 2) = false := by simpa using h2
  rw [e0, e1, e2, this]
  rfl
def outH (b : HullBook) : Int := liftH b [] b.Out
def hullOk (b : HullBook) : Bool := btw b.Limit 0 9999 && (reachIn b.Ballast (-999) 999 && wideLt b.Ballast 3)
def chk (b : HullBook) : Int := if hullOk b = false then 1 else if piecesH b ≠ 0 then piecesH b else if outH b ≠ 0 then outH b else heelsH b
theorem m211_eq (b : HullBook) : m211 b = some (if hullOk b = false then 1 else 0) := by
 unfold m211 hullOk
 rw [m154_eq, Option.bind_some, m121_eq (by omega) (by omega)]
 cases btw b.Limit 0 9999 with
 | false => rfl
 | true => cases reachIn b.Ballast (-999) 999 && wideLt b.Ballast 3 <;> rfl
theorem pieces5 {b : HullBook} (h : piecesH b = 0) : 1 ≤ b.Pieces.length ∧ b.Pieces.length ≤ 5 := by
 unfold piecesH at h
 split at h
 ·cases h
 ·rename_i hb
  simp only [btw, Bool.and_eq_false_iff, decide_eq_false_iff_not, not_or, Decidable.not_not] at hb
  omega
theorem ne_bne {a : Int} (h : a ≠ 0) : (a != 0) = true := by simpa using h
theorem m213_eq {b : HullBook} (h : Small b) (h5 : b.Pieces.length ≤ 5) : m213 b = some (outH b) := by
 unfold m213
 have := h.out
 obtain ⟨g, hg, _⟩ := m99_eq h h5 (l := b.Out) (by omega) []
 rw [gset_nil] at hg
 rw [hg]; rfl
theorem m83_eq {b : HullBook} (h : Small b) : m83 b = some (chk b) := by
 unfold m83 chk
 rw [show (⟨b.Limit, ⟨b.Ballast.Least, b.Ballast.Most⟩, b.Pieces, b.Out, b.Heels⟩ : HullBook) = b from rfl, m211_eq, Option.bind_some]
 cases hullOk b with
 | false => rfl
 | true =>
  rw [if_neg (by decide), m212_eq h]
  by_cases hp : piecesH b = 0
  ·obtain ⟨_, h5⟩ := pieces5 hp
   rw [m213_eq h h5, m214_eq h]
   by_cases ho : outH b = 0
   ·by_cases hh : heelsH b = 0
    ·simp [hp, ho, hh]
    ·simp [hp, ho, ne_bne hh]
   ·simp [hp, ho, ne_bne ho]
  ·simp [hp, ne_bne hp]
theorem m61_eq {b : HullBook} (h : Small b) : m61 b = some (chk b) := by
 unfold m61 chk hullOk
 rw [m58_eq, Option.bind_some, m124_eq, m135_eq h, m126_eq h (by simp) (by have := h.out; omega)]
 cases btw b.Limit 0 9999 with
 | false => rfl
 | true =>
  cases hr : reachIn b.Ballast (-999) 999 with
  | false => rfl
  | true =>
   have hw : decide (i64 (b.Ballast.Most - b.Ballast.Least) ≥ 3) = !wideLt b.Ballast 3 := by
    rw [wide_i64 (w := 3) (by omega) (by omega) hr]
    unfold wideLt
    by_cases hx : b.Ballast.Most - b.Ballast.Least < 3
    ·simp [hx]
    ·simp [hx]; omega
   simp only [Bool.not_true, sel_ff, Option.bind_some, hw, Bool.true_and]
   cases wideLt b.Ballast 3 with
   | false => rfl
   | true =>
    simp only [Bool.not_true, sel_ff, Bool.true_eq_false, if_false]
    by_cases hp : piecesH b = 0
    ·by_cases ho : outH b = 0
     ·have ho' : liftH b [] b.Out = 0 := ho
      have e3 : decide ((b.Heels.length : Int) > 4) = decide (4 < b.Heels.length) := dec_gt (m := 4)
      have hh := h.heels
      simp only [hp, ho, ho', bne_self_eq_false, sel_ff, ne_eq, not_true_eq_false, if_false, e3]
      unfold heelsH
      by_cases h4 : 4 < b.Heels.length
      ·simp [h4]
      simp only [h4, decide_false, sel_ff, if_false]
      refine search0 (heelE b) b.Heels.length (fun i hi => ?_) (by simp only [dec_nlt, sel_ff]) rfl
      simp only [dec_lt hi, sel_tt, idx_nat, nth_of hi, Option.bind_some, m58_eq, i64_succ (i := i) (by omega)]
      unfold heelE
      cases btw (nth b.Heels i).After 0 (b.Out.length : Int) with
      | false => rfl
      | true => cases btw (nth b.Heels i).Side 0 2 <;> rfl
     ·have ho' : liftH b [] b.Out ≠ 0 := ho
      simp only [hp, bne_self_eq_false, sel_ff, ne_eq, not_true_eq_false, if_false, ne_bne ho', sel_tt]
      rw [if_pos ho]
      rfl
    ·simp [hp, ne_bne hp]
end Go.Proofs.YtabamagholjdcaaGreatDoor
