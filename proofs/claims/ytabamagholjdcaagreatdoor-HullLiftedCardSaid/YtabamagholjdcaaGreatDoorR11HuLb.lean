/- Plain laws of chapter 6, the rest. Conditions: none. -/
import Derived.Test.YtabamagholjdcaaGreatDoorR11HuL
import Derived.Test.YtabamagholjdcaaGreatDoorQHuC
namespace Go.Proofs.YtabamagholjdcaaGreatDoor
open Go.Lg Go.Proofs
set_option maxRecDepth 10000
set_option maxRecDepth 1000000 in
theorem int_len0 {n : Nat} : (((n : Nat) : Int) == 0) = (n == 0) := by
 rw [Bool.eq_iff_iff, beq_iff_eq, beq_iff_eq]
 omega
end Go.Proofs.YtabamagholjdcaaGreatDoor
namespace Go.Proofs.YtabamagholjdcaaGreatDoor
open Go.Lg Go.Proofs
set_option maxRecDepth 10000
def mom (b : HullBook) (c : HullCase) (out : List Int) : Int := moment b c.Ballast c.Weights out
theorem caseL_mem {b : HullBook} {c : HullCase} (h : c ∈ caseL b) : c.Weights ∈ allW b ∧ b.Ballast.Least ≤ c.Ballast ∧ c.Ballast ≤ b.Ballast.Most ∧ seenS b c.Ballast c.Weights = true := by
 simp only [caseL, List.mem_flatMap, List.mem_map, List.mem_filter] at h
 obtain ⟨n, hn, w, ⟨hw, hs⟩, rfl⟩ := h
 exact ⟨hw, (mem_rng.1 hn).1, (mem_rng.1 hn).2, hs⟩
theorem case_fit {b : HullBook} (hv : Valid b) {c : HullCase} (h : c ∈ caseL b) : c.Weights.length = b.Pieces.length ∧ Fitting b c.Ballast c.Weights := by
 obtain ⟨h1, h2, h3, _⟩ := caseL_mem h
 have hm := allW_mem h1
 have hb := hv.ballast
 exact ⟨hm.1, ⟨by omega, by omega, fun k hk => by
  have g1 := hm.2 k hk
  have g2 := (hv.each k hk).weight
  omega⟩⟩
theorem mom_bound {b : HullBook} (hv : Valid b) {c : HullCase} (h : c ∈ caseL b) (out : List Int) : -6000 ≤ mom b c out ∧ mom b c out ≤ 6000 := moment_bound hv (case_fit hv h).2
theorem m104_carg {b : HullBook} (hv : Valid b) {c : HullCase} (h : c ∈ caseL b) (out : List Int) : m104 b (carg c) (gset out) = some (mom b c out) := by
 obtain ⟨hl, hf⟩ := case_fit hv h
 unfold carg mom
 rw [m104_eq hv (copy_fit hv hl hf), moment_copy hv hl]
theorem mom_congr {b : HullBook} {c : HullCase} {out out' : List Int} (h : ∀ i : Nat, i < b.Pieces.length → out.contains (i : Int) = out'.contains (i : Int)) : mom b c out = mom b c out' := momS_congr _ (fun _ _ => rfl) h
set_option maxRecDepth 1000000 in
abbrev openB (b : HullBook) : Opened := ⟨b, (caseL b).map carg, []⟩
end Go.Proofs.YtabamagholjdcaaGreatDoor
namespace Go.Proofs.YtabamagholjdcaaGreatDoor
open Go.Lg Go.Proofs
set_option maxRecDepth 10000
def behL (b : HullBook) (o : List Int) : List (List Int) := (List.range o.length).map fun i => b.Out ++ o.take (i + 1)
theorem m151_of {b : HullBook} (hv : Valid b) {o : List Int} (ho : In5 o) (hl : o.length ≤ 1000) {S : Type} (ys : List Bool → S → Option (S × Bool)) {s : S} {r : S × Bool} (hr : foldY ys ((behL b o).map gset) s = some r) : m151 ys b o s = some r.1 := by
 unfold m151
 have hos := hv.small.out
 rw [m93_nil hv.in5 (by omega), Option.bind_some]
 have e0 : (s, (0 : Int), gset b.Out) = (s, (fun q : Nat => ((q : Int), gset (b.Out ++ o.take q))) 0) := by simp
 rw [e0]
 refine (loop_bind (loop_seg (ys := ys) (E := S) (fun s => s) (fun q : Nat => ((q : Int), gset (b.Out ++ o.take q))) (fun q => [gset (b.Out ++ o.take (q + 1))]) o.length (fun q s r hq hr => ?_) (fun s => ?_) (s := s) (r := r) ?_)).trans ?_
 rotate_right
 ·cases h2 : r.2 with
  | true => simp
  | false => simp
 ·have hx := ho _ (nth_mem hq)
  have h1 : In5 [nth o q] := fun x hx' => by simp at hx'; subst hx'; exact hx
  simp only [foldY] at hr
  obtain ⟨z, hz, hr⟩ := bnd hr
  have et : b.Out ++ o.take q ++ [nth o q] = b.Out ++ o.take (q + 1) := by
   rw [List.append_assoc, List.take_succ_eq_append_getElem hq]
   have := nth_of hq
   rw [List.getElem?_eq_getElem hq] at this
   rw [Option.some.inj this]
  simp only [dec_lt hq, sel_tt, idx_nat, nth_of hq, Option.bind_some, m93_eq h1 (by simp), et, hz, i64_succ (i := q) (by omega)]
  cases h2 : z.2 with
  | true => rw [h2, if_pos rfl] at hr; cases hr; simp [sel_ff]
  | false => rw [h2, if_neg (by simp)] at hr; cases hr; simp [sel_tt]
 ·simp only [dec_nlt, sel_ff]
 ·rw [← hr, flat_one]
  congr 1
  simp [behL, List.map_map]
theorem behL_lt {b : HullBook} {o : List Int} (hb : ∀ x ∈ b.Out, x < (b.Pieces.length : Int)) (ho : ∀ x ∈ o, x < (b.Pieces.length : Int)) : ∀ g ∈ behL b o, ∀ x ∈ g, x < (b.Pieces.length : Int) := fun g hg x hx => by
 simp only [behL, List.mem_map, List.mem_range] at hg
 obtain ⟨i, _, rfl⟩ := hg
 rcases List.mem_append.1 hx with h | h
 ·exact hb x h
 ·exact ho x (List.mem_of_mem_take h)
def IsP (b : HullBook) (o : List Int) : Prop := ∀ x ∈ o, 0 ≤ x ∧ x < (b.Pieces.length : Int)
theorem isP_in5 {b : HullBook} (hv : Valid b) {o : List Int} (h : IsP b o) : In5 o := fun x hx => by
 have := h x hx
 have := hv.n5
 omega
def left (b : HullBook) (out : List Int) : Nat := ((List.range b.Pieces.length).filter fun (i : Nat) => !out.contains (i : Int)).length
theorem mem_frees {b : HullBook} {out : List Int} {n : Int} : n ∈ freesS b out ↔ ∃ i : Nat, i < b.Pieces.length ∧ n = (i : Int) ∧ canLift b out (i : Int) = true := by
 simp only [freesS, List.mem_filterMap, List.mem_range]
 constructor
 ·rintro ⟨i, hi, h⟩
  split at h
  ·rename_i hc; cases h; exact ⟨i, hi, rfl, hc⟩
  ·cases h
 ·rintro ⟨i, hi, rfl, hc⟩
  exact ⟨i, hi, by rw [if_pos hc]⟩
theorem can_not {b : HullBook} {out : List Int} {p : Int} (h : canLift b out p = true) : out.contains p = false := by
 unfold canLift at h
 rw [Bool.and_eq_true] at h
 simpa using h.1
theorem filter_less {p q : Nat → Bool} {i : Nat} : ∀ l : List Nat, l.Nodup → i ∈ l → p i = true → q i = false → (∀ j, j ∈ l → j ≠ i → p j = q j) → (l.filter p).length = (l.filter q).length + 1
 | [], _, h, _, _, _ => by cases h
 | a :: l, hn, hm, hp, hq, he => by
  rw [List.nodup_cons] at hn
  by_cases ha : a = i
  ·subst ha
   have hl : l.filter p = l.filter q := List.filter_congr fun j hj => he j (by simp [hj]) (fun e => hn.1 (e ▸ hj))
   simp [List.filter_cons, hp, hq, hl]
  ·have hm' : i ∈ l := by
    rcases List.mem_cons.1 hm with h | h
    ·exact absurd h.symm ha
    ·exact h
   have ih := filter_less l hn.2 hm' hp hq (fun j hj => he j (by simp [hj]))
   have ea := he a (by simp) ha
   rw [List.filter_cons, List.filter_cons, ea]
   cases q a <;> simp [ih]
theorem left_snoc {b : HullBook} {out : List Int} {i : Nat} (hi : i < b.Pieces.length) (h : out.contains (i : Int) = false) : left b out = left b (out ++ [(i : Int)]) + 1 := by
 unfold left
 refine filter_less (i := i) _ List.nodup_range (List.mem_range.2 hi) (by rw [h]; rfl) ?_ fun j hj hne => ?_
 ·simp
 ·simp only [List.contains_eq_mem, List.mem_append, List.mem_singleton, Int.natCast_inj, hne, or_false]
theorem frees_some {b : HullBook} (hv : Valid b) {out : List Int} (h : freesS b out = []) : ∀ i : Nat, i < b.Pieces.length → out.contains (i : Int) = true := by
 have key : ∀ k, k ≤ b.Pieces.length → ∀ i : Nat, b.Pieces.length - k ≤ i → i < b.Pieces.length → out.contains (i : Int) = true := by
  intro k
  induction k with
  | zero => intro _ i h1 h2; omega
  | succ k ih =>
   intro hk i h1 h2
   by_cases hi : b.Pieces.length - k ≤ i
   ·exact ih (by omega) i hi h2
   ·cases hc : out.contains (i : Int) with
    | true => rfl
    | false =>
     have hcl : canLift b out (i : Int) = true := by
      unfold canLift
      rw [hc, Bool.not_false, Bool.true_and, List.all_eq_true]
      intro j hj
      have hj := List.mem_range.1 hj
      cases hr : restsOn b (i : Int) j with
      | false => simp
      | true =>
       unfold restsOn at hr
       have hon := climbs_in (hv.each j hj).on (i : Int) (by simpa using hr)
       rw [ih (by omega) j (by omega) hj]
       rfl
     have := mem_frees.2 ⟨i, h2, rfl, hcl⟩
     rw [h] at this
     cases this
 intro i hi
 exact key _ (Nat.le_refl _) i (by omega) hi
theorem lift_left {b : HullBook} : ∀ (t out : List Int), liftH b out t = 0 → left b out = left b (out ++ t) + t.length
 | [], out, _ => by simp
 | p :: t, out, h => by
  obtain ⟨h1, h2, _, h4⟩ := liftH_cons.1 h
  have hp := isPiece_iff.1 h1
  obtain ⟨i, rfl⟩ : ∃ i : Nat, p = (i : Int) := ⟨p.toNat, by omega⟩
  have := lift_left t _ h4
  have := left_snoc (b := b) (i := i) (by omega) h2
  rw [List.append_assoc, List.singleton_append] at *
  simp only [List.length_cons]
  omega
theorem left_nil (b : HullBook) : left b [] = b.Pieces.length := by
 unfold left
 rw [List.filter_eq_self.2 (by simp), List.length_range]
theorem left_all {b : HullBook} (hv : Valid b) {out : List Int} (h : freesS b out = []) : left b out = 0 := by
 have := frees_some hv h
 unfold left
 rw [List.filter_eq_nil_iff.2]
 ·rfl
 ·intro i hi
  rw [this i (List.mem_range.1 hi)]
  simp
structure Ord (b : HullBook) (o : List Int) : Prop where
 lift : liftH b b.Out o = 0
 len : b.Out.length + o.length = b.Pieces.length
theorem Ord.isP {b : HullBook} {o : List Int} (h : Ord b o) : IsP b o := fun x hx => by
 have := isPiece_iff.1 (lift_in h.lift x hx)
 omega
end Go.Proofs.YtabamagholjdcaaGreatDoor
namespace Go.Proofs.YtabamagholjdcaaGreatDoor
open Go.Lg Go.Proofs
set_option maxRecDepth 10000
def ownSafe (b : HullBook) (o : List Int) : Int := if liftH b b.Out o ≠ 0 then liftH b b.Out o else if b.Out.length + o.length ≠ b.Pieces.length then 2 else 0
theorem own_ord {b : HullBook} {o : List Int} : ownSafe b o = 0 ↔ Ord b o := by
 unfold ownSafe
 constructor
 ·intro h
  split at h
  ·rename_i h1; exact absurd h h1
  ·rename_i h1
   split at h
   ·cases h
   ·rename_i h2; exact ⟨by simpa using h1, by simpa using h2⟩
 ·rintro ⟨h1, h2⟩
  rw [if_neg (by simpa using h1), if_neg (by simpa using h2)]
theorem m98_eq {b : HullBook} (hs : Small b) (h1 : chk b = 0) {o : List Int} (hl : o.length ≤ 100) : m98 b o = some (ownSafe b o) := by
 have hv := valid_of hs h1
 have hos := hs.out
 have h5 := hv.n5
 unfold m98 ownSafe
 rw [m93_nil hv.in5 (by omega), Option.bind_some]
 obtain ⟨g, hg, _⟩ := m99_eq hs h5 hl b.Out
 rw [hg, Option.bind_some]
 by_cases h2 : liftH b b.Out o = 0
 ·simp only [h2, bne_self_eq_false, sel_ff, ne_eq, not_true_eq_false, if_false]
  rw [i64_ok (by omega) (by omega), show ((b.Out.length : Int) + (o.length : Int)) = ((b.Out.length + o.length : Nat) : Int) by omega, len_ne]
  by_cases h3 : b.Out.length + o.length = b.Pieces.length
  ·simp [h3, sel_ff]
  ·simp [h3, sel_tt]
 ·simp only [h2, ne_eq, not_false_eq_true, if_true, ne_bne h2, sel_tt]
def ynB : Bool → (Unit ⊕ Unit) × Bool
 | true => (.inl (), true)
 | false => (.inr (), false)
def safeC (b : HullBook) (o : List Int) (c : HullCase) : Bool := (behL b o).all fun g => !rollS b (mom b c g)
theorem m101_eq {b : HullBook} (hv : Valid b) {o : List Int} (ho : IsP b o) (hl : o.length ≤ 1000) {c : HullCase} (hc : c ∈ caseL b) : m101 (carg c) (openB b) o = some (safeC b o c) := by
 unfold m101 m102
 rw [Option.bind_some]
 dsimp only
 have key : ∀ l : List (List Int), foldY (runY fun (x : List Bool) (_ : Unit) => (m104 b (carg c) x).bind fun x41 => (m103 b x41).bind fun x42 => sel x42 (some (.inr ())) (some (.inl ()) : Option (Unit ⊕ Unit))) (l.map gset) (.inl ()) = some (ynB (l.all fun g => !rollS b (mom b c g))) := by
  intro l
  induction l with
  | nil => rfl
  | cons g l ih =>
   have hb := mom_bound hv hc g
   simp only [List.map_cons, foldY, runY, m104_carg hv hc, Option.bind_some, m103_eq (b := b) (m := mom b c g) (by omega) (by omega), List.all_cons]
   cases rollS b (mom b c g) with
   | true => rfl
   | false => simpa [sel_ff] using ih
 rw [m151_of hv (isP_in5 hv ho) hl _ (key _)]
 unfold safeC
 cases (behL b o).all fun g => !rollS b (mom b c g) <;> rfl
def howS (n all : Nat) : Int := if n = 0 then 2 else if n = all then 1 else 0
theorem m100_eq {b : HullBook} (hv : Valid b) {f : Cargo → Option Bool} {p : HullCase → Bool} (hf : ∀ c ∈ caseL b, f (carg c) = some (p c)) : m100 (openB b) f = some (howS ((caseL b).filter p).length (caseL b).length) := by
 unfold m100
 have hcl := caseL_len hv
 refine (loop_bind (o := (((caseL b).filter p).length : Int)) ?_).trans ?_
 ·have e0 : ((0 : Int), (0 : Int)) = (fun k : Nat => (((((caseL b).take k).filter p).length : Int), (k : Int))) 0 := rfl
  rw [e0]
  refine loop_for (fun k : Nat => (((((caseL b).take k).filter p).length : Int), (k : Int))) (caseL b).length (fun k hk => ?_) (by simp only [List.length_map, dec_nlt, sel_ff, List.take_length])
  have hc : (caseL b)[k] ∈ caseL b := List.getElem_mem hk
  have hfl : (((caseL b).take k).filter p).length ≤ k := Nat.le_trans (List.length_filter_le _ _) (by simp; omega)
  simp only [List.length_map, dec_lt hk, sel_tt, idx_nat, List.getElem?_map, List.getElem?_eq_getElem hk, Option.map_some, Option.bind_some, hf _ hc, i64_succ (i := k) (by omega), i64_succ (i := (((caseL b).take k).filter p).length) (by omega)]
  rw [List.take_succ_eq_append_getElem hk, List.filter_append, List.length_append]
  cases hp : p (caseL b)[k] with
  | true => simp [hp, sel_tt]
  | false => simp [hp, sel_ff]
 ·simp only [List.length_map]
  unfold howS
  by_cases h1 : ((caseL b).filter p).length = 0
  ·rw [if_pos h1, h1]; rfl
  ·rw [if_neg h1, int_len0, show (((caseL b).filter p).length == 0) = false by simpa using h1, sel_ff]
   by_cases h2 : ((caseL b).filter p).length = (caseL b).length
   ·rw [if_pos h2, h2, beq_self_eq_true, sel_tt]
   ·rw [if_neg h2, show ((((caseL b).filter p).length : Int) == ((caseL b).length : Int)) = false by simp; omega, sel_ff]
def safeS (b : HullBook) (o : List Int) : Int × Int :=
 if chk b ≠ 0 then (0, chk b) else if ownSafe b o ≠ 0 then (0, ownSafe b o) else if caseL b = [] then (0, 9) else (howS ((caseL b).filter (safeC b o)).length (caseL b).length, 0)
theorem m23_eq {b : HullBook} (hs : Small b) {o : List Int} (hl : o.length ≤ 100) : m23 b o = some (safeS b o) := by
 unfold m23 safeS
 rw [m89_eq hs (own := ownSafe b o) (fun h1 => m98_eq hs h1 hl), Option.bind_some]
 unfold openS
 by_cases h1 : chk b = 0
 ·have hv := valid_of hs h1
  simp only [h1, ne_eq, not_true_eq_false, if_false]
  by_cases h2 : ownSafe b o = 0
  ·simp only [h2, not_true_eq_false, if_false]
   by_cases h3 : caseL b = []
   ·rw [if_pos h3, if_pos h3]; rfl
   ·rw [if_neg h3, if_neg h3]
    simp only [bne_self_eq_false, sel_ff]
    rw [m100_eq hv fun c hc => m101_eq hv (own_ord.1 h2).isP (by omega) hc]
    rfl
  ·simp only [h2, not_false_eq_true, if_true, ne_bne h2, sel_tt]
 ·simp only [h1, ne_eq, not_false_eq_true, if_true, ne_bne h1, sel_tt]
theorem how_sure {α : Type} {p : α → Bool} {l : List α} (hne : l ≠ []) : (howS (l.filter p).length l.length == 1) = decide (∀ c ∈ l, p c = true) := by
 rw [Bool.eq_iff_iff, decide_eq_true_eq, beq_iff_eq]
 unfold howS
 have hlen : 0 < l.length := List.length_pos_iff.2 hne
 constructor
 ·intro h
  split at h
  ·cases h
  ·split at h
   ·rename_i h2
    intro c hc
    exact (List.filter_eq_self.1 (List.Sublist.eq_of_length (List.filter_sublist) h2)) c hc
   ·cases h
 ·intro h
  rw [List.filter_eq_self.2 h, if_neg (by omega), if_pos rfl]
theorem ord_len {b : HullBook} (hv : Valid b) {o : List Int} (h : Ord b o) : o.length ≤ 5 := by
 have := h.len
 have := hv.n5
 omega
end Go.Proofs.YtabamagholjdcaaGreatDoor
namespace Go.Proofs.YtabamagholjdcaaGreatDoor
open Go.Lg Go.Proofs
set_option maxRecDepth 10000
theorem liftH_app {b : HullBook} : ∀ (t u out : List Int), liftH b out t = 0 → liftH b (out ++ t) u = 0 → liftH b out (t ++ u) = 0
 | [], u, out, _, h => by simpa using h
 | p :: t, u, out, h1, h2 => by
  obtain ⟨g1, g2, g3, g4⟩ := liftH_cons.1 h1
  rw [List.cons_append]
  exact liftH_cons.2 ⟨g1, g2, g3, liftH_app t u _ g4 (by rw [← List.append_cons]; exact h2)⟩
theorem m54_eq {b : HullBook} (hs : Small b) (hv : Valid b) {l : List Int} (hl : Kind16 l) : ∃ o, m54 b l = some o ∧ Ord b o := by
 unfold m54
 have h5 := hv.n5
 have hos := hs.out
 rw [app_ok (by simp; omega), Option.bind_some, List.nil_append]
 have key : ∀ (k : Nat) (out : List Int), b.Out.length + out.length + k = b.Pieces.length → liftH b b.Out out = 0 → ∃ o, (loopM (fun (s74 : ((List Int) × (List Int))) =>
   sel (decide ((s74.2.length : Int) < (b.Pieces.length : Int)))
   ((m96 b s74.2).bind fun x108 =>
   sel ((x108.length : Int) == 0)
   (some (.inr (.inr s74.1)))
   ((m48 l (i64 (6 + (s74.1.length : Int)))).bind fun x114 =>
   (remM x114 (x108.length : Int)).bind fun x115 =>
   (idx x108 x115).bind fun x116 =>
   (appM s74.1 [x116]).bind fun x118 =>
   (appM s74.2 [x116]).bind fun x120 =>
   some (.inl (x118, x120))))
   (some (.inr (.inl s74.1)) : Option (((List Int) × (List Int)) ⊕ ((List Int) ⊕ (List Int))))) (out, b.Out ++ out)) = some (.inl o) ∧ Ord b o := by
  intro k
  induction k with
  | zero =>
   intro out hk hlo
   refine ⟨out, loopM_stop ?_, hlo, by omega⟩
   simp only [show decide (((b.Out ++ out).length : Int) < (b.Pieces.length : Int)) = false by simp; omega, sel_ff]
  | succ k ih =>
   intro out hk hlo
   have hfne : freesS b (b.Out ++ out) ≠ [] := fun hf => by
    have e1 := lift_left _ _ hv.out
    have e2 := lift_left _ _ hlo
    have e3 := left_all hv hf
    rw [left_nil, List.nil_append] at e1
    omega
   have hfl := frees_len b (b.Out ++ out)
   have hfp : 0 < (freesS b (b.Out ++ out)).length := List.length_pos_iff.2 hfne
   have hpk := pick_bound hl (6 + out.length)
   obtain ⟨q, hq⟩ : ∃ q : Nat, pickS l (6 + out.length) = (q : Int) := ⟨(pickS l (6 + out.length)).toNat, by omega⟩
   have hql : q % (freesS b (b.Out ++ out)).length < (freesS b (b.Out ++ out)).length := Nat.mod_lt _ hfp
   obtain ⟨i, hi, hn, hc⟩ := mem_frees.1 (nth_mem hql)
   have hlift : liftH b b.Out (out ++ [(i : Int)]) = 0 := liftH_app _ _ _ hlo (liftH_cons.2 ⟨isPiece_iff.2 (by omega), can_not hc, hc, rfl⟩)
   obtain ⟨o, ho, hord⟩ := ih (out ++ [(i : Int)]) (by simp; omega) hlift
   refine ⟨o, ?_, hord⟩
   rw [← ho]
   refine loopM_next ?_
   have e1 : i64 (6 + (out.length : Int)) = ((6 + out.length : Nat) : Int) := by rw [i64_ok (by omega) (by omega)]; omega
   have e2 : remM (q : Int) ((freesS b (b.Out ++ out)).length : Int) = some ((q % (freesS b (b.Out ++ out)).length : Nat) : Int) := by
    unfold remM
    rw [if_neg (by omega), Int.ofNat_tmod]
   simp only [show decide (((b.Out ++ out).length : Int) < (b.Pieces.length : Int)) = true by simp; omega, sel_tt, m96_eq hs (out := b.Out ++ out) (by simp; omega), Option.bind_some, int_len0, show ((freesS b (b.Out ++ out)).length == 0) = false by simp; omega, sel_ff, e1, m48_eq hl, hq, e2, idx_nat, nth_of hql, hn]
   rw [app_ok (by simp; omega), Option.bind_some, app_ok (by simp; omega), Option.bind_some, List.append_assoc]
 obtain ⟨o, ho, hord⟩ := key (b.Pieces.length - b.Out.length) [] (by
  have e1 := lift_left _ _ hv.out
  rw [left_nil, List.nil_append] at e1
  simp
  omega) rfl
 rw [List.append_nil] at ho
 refine ⟨o, ?_, hord⟩
 rw [loop_bind ho]
 rfl
end Go.Proofs.YtabamagholjdcaaGreatDoor
namespace Go.Proofs.YtabamagholjdcaaGreatDoor
open Go.Lg Go.Proofs
set_option maxRecDepth 10000
def allL : Nat → List (List Int)
 | 0 => [[]]
 | n + 1 => [] :: (List.range 5).flatMap fun (i : Nat) => (allL n).map ((i : Int) :: ·)
theorem mem_allL : ∀ (n : Nat) (l : List Int), l.length ≤ n → In5 l → l ∈ allL n
 | 0, l, h, _ => by
  have : l = [] := List.length_eq_zero_iff.1 (by omega)
  subst this
  simp [allL]
 | n + 1, [], _, _ => by simp [allL]
 | n + 1, a :: l, h, h5 => by
  have ha := h5 a (by simp)
  have ih := mem_allL n l (by simp only [List.length_cons] at h; omega) (fun x hx => h5 x (by simp [hx]))
  rw [allL]
  refine List.mem_cons_of_mem _ (List.mem_flatMap.2 ⟨a.toNat, List.mem_range.2 (by omega), List.mem_map.2 ⟨l, ih, ?_⟩⟩)
  rw [Int.toNat_of_nonneg ha.1]
def sortOk (l : List Int) : Bool := match c51 l with
 | some s => climbsS s 5 == 0 && decide (s.length ≤ 5) && (List.range 5).all fun (i : Nat) => s.contains (i : Int) == l.contains (i : Int)
 | none => false
set_option maxRecDepth 1000000 in
theorem sort_all : ((allL 5).all sortOk) = true := by decide +kernel
theorem climbs_less {l : List Int} {P : Int} (h : climbsS l 5 = 0) (hp : ∀ x ∈ l, x < P) (h5 : P ≤ 5) : climbsS l P = 0 := by
 have hin := climbs_in h
 unfold climbsS at h ⊢
 have hne : ∀ i, climbE l 5 i ≠ some 0 := fun i => by
  unfold climbE
  split
  ·intro e; cases e
  ·split
   ·split
    ·intro e; cases e
    ·intro e; cases e
   ·intro e; cases e
 have hall := getD_zero hne h
 rw [firstE_none.2 fun i _ hi => ?_]
 ·rfl
 ·have h1 := hall i (by omega)
  have hm := nth_mem (l := l) (i := i) (by omega)
  have h2 := hin _ hm
  have h3 := hp _ hm
  unfold climbE at h1 ⊢
  rw [if_neg (by rw [Bool.not_eq_false, btw_iff]; omega)] at h1
  rw [if_neg (by rw [Bool.not_eq_false, btw_iff]; omega)]
  exact h1
theorem m51_few {b : HullBook} (hv : Valid b) {l : List Int} (hl : l.length ≤ 5) (hp : IsP b l) : ∃ s, m51 l = some s ∧ climbsS s (b.Pieces.length : Int) = 0 ∧ s.length ≤ 5 ∧ ∀ i : Nat, i < 5 → s.contains (i : Int) = l.contains (i : Int) := by
 have h5 := hv.n5
 have h := sort_all
 rw [List.all_eq_true] at h
 have h := h l (mem_allL 5 l hl (isP_in5 hv hp))
 unfold sortOk at h
 cases hc : c51 l with
 | none => rw [hc] at h; cases h
 | some s =>
  rw [hc] at h
  simp only [Bool.and_eq_true, beq_iff_eq, decide_eq_true_eq, List.all_eq_true, List.mem_range] at h
  obtain ⟨⟨h1, h2⟩, h3⟩ := h
  refine ⟨s, le51 _ _ hc, climbs_less h1 (fun x hx => ?_) (by omega), h2, h3⟩
  have hx5 := climbs_in h1 x hx
  have h4 := h3 x.toNat (by omega)
  rw [Int.toNat_of_nonneg hx5.1] at h4
  have : l.contains x = true := by rw [← h4]; simpa using hx
  exact (hp x (by simpa using this)).2
def rollsS (b : HullBook) (out : List Int) : Int × Int :=
 if chk b ≠ 0 then (0, chk b) else if climbsS out (b.Pieces.length : Int) ≠ 0 then (0, climbsS out (b.Pieces.length : Int)) else if caseL b = [] then (0, 9) else (howS ((caseL b).filter fun c => rollS b (mom b c out)).length (caseL b).length, 0)
theorem m56_eq {b : HullBook} (hs : Small b) {out : List Int} (ho : out.length ≤ 100) : m56 b out = some (rollsS b out) := by
 have hp := hs.pieces
 unfold m56 rollsS m133
 rw [Option.bind_some, m89_eq hs (own := climbsS out (b.Pieces.length : Int)) (fun _ => by unfold m160; rw [m132_eq (by omega) (by omega) (by omega)]; rfl), Option.bind_some]
 unfold openS
 by_cases h1 : chk b = 0
 ·have hv := valid_of hs h1
  have h5 := hv.n5
  simp only [h1, ne_eq, not_true_eq_false, if_false]
  by_cases h2 : climbsS out (b.Pieces.length : Int) = 0
  ·simp only [h2, not_true_eq_false, if_false]
   by_cases h3 : caseL b = []
   ·rw [if_pos h3, if_pos h3]; rfl
   ·rw [if_neg h3, if_neg h3]
    simp only [bne_self_eq_false, sel_ff]
    have hin : In5 out := fun x hx => by have := climbs_in h2 x hx; omega
    rw [m100_eq hv (p := fun c => rollS b (mom b c out)) fun c hc => ?_]
    ·rfl
    ·have hb := mom_bound hv hc out
     unfold m134
     rw [m93_nil hin (by omega), Option.bind_some]
     dsimp only
     rw [m104_carg hv hc, Option.bind_some, m103_eq (b := b) (m := mom b c out) (by omega) (by omega)]
     rfl
  ·simp only [h2, not_false_eq_true, if_true, ne_bne h2, sel_tt]
 ·simp only [h1, ne_eq, not_false_eq_true, if_true, ne_bne h1, sel_tt]
end Go.Proofs.YtabamagholjdcaaGreatDoor
namespace Go.Proofs.YtabamagholjdcaaGreatDoor
open Go.Lg Go.Proofs
set_option maxRecDepth 10000
theorem eqReach_refl (x : Reach) : eqReach x x = true := by simp [eqReach]
theorem eqHeel_refl (x : HullHeel) : eqHullHeel x x = true := by simp [eqHullHeel]
theorem m37_refl {b : HullBook} (hp : b.Pieces.length ≤ 1000) (hh : b.Heels.length ≤ 1000) (ho : b.Out.length ≤ 1000) (hon : ∀ p ∈ b.Pieces, p.On.length ≤ 1000) : m37 b b = some true := by
 unfold m37
 simp only [bne_self_eq_false, eqReach_refl, sel_ff, m22_refl (l := b.Out) (by omega), Option.bind_some, beq_self_eq_true, Bool.not_true]
 rw [loop_bind (o := Sum.inl ()) ?_]
 ·rw [Sum.elim_inl, loop_bind (o := Sum.inl ()) ?_]
  ·rfl
  ·refine loop_for (fun i : Nat => (i : Int)) b.Heels.length (fun i hi => ?_) (by simp only [dec_nlt, sel_ff])
   simp only [dec_lt hi, sel_tt, idx_nat, nth_of hi, Option.bind_some, eqHeel_refl, beq_self_eq_true, Bool.not_true, sel_ff, i64_succ (i := i) (by omega)]
 ·refine loop_for (fun i : Nat => (i : Int)) b.Pieces.length (fun i hi => ?_) (by simp only [dec_nlt, sel_ff])
  have h3 := hon _ (nth_mem hi)
  simp only [dec_lt hi, sel_tt, idx_nat, nth_of hi, Option.bind_some, eqReach_refl, beq_self_eq_true, bne_self_eq_false, Bool.not_true, sel_ff, m22_refl (l := (nth b.Pieces i).On) (by omega), i64_succ (i := i) (by omega)]
theorem m37_small {b : HullBook} (hs : Small b) : m37 b b = some true := by
 have h1 := hs.pieces
 have h2 := hs.heels
 have h3 := hs.out
 exact m37_refl (by omega) (by omega) (by omega) fun p hp => by have := (hs.each p hp).2; omega
def noB : HullBook := ⟨0, ⟨0, 0⟩, [], [], []⟩
theorem m37_no : m37 noB noB = some true := m37_refl (by decide) (by decide) (by decide) (fun p hp => by cases hp)
def agreedS (b : HullBook) : HullBook × Int := if chk b ≠ 0 then (noB, chk b) else if caseL b = [] then (noB, 9) else (b, 0)
theorem set_self {α : Type} [Inhabited α] {l : List α} {i : Nat} (h : i < l.length) : l.set i (nth l i) = l := by
 apply List.ext_getElem?
 intro j
 rw [List.getElem?_set]
 by_cases hj : i = j
 ·subst hj
  rw [if_pos rfl, if_pos h, nth_of h]
 ·rw [if_neg hj]
theorem m118_eq {b : HullBook} (hs : Small b) : m118 b = some (agreedS b) := by
 unfold m118 agreedS
 rw [m83_eq hs, Option.bind_some]
 have h1 := hs.pieces
 have h2 := hs.heels
 have h3 := hs.out
 by_cases hc : chk b = 0
 ·have hv := valid_of hs hc
  simp only [hc, bne_self_eq_false, sel_ff, ne_eq, not_true_eq_false, if_false]
  rw [show (⟨b.Limit, ⟨b.Ballast.Least, b.Ballast.Most⟩, b.Pieces, b.Out, b.Heels⟩ : HullBook) = b from rfl, m112_eq hv, Option.bind_some]
  unfold hasC
  by_cases hn : caseL b = []
  ·rw [if_pos hn, hn]
   rfl
  ·rw [if_neg hn, show (caseL b).isEmpty = false by simpa using hn]
   simp only [Bool.not_false, Bool.not_true, sel_ff]
   unfold m122 m125 m117
   rw [app_ok (xs := []) (ys := b.Pieces) (by simp; omega), app_ok (xs := []) (ys := b.Out) (by simp; omega), app_ok (xs := []) (ys := b.Heels) (by simp; omega)]
   simp only [Option.bind_some, List.nil_append]
   rw [loop_bind (o := b.Pieces) ?_]
   refine loop_for (fun i : Nat => (b.Pieces, (i : Int))) b.Pieces.length (fun i hi => ?_) (by simp only [dec_nlt, sel_ff])
   have hon := (hs.each _ (nth_mem hi)).2
   simp only [dec_lt hi, sel_tt, idx_nat, nth_of hi, Option.bind_some, i64_succ (i := i) (by omega), Int.toNat_natCast]
   rw [app_ok (by simp; omega)]
   simp only [Option.bind_some, List.nil_append]
   rw [show (⟨(nth b.Pieces i).Name, (nth b.Pieces i).Arm, ⟨(nth b.Pieces i).Weight.Least, (nth b.Pieces i).Weight.Most⟩, (nth b.Pieces i).On⟩ : HullPiece) = nth b.Pieces i from rfl, set_self hi]
 ·simp only [hc, ne_eq, not_false_eq_true, if_true, ne_bne hc, sel_tt]
  rfl
def liftB (b : HullBook) (p : Int) : HullBook := ⟨b.Limit, ⟨b.Ballast.Least, b.Ballast.Most⟩, b.Pieces, b.Out ++ [p], b.Heels⟩
def liftS (b : HullBook) (p : Int) : HullBook × Int := if chk b ≠ 0 then (noB, chk b) else if liftH b b.Out [p] ≠ 0 then (noB, liftH b b.Out [p]) else agreedS (liftB b p)
theorem out_len {b : HullBook} (hv : Valid b) : b.Out.length ≤ 5 := by
 have e1 := lift_left _ _ hv.out
 have := hv.n5
 rw [left_nil, List.nil_append] at e1
 omega
theorem small_lift {b : HullBook} (hs : Small b) (hv : Valid b) (p : Int) : Small (liftB b p) := ⟨hs.pieces, by have := out_len hv; show (b.Out ++ [p]).length ≤ 20; simp; omega, hs.heels, hs.each⟩
theorem m40_eq {b : HullBook} (hs : Small b) (p : Int) : m40 b p = some (liftS b p) := by
 unfold m40 liftS
 rw [m83_eq hs, Option.bind_some]
 by_cases hc : chk b = 0
 ·have hv := valid_of hs hc
  have hol := out_len hv
  simp only [hc, bne_self_eq_false, sel_ff, ne_eq, not_true_eq_false, if_false]
  rw [m93_nil hv.in5 (by omega), Option.bind_some]
  obtain ⟨g, hg, _⟩ := m99_eq hs hv.n5 (l := [p]) (by simp) b.Out
  rw [show (⟨b.Limit, ⟨b.Ballast.Least, b.Ballast.Most⟩, b.Pieces, b.Out, b.Heels⟩ : HullBook) = b from rfl, hg, Option.bind_some]
  by_cases hl : liftH b b.Out [p] = 0
  ·simp only [hl, bne_self_eq_false, sel_ff, not_true_eq_false, if_false]
   unfold m125
   rw [app_ok (by simp; omega), Option.bind_some, Option.bind_some, List.nil_append, app_ok (by simp; omega), Option.bind_some, show (⟨b.Limit, ⟨b.Ballast.Least, b.Ballast.Most⟩, b.Pieces, b.Out ++ [p], b.Heels⟩ : HullBook) = liftB b p from rfl, m118_eq (small_lift hs hv p)]
   rfl
  ·simp only [hl, not_false_eq_true, if_true, ne_bne hl, sel_tt]
   rfl
 ·simp only [hc, ne_eq, not_false_eq_true, if_true, ne_bne hc, sel_tt]
  rfl
theorem m64_eq {b : HullBook} (hv : Valid b) (p : Int) : m64 b p = some (liftB b p) := by
 unfold m64
 have hol := out_len hv
 rw [app_ok (by simp; omega), Option.bind_some, List.nil_append, app_ok (by simp; omega)]
 rfl
theorem liftH_liftB (b : HullBook) (q : Int) : ∀ (l out : List Int), liftH (liftB b q) out l = liftH b out l
 | [], _ => rfl
 | p :: r, out => by
  unfold liftH
  rw [show liftE (liftB b q) out p = liftE b out p from rfl]
  cases liftE b out p with
  | some h => rfl
  | none => exact liftH_liftB b q r _
theorem momS_liftB (b : HullBook) (q bal : Int) (ws out : List Int) : ∀ n, momS (liftB b q) bal ws out n = momS b bal ws out n
 | 0 => rfl
 | n + 1 => by simp only [momS, momS_liftB b q bal ws out n]; rfl
theorem mom_liftB (b : HullBook) (q : Int) (c : HullCase) (out : List Int) : mom (liftB b q) c out = mom b c out := momS_liftB b q _ _ _ _
theorem sufL_liftB (b : HullBook) (q : Int) : ∀ j i, sufL (liftB b q) j i = sufL b j i
 | 0, _ => rfl
 | j + 1, i => by simp only [sufL, sufL_liftB b q j (i + 1)]; rfl
theorem chk_lift {b : HullBook} (hs : Small b) (h : chk b = 0) {p : Int} (hl : liftH b b.Out [p] = 0) : chk (liftB b p) = 0 := by
 have hv := valid_of hs h
 have e : chk (liftB b p) = if hullOk b = false then 1 else if piecesH b ≠ 0 then piecesH b else if outH (liftB b p) ≠ 0 then outH (liftB b p) else heelsH (liftB b p) := rfl
 have ho : outH (liftB b p) = 0 := by
  unfold outH
  rw [liftH_liftB]
  exact liftH_app _ _ _ hv.out hl
 rw [e, ho]
 unfold chk at h
 by_cases h1 : hullOk b = false
 ·rw [if_pos h1] at h; cases h
 rw [if_neg h1] at h ⊢
 by_cases h2 : piecesH b = 0
 ·rw [if_neg (by simpa using h2), if_neg (by simp)]
  unfold heelsH
  have h4 := hv.heels
  rw [if_neg (by show ¬ 4 < b.Heels.length; omega), firstE_none.2 (fun i _ hi => ?_)]
  ·rfl
  ·have hx := hv.heel _ (nth_mem (l := b.Heels) (i := i) (by simpa [liftB] using hi))
   unfold heelE
   rw [if_neg, if_neg]
   ·rw [Bool.not_eq_false, btw_iff]; exact hx.2.2
   ·rw [Bool.not_eq_false, btw_iff]
    refine ⟨hx.1, ?_⟩
    have e2 : ((liftB b p).Out.length : Int) = (b.Out.length : Int) + 1 := by simp [liftB]
    have e3 := hx.2.1
    rw [e2]
    show (nth b.Heels i).After ≤ _
    omega
 ·rw [if_pos (by simpa using h2)] at h; exact absurd h h2
theorem seen_lift {b : HullBook} (hv : Valid b) (p bal : Int) (ws : List Int) : seenS (liftB b p) bal ws = (seenS b bal ws && !rollS b (moment b bal ws (b.Out ++ [p]))) := by
 have hmo : ∀ n, n ≤ b.Out.length → mo (liftB b p) bal ws n = mo b bal ws n := fun n hn => by
  unfold mo moment
  rw [momS_liftB]
  show momS b bal ws ((b.Out ++ [p]).take n) _ = _
  rw [List.take_append_of_le_length hn]
  rfl
 have hlast : mo (liftB b p) bal ws (b.Out.length + 1) = moment b bal ws (b.Out ++ [p]) := by
  unfold mo moment
  rw [momS_liftB]
  show momS b bal ws ((b.Out ++ [p]).take (b.Out.length + 1)) _ = _
  rw [List.take_of_length_le (by simp)]
  rfl
 unfold seenS
 rw [show (liftB b p).Out.length = b.Out.length + 1 by simp [liftB], List.range_succ, List.all_append]
 have e1 : ((List.range (b.Out.length + 1)).all fun n => !rollS (liftB b p) (mo (liftB b p) bal ws n)) = (List.range (b.Out.length + 1)).all fun n => !rollS b (mo b bal ws n) := by
  rw [Bool.eq_iff_iff, List.all_eq_true, List.all_eq_true]
  refine forall_congr' fun n => forall_congr' fun hn => ?_
  rw [hmo n (by have := List.mem_range.1 hn; omega)]
  rfl
 have e2 : ((liftB b p).Heels.all fun x => sideS (mo (liftB b p) bal ws x.After.toNat) == x.Side) = b.Heels.all fun x => sideS (mo b bal ws x.After.toNat) == x.Side := by
  show (b.Heels.all fun x => sideS (mo (liftB b p) bal ws x.After.toNat) == x.Side) = _
  rw [Bool.eq_iff_iff, List.all_eq_true, List.all_eq_true]
  refine forall_congr' fun x => forall_congr' fun hx => ?_
  have := hv.heel x hx
  rw [hmo _ (by omega)]
 rw [e1, e2]
 simp only [List.all_cons, List.all_nil, Bool.and_true, hlast]
 rw [show rollS (liftB b p) = rollS b from rfl]
 cases (List.range (b.Out.length + 1)).all fun n => !rollS b (mo b bal ws n) <;> cases b.Heels.all fun x => sideS (mo b bal ws x.After.toNat) == x.Side <;> simp
theorem case_lift {b : HullBook} (hv : Valid b) (p : Int) : caseL (liftB b p) = (caseL b).filter fun c => !rollS b (mom b c (b.Out ++ [p])) := by
 unfold caseL
 rw [List.filter_flatMap]
 rw [show rng (liftB b p).Ballast = rng b.Ballast from rfl, show allW (liftB b p) = allW b from sufL_liftB b p _ _]
 congr 1
 funext n
 rw [List.filter_map, List.filter_filter]
 congr 1
 apply List.filter_congr
 intro w _
 rw [seen_lift hv, Bool.and_comm]
 rfl
end Go.Proofs.YtabamagholjdcaaGreatDoor
namespace Go.Proofs.YtabamagholjdcaaGreatDoor
open Go.Lg Go.Proofs
set_option maxRecDepth 10000
theorem how_one {n m : Nat} (hm : n < m) : (howS n m == 1) = false := by
 unfold howS
 rw [beq_eq_false_iff_ne]
 split
 ·decide
 ·rw [if_neg (by omega)]; decide
theorem filter_not {α : Type} (p : α → Bool) (l : List α) : (l.filter fun x => !p x).length + (l.filter p).length = l.length := by
 induction l with
 | nil => rfl
 | cons a l ih =>
  simp only [List.filter_cons, List.length_cons]
  cases p a <;> simp <;> omega
theorem how_two {n m : Nat} : (howS n m == 2) = decide (n = 0) := by
 unfold howS
 by_cases h : n = 0
 ·rw [if_pos h, decide_eq_true h]; rfl
 ·rw [if_neg h, decide_eq_false h]
  split <;> rfl
theorem case_safe {b : HullBook} (hv : Valid b) {n : Int} {t : List Int} (h : ∀ c ∈ caseL b, safeC b (n :: t) c = true) : caseL (liftB b n) = caseL b := by
 rw [case_lift hv, List.filter_eq_self]
 intro c hc
 have := h c hc
 unfold safeC at this
 rw [List.all_eq_true] at this
 refine this _ ?_
 simp only [behL, List.mem_map, List.mem_range]
 exact ⟨0, by simp, by simp⟩
theorem beh_lift {b : HullBook} {n : Int} {t g : List Int} (h : g ∈ behL (liftB b n) t) : g ∈ behL b (n :: t) := by
 simp only [behL, List.mem_map, List.mem_range] at h ⊢
 obtain ⟨i, hi, rfl⟩ := h
 exact ⟨i + 1, by simp; omega, by simp [liftB]⟩
theorem safe_rest {b : HullBook} (hv : Valid b) {n : Int} {t : List Int} (h : ∀ c ∈ caseL b, safeC b (n :: t) c = true) : ∀ c ∈ caseL (liftB b n), safeC (liftB b n) t c = true := by
 intro c hc
 rw [case_safe hv h] at hc
 have := h c hc
 unfold safeC at this ⊢
 rw [List.all_eq_true] at this ⊢
 intro g hg
 rw [mom_liftB]
 exact this g (beh_lift hg)
theorem ord_rest {b : HullBook} {n : Int} {t : List Int} (h : Ord b (n :: t)) : liftH b b.Out [n] = 0 ∧ Ord (liftB b n) t := by
 obtain ⟨g1, g2, g3, g4⟩ := liftH_cons.1 h.lift
 have := h.len
 exact ⟨liftH_cons.2 ⟨g1, g2, g3, rfl⟩, by rw [liftH_liftB]; exact g4, by simp [liftB] at this ⊢; omega⟩
theorem safe_ord {b : HullBook} (h1 : chk b = 0) (h3 : caseL b ≠ []) {o : List Int} (ho : Ord b o) : safeS b o = (howS ((caseL b).filter (safeC b o)).length (caseL b).length, 0) := by
 unfold safeS
 simp only [h1, own_ord.2 ho, ne_eq, not_true_eq_false, if_false, if_neg h3]
theorem cut_one {α : Type} {x : α} {l : List α} : cutM (x :: l) 1 ((x :: l).length : Int) = some l := by
 simp [cutM]
 omega
theorem law11 (b : HullBook) (l : List Int) (p : Nat) (hl : Kind16 l) (hp : p < 256) : m11 b l p = some true := by
 unfold m11
 rw [m42_eq, righted_ok, Option.bind_some]
 cases hg : great b with
 | true => rfl
 | false =>
 by_cases h1 : chk b = 0
 case neg =>
  have : (chk b == 0) = false := by simpa using h1
  rw [this]
  rfl
 have hs := great_small hg
 have hv := valid_of hs h1
 have h5 := hv.n5
 have hn1 := hv.n1
 have hos := out_len hv
 have hcl := caseL_len hv
 have hfl := frees_len b b.Out
 obtain ⟨o, ho54, hord⟩ := m54_eq hs hv hl
 have hol := ord_len hv hord
 have ep : i64 (p : Int) = (p : Int) := i64_ok (by omega) (by omega)
 have er : remM (p : Int) (b.Pieces.length : Int) = some ((p % b.Pieces.length : Nat) : Int) := by
  unfold remM
  rw [if_neg (by omega), Int.ofNat_tmod]
 have hk : p % b.Pieces.length < b.Pieces.length := Nat.mod_lt _ (by omega)
 generalize p % b.Pieces.length = k at hk er
 have hfree : freeS b = (freesS b b.Out, 0) := by unfold freeS; simp [h1]
 have hcases : casesS b = (((caseL b).length : Int), 0) := by unfold casesS; simp [h1]
 have htail : ∀ r : Int, (caseL b = [] → r = 9 ∨ r = 5 ∨ r = 7) → ((m23 b o).bind fun x232 =>
   sel (((caseL b).length : Int) == 0)
   ((((sel (x232.2 == 9) (sel (r == 9) (some true) (sel (r == 5) (some true) (sel (r == 7) (some true) (some false)))) (some false)) : Option Bool)).bind (fun (p243_0 : Bool) => some p243_0))
   ((((sel (x232.2 != 0) (some true) (sel (x232.1 != 1) (some true) (some ((o.length : Int) == 0)))) : Option Bool)).bind (fun (p258_0 : Bool) =>
   sel p258_0
   ((((sel (x232.2 == 0) (some true) (some false)) : Option Bool)).bind (fun (p268_0 : Bool) => some p268_0))
   ((idx o 0).bind fun x273 =>
   (m40 b x273).bind fun x274 =>
   (m44 x274.1).bind fun x275 =>
   (cutM o 1 (o.length : Int)).bind fun x276 =>
   (m23 x274.1 x276).bind fun x277 =>
   sel (x274.2 == 0) (sel (x275.2 == 0) (sel (x277.2 == 0) (sel (x275.1 == ((caseL b).length : Int)) (sel (x277.1 == 1) (some true) (some false)) (some false)) (some false)) (some false)) (some false))))) = some true := by
  intro r hr
  rw [m23_eq hs (by omega), Option.bind_some]
  by_cases h3 : caseL b = []
  ·have e9 : safeS b o = (0, 9) := by
    unfold safeS
    simp only [h1, own_ord.2 hord, ne_eq, not_true_eq_false, if_false, if_pos h3]
   rw [e9, h3]
   rcases hr h3 with rfl | rfl | rfl <;> rfl
  ·have hlen : (((caseL b).length : Int) == 0) = false := by
    have := List.length_pos_iff.2 h3
    simp; omega
   rw [safe_ord h1 h3 hord, hlen, sel_ff]
   simp only [bne_self_eq_false, sel_ff, beq_self_eq_true, sel_tt]
   by_cases hsafe : ∀ c ∈ caseL b, safeC b o c = true
   ·have e1 := how_sure (p := safeC b o) h3
    rw [decide_eq_true hsafe, beq_iff_eq] at e1
    rw [e1]
    cases o with
    | nil => rfl
    | cons n t =>
     obtain ⟨g1, g2⟩ := ord_rest hord
     have hc2 := chk_lift hs h1 g1
     have hs2 := small_lift hs hv n
     have hcs := case_safe hv hsafe
     have e2 := how_sure (p := safeC (liftB b n) t) (l := caseL (liftB b n)) (by rw [hcs]; exact h3)
     rw [decide_eq_true (safe_rest hv hsafe), beq_iff_eq] at e2
     have el : liftS b n = (liftB b n, 0) := by
      unfold liftS agreedS
      simp only [h1, g1, hc2, ne_eq, not_true_eq_false, if_false, hcs, h3]
     simp only [List.length_cons] at hol
     rw [show idx (n :: t) 0 = some n from rfl, cut_one]
     simp only [Option.bind_some, m40_eq hs, el, bne_self_eq_false, sel_ff, show (((n :: t).length : Int) == 0) = false by simp; omega, m44_eq hs2, m23_eq hs2 (o := t) (by omega)]
     rw [safe_ord hc2 (by rw [hcs]; exact h3) g2, e2, show casesS (liftB b n) = (((caseL b).length : Int), 0) by unfold casesS; rw [hcs]; simp [hc2]]
     simp only [beq_self_eq_true, sel_tt]
   ·have e1 := how_sure (p := safeC b o) h3
    rw [decide_eq_false hsafe] at e1
    rw [show (howS ((caseL b).filter (safeC b o)).length (caseL b).length != 1) = true by simpa using e1]
    rfl
 have hmem : ∀ c : Bool, canLift b b.Out (k : Int) = c → (freesS b b.Out).contains (k : Int) = c := fun c hc => by
  rw [← hc, Bool.eq_iff_iff]
  simp only [List.contains_iff_mem, mem_frees]
  constructor
  ·rintro ⟨i, _, hi, h⟩
   obtain rfl : k = i := by omega
   exact h
  ·intro h; exact ⟨k, hk, rfl, h⟩
 have hpi : isPieceS b (k : Int) = true := isPiece_iff.2 (by omega)
 simp only [h1, Bool.not_false, beq_self_eq_true, Bool.and_true, Bool.not_true, sel_ff, ep, er, m53_eq hs, m44_eq hs, m40_eq hs (k : Int), Option.bind_some, hfree, hcases, bne_self_eq_false, m47_eq (l := b.Out) (n := (k : Int)) (by omega), m47_eq (l := freesS b b.Out) (n := (k : Int)) (by omega), ho54]
 have hno : m37 noB (⟨0, ⟨0, 0⟩, [], [], []⟩ : HullBook) = some true := m37_no
 by_cases q1 : b.Out.contains (k : Int) = true
 ·have el : liftS b (k : Int) = (noB, 5) := by
   have : liftH b b.Out [(k : Int)] = 5 := by unfold liftH liftE; simp only [hpi, q1]; rfl
   unfold liftS
   simp only [h1, this, ne_eq, not_true_eq_false, if_false]
   rfl
  have hf := hmem false (by unfold canLift; rw [q1]; rfl)
  simp only [el, q1, hf, hno, beq_self_eq_true, Bool.not_true, sel_ff, sel_tt, Option.bind_some, show (true == false) = false from rfl, show ((5 : Int) != 0) = true from rfl, show ((5 : Int) == 0) = false from rfl, show ((7 : Int) != 0) = true from rfl, show ((7 : Int) == 0) = false from rfl, show ((9 : Int) != 0) = true from rfl, show ((9 : Int) == 0) = false from rfl, show ((7 : Int) == 5) = false from rfl, show ((9 : Int) == 5) = false from rfl, show ((9 : Int) == 7) = false from rfl, show (false == true) = false from rfl, show (false == false) = true from rfl, Sum.elim_inl]
  exact htail 5 (fun _ => .inr (.inl rfl))
 ·have q1 : b.Out.contains (k : Int) = false := by simpa using q1
  cases q2 : canLift b b.Out (k : Int) with
  | false =>
   have el : liftS b (k : Int) = (noB, 7) := by
    have : liftH b b.Out [(k : Int)] = 7 := by unfold liftH liftE; simp only [hpi, q1, q2]; rfl
    unfold liftS
    simp only [h1, this, ne_eq, not_true_eq_false, if_false]
    rfl
   have hf := hmem false q2
   simp only [el, q1, hf, hno, beq_self_eq_true, Bool.not_true, sel_ff, sel_tt, Option.bind_some, show (true == false) = false from rfl, show ((5 : Int) != 0) = true from rfl, show ((5 : Int) == 0) = false from rfl, show ((7 : Int) != 0) = true from rfl, show ((7 : Int) == 0) = false from rfl, show ((9 : Int) != 0) = true from rfl, show ((9 : Int) == 0) = false from rfl, show ((7 : Int) == 5) = false from rfl, show ((9 : Int) == 5) = false from rfl, show ((9 : Int) == 7) = false from rfl, show (false == true) = false from rfl, show (false == false) = true from rfl, Sum.elim_inl]
   exact htail 7 (fun _ => .inr (.inr rfl))
  | true =>
   have hf := hmem true q2
   have hlift : liftH b b.Out [(k : Int)] = 0 := liftH_cons.2 ⟨hpi, q1, q2, rfl⟩
   have hc2 := chk_lift hs h1 hlift
   have hs2 := small_lift hs hv (k : Int)
   have hcl2 := case_lift hv (k : Int)
   by_cases q3 : caseL (liftB b (k : Int)) = []
   ·have el : liftS b (k : Int) = (noB, 9) := by
     unfold liftS agreedS
     simp only [h1, hlift, hc2, ne_eq, not_true_eq_false, if_false, if_pos q3]
    simp only [el, q1, hf, hno, beq_self_eq_true, Bool.not_true, sel_ff, sel_tt, Option.bind_some, show (true == false) = false from rfl, show ((5 : Int) != 0) = true from rfl, show ((5 : Int) == 0) = false from rfl, show ((7 : Int) != 0) = true from rfl, show ((7 : Int) == 0) = false from rfl, show ((9 : Int) != 0) = true from rfl, show ((9 : Int) == 0) = false from rfl, show ((7 : Int) == 5) = false from rfl, show ((9 : Int) == 5) = false from rfl, show ((9 : Int) == 7) = false from rfl, show (false == true) = false from rfl, show (false == false) = true from rfl, Sum.elim_inl]
    exact htail 9 (fun _ => .inl rfl)
   ·have el : liftS b (k : Int) = (liftB b (k : Int), 0) := by
     unfold liftS agreedS
     simp only [h1, hlift, hc2, ne_eq, not_true_eq_false, if_false, if_neg q3]
    have h3 : caseL b ≠ [] := fun h => q3 (by rw [hcl2, h]; rfl)
    have hip : IsP b (b.Out ++ [(k : Int)]) := fun x hx => by
     rcases List.mem_append.1 hx with h | h
     ·have := isPiece_iff.1 (lift_in hv.out x h); omega
     ·simp at h; omega
    have e := lift_left _ _ hv.out
    have e' := left_snoc hk q1
    rw [left_nil, List.nil_append] at e
    obtain ⟨s, hs51, hs0, hsl, hsc⟩ := m51_few hv (l := b.Out ++ [(k : Int)]) (by simp; omega) hip
    have hroll : m56 b s = some (howS ((caseL b).filter fun c => rollS b (mom b c (b.Out ++ [(k : Int)]))).length (caseL b).length, 0) := by
     rw [m56_eq hs (by omega)]
     unfold rollsS
     simp only [h1, hs0, ne_eq, not_true_eq_false, if_false, if_neg h3]
     rw [show (fun c => rollS b (mom b c s)) = fun c => rollS b (mom b c (b.Out ++ [(k : Int)])) from funext fun c => by rw [mom_congr fun i hi => hsc i (by omega)]]
    have hsum := filter_not (fun c => rollS b (mom b c (b.Out ++ [(k : Int)]))) (caseL b)
    rw [← hcl2] at hsum
    have hpos := List.length_pos_iff.2 q3
    have hb1 : (m58 ((caseL (liftB b (k : Int))).length : Int) 1 ((caseL b).length : Int)) = some true := by
     rw [m58_eq]
     congr 1
     rw [btw_iff]
     omega
    have hc3 : casesS (liftB b (k : Int)) = (((caseL (liftB b (k : Int))).length : Int), 0) := by unfold casesS; simp [hc2]
    have hne2 : (howS ((caseL b).filter fun c => rollS b (mom b c (b.Out ++ [(k : Int)]))).length (caseL b).length == 2) = (((caseL (liftB b (k : Int))).length : Int) == ((caseL b).length : Int)) := by
     rw [how_two, Bool.eq_iff_iff, decide_eq_true_eq, beq_iff_eq]
     omega
    simp only [el, q1, hf, beq_self_eq_true, Bool.not_true, sel_ff, sel_tt, Option.bind_some, bne_self_eq_false, m44_eq hs2, hc3, show (((0 : Int) == 5) == false) = true from rfl, show ((0 : Int) == 5) = false from rfl, show (((0 : Int) == 7) == true) = false from rfl]
    rw [app_ok (by simp; omega), Option.bind_some, List.nil_append, app_ok (by simp; omega), Option.bind_some, hs51, Option.bind_some, hroll]
    simp only [Option.bind_some, bne_self_eq_false, sel_ff, hb1, Bool.not_true, how_one (show ((caseL b).filter fun c => rollS b (mom b c (b.Out ++ [(k : Int)]))).length < (caseL b).length by omega), hne2, beq_self_eq_true, m64_eq hv, m37_small hs2, Sum.elim_inl]
    exact htail 0 (fun h => absurd h h3)
end Go.Proofs.YtabamagholjdcaaGreatDoor
