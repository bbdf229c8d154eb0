/- Plain laws of chapter 6, the rest. Conditions: none. -/
import Derived.Test.YtabamagholjdcaaGreatDoorR4HuL
import Derived.Test.YtabamagholjdcaaGreatDoorQAHuC
namespace Go.Proofs.YtabamagholjdcaaGreatDoor
open Go.Lg Go.Proofs
set_option maxRecDepth 10000
def kR (b : aq) (hs : List bW) : aq := ⟨b.aE, ⟨b.aa.an, b.aa.ax⟩, b.az, b.Out, hs⟩
theorem aCK (b : aq) (hs : List bW) : ∀ (l out : List Int), iZ (kR b hs) out l = iZ b out l
 | [], _ => rfl
 | p :: r, out => by
  unfold iZ
  rw [show Ek (kR b hs) out p = Ek b out p from rfl]
  cases Ek b out p with
  | some h => rfl
  | none => exact aCK b hs r _
theorem aB9 {b : aq} (h : Small b) {hs : List bW} (hl : hs.length ≤ 20) : Small (kR b hs) := ⟨h.pieces, h.out, hl, h.each⟩
theorem aCh {b : aq} (hs : Small b) (h : dg b = 0) {hl : List bW} (h4 : hl.length ≤ 4) (hm : ∀ x ∈ hl, x ∈ b.aO) : dg (kR b hl) = 0 := by
 have hv := tV hs h
 have e : dg (kR b hl) = if xk b = false then 1 else if nX b ≠ 0 then nX b else if we b ≠ 0 then we b else zH (kR b hl) := by
  unfold dg
  rw [show we (kR b hl) = we b from aCK b hl _ _]
  rfl
 rw [e]
 unfold dg at h
 by_cases h1 : xk b = false
 ·rw [if_pos h1] at h; cases h
 rw [if_neg h1] at h ⊢
 by_cases h2 : nX b = 0
 ·rw [if_neg (by simpa using h2)] at h ⊢
  by_cases h3 : we b = 0
  ·rw [if_neg (by simpa using h3)]
   unfold zH
   rw [if_neg (by show ¬ 4 < hl.length; omega), uv.2 (λ i _ hi => ?_)]
   ·rfl
   ·have hx := hv.ad4 _ (hm _ (jy (l := hl) (i := i) (by simpa [kR] using hi)))
    unfold vW
    rw [if_neg, if_neg]
    ·rw [Bool.not_eq_false, D9]; exact hx.2.2
    ·rw [Bool.not_eq_false, D9]; exact ⟨hx.1, hx.2.1⟩
  ·rw [if_pos (by simpa using h3)] at h; exact absurd h h3
 ·rw [if_pos (by simpa using h2)] at h; exact absurd h h2
theorem aRL {b : aq} : nZ b = true ↔ ∃ n ∈ p9 b.aa, ∃ w ∈ oT b, lK b n w = true := by
 unfold nZ
 rw [Bool.not_eq_true', List.isEmpty_eq_false_iff_exists_mem]
 simp only [de, List.mem_flatMap, List.mem_map, List.mem_filter]
 constructor
 ·rintro ⟨_, n, hn, w, ⟨hw, hs⟩, _⟩; exact ⟨n, hn, w, hw, hs⟩
 ·rintro ⟨n, hn, w, hw, hs⟩; exact ⟨_, n, hn, w, ⟨hw, hs⟩, rfl⟩
def cP (n a : Nat) : List Int := ((List.range n).filter λ i => a.testBit i).map λ (i : Nat) => (i : Int)
def kU (b : aq) (a : Nat) : List bW := ((List.range b.aO.length).filter λ i => a.testBit i).map λ i => nth b.aO i
def aCJ : List Int → List Int → Bool
 | [], [] => false
 | [], _ :: _ => true
 | _ :: _, [] => false
 | a :: l, c :: m => decide (a < c) || (a == c && aCJ l m)
def nU (l m : List Int) : Bool := decide (l.length < m.length) || (l.length == m.length && aCJ l m)
def okA (n a : Nat) : Bool :=
 od (cP n a) n == 0 && (((cP n a).length == 0) == (a == 0)) && (a == 0 || nU [] (cP n a)) && !nU (cP n a) (cP n a) && decide ((cP n a).length ≤ 4) &&
  ((List.range (cP n a).length).all λ i => match Yt (cP n a) i with | some l => (List.range (2 ^ n)).any λ c => l == cP n c && nU l (cP n a) | none => false) &&
  ((List.range n).all λ i => (tU .i64 a i).bind (λ x => wL .and .i64 x 1) == some (if a.testBit i then 1 else 0))
def okC (n a c : Nat) : Bool := aei (cP n a) (cP n c) == some (nU (cP n a) (cP n c)) && c67 (cP n a) (cP n c) == some (nU (cP n a) (cP n c)) &&
 ((List.range (2 ^ n)).all λ d => !(nU (cP n a) (cP n c) && nU (cP n c) (cP n d)) || nU (cP n a) (cP n d))
set_option maxRecDepth 1000000 in
theorem axY : ((List.range 5).all λ n => xZ .i64 1 n == some ((2 ^ n : Nat) : Int) && (List.range (2 ^ n)).all λ a => okA n a && (List.range (2 ^ n)).all λ c => okC n a c) = true := by decide +kernel
set_option maxRecDepth 1000000 in
theorem aNw {n : Nat} (h : n < 5) : xZ .i64 1 (n : Int) = some ((2 ^ n : Nat) : Int) := by
 have := axY
 simp only [List.all_eq_true, List.mem_range, Bool.and_eq_true, beq_iff_eq] at this
 exact (this n h).1
theorem Wo {n a : Nat} (h : n < 5) (ha : a < 2 ^ n) : od (cP n a) n = 0 ∧ ((cP n a).length = 0 ↔ a = 0) ∧ (a ≠ 0 → nU [] (cP n a) = true) ∧ nU (cP n a) (cP n a) = false ∧ (cP n a).length ≤ 4 ∧
  (∀ i, i < (cP n a).length → ∃ c, c < 2 ^ n ∧ BE (cP n a) i = some (cP n c) ∧ nU (cP n c) (cP n a) = true) ∧ ∀ i, i < n → (tU .i64 a i).bind (λ x => wL .and .i64 x 1) = some (if a.testBit i then 1 else 0) := by
 have := axY
 simp only [List.all_eq_true, List.mem_range, Bool.and_eq_true, beq_iff_eq] at this
 have h1 := ((this n h).2 a ha).1
 simp only [okA, Bool.and_eq_true, beq_iff_eq, List.all_eq_true, List.mem_range, Bool.or_eq_true, Bool.not_eq_true', decide_eq_true_eq] at h1
 obtain ⟨⟨⟨⟨⟨⟨h1, h2⟩, h3⟩, h4⟩, h5⟩, h6⟩, h7⟩ := h1
 refine ⟨h1, ?_, λ hne => h3.resolve_left hne, h4, h5, λ i hi => ?_, h7⟩
 ·rw [Bool.eq_iff_iff] at h2; simpa using h2
 ·have h8 := h6 i hi
  cases hc : Yt (cP n a) i with
  | none => rw [hc] at h8; cases h8
  | some l =>
   rw [hc] at h8
   simp only [List.any_eq_true, List.mem_range, Bool.and_eq_true, beq_iff_eq] at h8
   obtain ⟨c, cN, bz, bK⟩ := h8
   subst bz
   exact ⟨c, cN, aCI _ _ _ hc, bK⟩
theorem afG {n a c : Nat} (h : n < 5) (ha : a < 2 ^ n) (hc : c < 2 ^ n) : BA (cP n a) (cP n c) = some (nU (cP n a) (cP n c)) ∧ yI (cP n a) (cP n c) = some (nU (cP n a) (cP n c)) ∧
  ∀ d, d < 2 ^ n → nU (cP n a) (cP n c) = true → nU (cP n c) (cP n d) = true → nU (cP n a) (cP n d) = true := by
 have := axY
 simp only [List.all_eq_true, List.mem_range, Bool.and_eq_true, beq_iff_eq] at this
 have h1 := ((this n h).2 a ha).2 c hc
 simp only [okC, Bool.and_eq_true, beq_iff_eq, List.all_eq_true, List.mem_range, Bool.or_eq_true, Bool.not_eq_true'] at h1
 obtain ⟨⟨h1, h2⟩, h3⟩ := h1
 refine ⟨aCE _ _ _ h1, aCH _ _ _ h2, λ d hd g1 g2 => (h3 d hd).resolve_left λ hn => ?_⟩
 rw [g1, g2] at hn
 cases hn
theorem aBR (b : aq) (a : Nat) : ∀ x ∈ kU b a, x ∈ b.aO := by
 intro x hx
 simp only [kU, List.mem_map, List.mem_filter, List.mem_range] at hx
 obtain ⟨i, ⟨hi, _⟩, rfl⟩ := hx
 exact jy hi
theorem aBQ (b : aq) (a : Nat) : (kU b a).length ≤ b.aO.length := by
 unfold kU
 rw [List.length_map]
 exact Nat.le_trans (List.length_filter_le _ _) (by simp)
theorem aDN {b : aq} (hb : b.aO.length ≤ 4) (a : Nat) : tL b (cP b.aO.length a) = some (kR b (kU b a)) := by
 unfold tL
 have hl : (cP b.aO.length a).length ≤ 4 := by
  unfold cP
  rw [List.length_map]
  exact Nat.le_trans (Nat.le_trans (List.length_filter_le _ _) (by simp)) hb
 have e : kU b a = (cP b.aO.length a).map λ k => nth b.aO k.toNat := by
  unfold kU cP
  rw [List.map_map]
  rfl
 refine (lz (o := kU b a) ?_).trans rfl
 have e0 : ((0 : Int), ([] : List bW)) = (λ i : Nat => ((i : Int), ((cP b.aO.length a).take i).map λ k => nth b.aO k.toNat)) 0 := rfl
 rw [e0]
 refine qN (λ i : Nat => ((i : Int), ((cP b.aO.length a).take i).map λ k => nth b.aO k.toNat)) (cP b.aO.length a).length (λ i hi => ?_) ?_
 ·have hm := jy hi
  generalize hx : nth (cP b.aO.length a) i = x at hm
  have hm' := hm
  simp only [cP, List.mem_map, List.mem_filter, List.mem_range] at hm'
  obtain ⟨j, ⟨hj, _⟩, rfl⟩ := hm'
  simp only [dec_lt hi, cm, dD, cO hi, hx, cO hj, Option.bind_some, eo (i := i) (by omega)]
  rw [mU (by simp; omega), Option.bind_some, List.take_succ_eq_append_getElem hi, List.map_append]
  have h2 : (cP b.aO.length a)[i] = (j : Int) := by
   have := cO hi
   rw [List.getElem?_eq_getElem hi, hx] at this
   exact Option.some.inj this
  rw [h2]
  simp
 ·simp only [eR, bF, List.take_length, e]
def jz (b : aq) : List (List Int) := (List.range (2 ^ b.aO.length)).flatMap λ a => if nZ (kR b (kU b a)) = true then [] else [cP b.aO.length a]
theorem NK {b : aq} {l : List Int} : l ∈ jz b ↔ ∃ a, a < 2 ^ b.aO.length ∧ nZ (kR b (kU b a)) = false ∧ l = cP b.aO.length a := by
 simp only [jz, List.mem_flatMap, List.mem_range]
 constructor
 ·rintro ⟨a, ha, h⟩
  split at h
  ·cases h
  ·rename_i hc; exact ⟨a, ha, by simpa using hc, by simpa using h⟩
 ·rintro ⟨a, ha, hc, rfl⟩
  exact ⟨a, ha, by rw [if_neg (by simp [hc])]; simp⟩
def zk (l : List (List Int)) : Nat → List Int
 | 0 => nth l 0
 | i + 1 => if nU (nth l i) (zk l i) = true then nth l i else zk l i
theorem aKZ {n : Nat} : ∀ i, i < n → (2 ^ n - 1).testBit i = true := λ i hi => by rw [Nat.testBit_two_pow_sub_one]; simpa using hi
theorem aDs (b : aq) : kU b (2 ^ b.aO.length - 1) = b.aO := by
 unfold kU
 rw [List.filter_eq_self.2 (λ i hi => aKZ i (List.mem_range.1 hi))]
 refine aB6 (by simp) λ i hi => ?_
 rw [List.length_map, List.length_range] at hi
 have h1 := cO (l := (List.range b.aO.length).map λ i => nth b.aO i) (i := i) (by simpa using hi)
 simp only [List.getElem?_map, List.getElem?_range hi, Option.map_some, Option.some.injEq] at h1
 exact h1.symm
theorem aNu {n : Nat} (h : n < 5) : 2 ^ n ≤ 16 := by
 match n, h with
 | 0, _ => decide
 | 1, _ => decide
 | 2, _ => decide
 | 3, _ => decide
 | 4, _ => decide
structure aCX (b : aq) (l : List Int) (h : Int) : Prop where
 aCo : nZ b = true → l = [] ∧ h = 0
 odd : nZ b = false → ∃ a, a < 2 ^ b.aO.length ∧ l = cP b.aO.length a ∧ nZ (kR b (kU b a)) = false ∧ (∀ c, c < 2 ^ b.aO.length → nZ (kR b (kU b c)) = false → nU (cP b.aO.length c) l = false) ∧ h = if l.length = 0 then 8 else 0
theorem aMe {b : aq} (hs : Small b) (h1 : dg b = 0) : ∃ l h, tS b = some (l, h) ∧ aCX b l h := by
 have hv := tV hs h1
 have h4 := hv.yM
 have hp := aNu (n := b.aO.length) (by omega)
 unfold tS
 rw [VL hs, Option.bind_some, h1, aBY hv]
 simp only [bne_self_eq_false, bF, Option.bind_some]
 cases hc : nZ b with
 | true => exact ⟨[], 0, rfl, λ _ => ⟨rfl, rfl⟩, λ h => by rw [hc] at h; cases h⟩
 | false =>
 have hvm : ∀ a, Valid (kR b (kU b a)) := λ a => by
  have := aBQ b a
  exact tV (aB9 hs (by omega)) (aCh hs h1 (by omega) (aBR b a))
 have aLk : (2 ^ b.aO.length - 1) < 2 ^ b.aO.length := by have := Nat.two_pow_pos b.aO.length; omega
 have hin : cP b.aO.length (2 ^ b.aO.length - 1) ∈ jz b := NK.2 ⟨_, aLk, by rw [aDs]; exact hc, rfl⟩
 have hne : 0 < (jz b).length := List.length_pos_of_mem hin
 have Wf : (jz b).length ≤ 16 := by
  have key : ∀ l : List Nat, (l.flatMap λ a => if nZ (kR b (kU b a)) = true then [] else [cP b.aO.length a]).length ≤ l.length := by
   intro l
   induction l with
   | nil => simp
   | cons a l ih =>
    simp only [List.flatMap_cons, List.length_append, List.length_cons]
    split
    ·simp only [List.length_nil]; omega
    ·simp only [List.length_cons, List.length_nil]; omega
  have := key (List.range (2 ^ b.aO.length))
  rw [List.length_range] at this
  unfold jz
  omega
 have aCq : ∀ i, i ≤ (jz b).length → zk (jz b) i ∈ jz b ∧ ∀ j, j < i → nU (nth (jz b) j) (zk (jz b) i) = false := by
  intro i
  induction i with
  | zero => intro _; exact ⟨jy hne, λ j hj => by omega⟩
  | succ i ih =>
   intro hi
   obtain ⟨g1, g2⟩ := ih (by omega)
   obtain ⟨a, ha, _, ea⟩ := NK.1 g1
   obtain ⟨c, ZN, _, ec⟩ := NK.1 (jy (l := jz b) (i := i) (by omega))
   simp only [zk]
   by_cases hf : nU (nth (jz b) i) (zk (jz b) i) = true
   ·rw [if_pos hf]
    refine ⟨jy (by omega), λ j hj => ?_⟩
    by_cases hji : j = i
    ·subst hji; rw [ec]; exact (Wo (by omega) ZN).2.2.2.1
    ·cases hx : nU (nth (jz b) j) (nth (jz b) i) with
     | false => rfl
     | true =>
      obtain ⟨d, hd, _, ed⟩ := NK.1 (jy (l := jz b) (i := j) (by omega))
      have h3 := g2 j (by omega)
      rw [ec, ea] at hf
      rw [ec, ed] at hx
      rw [ed, ea, (afG (by omega) hd ZN).2.2 a ha hx hf] at h3
      cases h3
   ·rw [if_neg hf]
    refine ⟨g1, λ j hj => ?_⟩
    by_cases hji : j = i
    ·subst hji; simpa using hf
    ·exact g2 j (by omega)
 obtain ⟨g1, g2⟩ := aCq _ (Nat.le_refl _)
 obtain ⟨a, ha, hca, ea⟩ := NK.1 g1
 refine ⟨zk (jz b) (jz b).length, if (zk (jz b) (jz b).length).length = 0 then 8 else 0, ?_, ⟨λ h => (by rw [hc] at h; cases h), λ _ => ⟨a, ha, ea, hca, λ c fW mq => ?_, rfl⟩⟩⟩
 ·rw [bF, aNw (by omega), Option.bind_some]
  rw [lz (o := jz b) ?_]
  ·rw [show idx (jz b) 0 = some (nth (jz b) 0) from cO hne, Option.bind_some]
   rw [lz (o := zk (jz b) (jz b).length) ?_]
   ·by_cases hz : (zk (jz b) (jz b).length).length = 0
    ·rw [if_pos hz, show ((zk (jz b) (jz b).length).length : Int) == 0 from by simp [hz], cm, List.length_eq_zero_iff.1 hz]
    ·rw [if_neg hz, show (((zk (jz b) (jz b).length).length : Int) == 0) = false from by simpa using hz, bF]
   ·have e0 : (nth (jz b) 0, (0 : Int)) = (λ i : Nat => (zk (jz b) i, (i : Int))) 0 := rfl
    rw [e0]
    refine qN (λ i : Nat => (zk (jz b) i, (i : Int))) (jz b).length (λ i hi => ?_) (by simp only [eR, bF])
    obtain ⟨a, ha, _, ea⟩ := NK.1 (aCq i (by omega)).1
    obtain ⟨c, ZN, _, ec⟩ := NK.1 (jy hi)
    simp only [dec_lt hi, cm, dD, cO hi, Option.bind_some, eo (i := i) (by omega), zk]
    rw [ec, ea, (afG (by omega) ZN ha).1, Option.bind_some]
    cases nU (cP b.aO.length c) (cP b.aO.length a) <;> rfl
  ·have e0 : (([] : List (List Int)), (0 : Int)) = ([], (λ i : Nat => (i : Int)) 0) := rfl
   rw [e0, show jz b = [] ++ jz b from rfl]
   unfold jz
   refine Nu (λ i : Nat => (i : Int)) (λ a => if nZ (kR b (kU b a)) = true then [] else [cP b.aO.length a]) (2 ^ b.aO.length) 1 [] (λ a _ => by split <;> simp) (λ a l ha hl => ?_) (λ l => by simp only [eR, bF])
   have hb := (Wo (n := b.aO.length) (by omega) ha).2.2.2.2.2.2
   simp only [dec_lt ha, cm]
   rw [lz (o := (cP b.aO.length a, kU b a)) ?_]
   ·rw [show (⟨b.aE, ⟨b.aa.an, b.aa.ax⟩, b.az, b.Out, kU b a⟩ : aq) = kR b (kU b a) from rfl, aBY (hvm a), Option.bind_some, eo (i := a) (by omega)]
    cases nZ (kR b (kU b a)) with
    | true => simp [bF]
    | false =>
     simp only [List.length_nil] at hl
     simp only [Bool.not_false, cm]
     rw [mU (by simp; omega)]
     rfl
   ·have q0 : (([] : List Int), (0 : Int), ([] : List bW)) = (λ i : Nat => (((List.range i).filter λ i => a.testBit i).map (λ (i : Nat) => (i : Int)), (i : Int), ((List.range i).filter λ i => a.testBit i).map λ i => nth b.aO i)) 0 := rfl
    rw [q0]
    refine qN (λ i : Nat => (((List.range i).filter λ i => a.testBit i).map (λ (i : Nat) => (i : Int)), (i : Int), ((List.range i).filter λ i => a.testBit i).map λ i => nth b.aO i)) b.aO.length (λ i hi => ?_) (by simp only [eR, bF]; rfl)
    have hfl : ((List.range i).filter λ i => a.testBit i).length ≤ i := Nat.le_trans (List.length_filter_le _ _) (by simp)
    have hbi := hb i hi
    obtain ⟨x, hx, hbi⟩ := ao hbi
    simp only [dec_lt hi, cm, dD, cO hi, Option.bind_some, hx, hbi, eo (i := i) (by omega), List.range_succ, List.filter_append, List.map_append]
    cases ht : a.testBit i with
    | true =>
     simp only [if_true, beq_self_eq_true, cm]
     rw [mU (by simp; omega), Option.bind_some, mU (by simp; omega), Option.bind_some]
     simp [ht]
    | false => simp [ht, bF]
 ·obtain ⟨j, hj, ej⟩ := HB (NK.2 ⟨c, fW, mq, rfl⟩ : cP b.aO.length c ∈ jz b)
  rw [← ej]
  exact g2 j hj
theorem ad5 {b : aq} : ((de b).length == 0) = !nZ b := by
 unfold nZ
 cases de b <;> rfl
theorem abb {n : Nat} : (((n : Nat) : Int) == 0) = (n == 0) := by
 rw [Bool.eq_iff_iff, beq_iff_eq, beq_iff_eq]
 omega
theorem axX (n : Nat) : cP n 0 = [] := by simp [cP]
end Go.Proofs.YtabamagholjdcaaGreatDoor
namespace Go.Proofs.YtabamagholjdcaaGreatDoor
open Go.Lg Go.Proofs
set_option maxRecDepth 10000
theorem aKC {b : aq} {c : cB} (h : c ∈ de b) : c.fD ∈ oT b ∧ b.aa.an ≤ c.aa ∧ c.aa ≤ b.aa.ax ∧ lK b c.aa c.fD = true := by
 simp only [de, List.mem_flatMap, List.mem_map, List.mem_filter] at h
 obtain ⟨n, hn, w, ⟨hw, hs⟩, rfl⟩ := h
 exact ⟨hw, (ax0.1 hn).1, (ax0.1 hn).2, hs⟩
theorem aBK {b : aq} (hv : Valid b) {c : cB} (h : c ∈ de b) : c.fD.length = b.az.length ∧ vP b c.aa c.fD := by
 obtain ⟨h1, h2, h3, _⟩ := aKC h
 have hm := aCf h1
 have hb := hv.fB
 exact ⟨hm.1, ⟨by omega, by omega, λ k hk => by
  have g1 := hm.2 k hk
  have g2 := (hv.each k hk).weight
  omega⟩⟩
theorem afj {α : Type} (f : α → Int) : ∀ (l : List α) (w k : Int), l.foldl (λ w c => max w (f c)) w ≤ k ↔ w ≤ k ∧ ∀ c ∈ l, f c ≤ k
 | [], _, _ => by simp
 | a :: l, w, k => by
  rw [List.foldl_cons, afj f l]
  simp only [List.mem_cons, forall_eq_or_imp]
  rw [Int.max_le, and_assoc]
theorem aen {α : Type} (f : α → Int) : ∀ (l : List α) (w : Int), w ≤ l.foldl (λ w c => max w (f c)) w
 | [], _ => Int.le_refl _
 | a :: l, w => by
  rw [List.foldl_cons]
  have := aen f l (max w (f a))
  omega
end Go.Proofs.YtabamagholjdcaaGreatDoor
namespace Go.Proofs.YtabamagholjdcaaGreatDoor
open Go.Lg Go.Proofs
set_option maxRecDepth 10000
def left (b : aq) (out : List Int) : Nat := ((List.range b.az.length).filter λ (i : Nat) => !out.contains (i : Int)).length
theorem aCn {p q : Nat → Bool} {i : Nat} : ∀ l : List Nat, l.Nodup → i ∈ l → p i = true → q i = false → (∀ j, j ∈ l → j ≠ i → p j = q j) → (l.filter p).length = (l.filter q).length + 1
 | [], _, h, _, _, _ => by cases h
 | a :: l, hn, hm, hp, hq, he => by
  rw [List.nodup_cons] at hn
  by_cases ha : a = i
  ·subst ha
   have hl : l.filter p = l.filter q := List.filter_congr λ j hj => he j (by simp [hj]) (λ e => hn.1 (e ▸ hj))
   simp [List.filter_cons, hp, hq, hl]
  ·have hm' : i ∈ l := by
    rcases List.mem_cons.1 hm with h | h
    ·exact absurd h.symm ha
    ·exact h
   have ih := aCn l hn.2 hm' hp hq (λ j hj => he j (by simp [hj]))
   have ea := he a (by simp) ha
   rw [List.filter_cons, List.filter_cons, ea]
   cases q a <;> simp [ih]
theorem afm {b : aq} {out : List Int} {i : Nat} (hi : i < b.az.length) (h : out.contains (i : Int) = false) : left b out = left b (out ++ [(i : Int)]) + 1 := by
 unfold left
 refine aCn (i := i) _ List.nodup_range (List.mem_range.2 hi) (by rw [h]; rfl) ?_ λ j hj hne => ?_
 ·simp
 ·simp only [List.contains_eq_mem, List.mem_append, List.mem_singleton, Int.natCast_inj, hne, or_false]
theorem aeQ {b : aq} : ∀ (t out : List Int), iZ b out t = 0 → left b out = left b (out ++ t) + t.length
 | [], out, _ => by simp
 | p :: t, out, h => by
  obtain ⟨h1, h2, _, h4⟩ := afn.1 h
  have hp := Ns.1 h1
  obtain ⟨i, rfl⟩ : ∃ i : Nat, p = (i : Int) := ⟨p.toNat, by omega⟩
  have := aeQ t _ h4
  have := afm (b := b) (i := i) (by omega) h2
  rw [List.append_assoc, List.singleton_append] at *
  simp only [List.length_cons]
  omega
theorem aBW (b : aq) : left b [] = b.az.length := by
 unfold left
 rw [List.filter_eq_self.2 (by simp), List.length_range]
end Go.Proofs.YtabamagholjdcaaGreatDoor
namespace Go.Proofs.YtabamagholjdcaaGreatDoor
open Go.Lg Go.Proofs
set_option maxRecDepth 10000
theorem aB3 (b : aq) : mY b = some 0 := rfl
end Go.Proofs.YtabamagholjdcaaGreatDoor
namespace Go.Proofs.YtabamagholjdcaaGreatDoor
open Go.Lg Go.Proofs
set_option maxRecDepth 10000
theorem aRC (x : Reach) : Ea x x = true := by simp [Ea]
theorem aSZ (x : bW) : VQ x x = true := by simp [VQ]
theorem aR6 {b : aq} (hp : b.az.length ≤ 1000) (hh : b.aO.length ≤ 1000) (ho : b.Out.length ≤ 1000) (Z7 : ∀ p ∈ b.az, p.On.length ≤ 1000) : AW b b = some true := by
 unfold AW
 simp only [bne_self_eq_false, aRC, bF, axJ (l := b.Out) (by omega), Option.bind_some, beq_self_eq_true, Bool.not_true]
 rw [lz (o := Sum.inl ()) ?_]
 ·rw [Sum.elim_inl, lz (o := Sum.inl ()) ?_]
  ·rfl
  ·refine qN (λ i : Nat => (i : Int)) b.aO.length (λ i hi => ?_) (by simp only [eR, bF])
   simp only [dec_lt hi, cm, dD, cO hi, Option.bind_some, aSZ, beq_self_eq_true, Bool.not_true, bF, eo (i := i) (by omega)]
 ·refine qN (λ i : Nat => (i : Int)) b.az.length (λ i hi => ?_) (by simp only [eR, bF])
  have h3 := Z7 _ (jy hi)
  simp only [dec_lt hi, cm, dD, cO hi, Option.bind_some, aRC, beq_self_eq_true, bne_self_eq_false, Bool.not_true, bF, axJ (l := (nth b.az i).On) (by omega), eo (i := i) (by omega)]
theorem aUA {b : aq} (hs : Small b) : AW b b = some true := by
 have h1 := hs.pieces
 have h2 := hs.yM
 have h3 := hs.out
 exact aR6 (by omega) (by omega) (by omega) λ p hp => by have := (hs.each p hp).2; omega
def noB : aq := ⟨0, ⟨0, 0⟩, [], [], []⟩
theorem aeV : AW noB noB = some true := aR6 (by decide) (by decide) (by decide) (λ p hp => by cases hp)
def adV (b : aq) : aq × Int := if dg b ≠ 0 then (noB, dg b) else if de b = [] then (noB, 9) else (b, 0)
theorem aUZ {α : Type} [Inhabited α] {l : List α} {i : Nat} (h : i < l.length) : l.set i (nth l i) = l := by
 apply List.ext_getElem?
 intro j
 rw [List.getElem?_set]
 by_cases hj : i = j
 ·subst hj
  rw [if_pos rfl, if_pos h, cO h]
 ·rw [if_neg hj]
theorem aL7 {b : aq} (hs : Small b) : yt b = some (adV b) := by
 unfold yt adV
 rw [VL hs, Option.bind_some]
 have h1 := hs.pieces
 have h2 := hs.yM
 have h3 := hs.out
 by_cases hc : dg b = 0
 ·have hv := tV hs hc
  simp only [hc, bne_self_eq_false, bF, ne_eq, not_true_eq_false, if_false]
  rw [show (⟨b.aE, ⟨b.aa.an, b.aa.ax⟩, b.az, b.Out, b.aO⟩ : aq) = b from rfl, aBY hv, Option.bind_some]
  unfold nZ
  by_cases hn : de b = []
  ·rw [if_pos hn, hn]
   rfl
  ·rw [if_neg hn, show (de b).isEmpty = false by simpa using hn]
   simp only [Bool.not_false, Bool.not_true, bF]
   unfold yu rH yq
   rw [mU (xs := []) (ys := b.az) (by simp; omega), mU (xs := []) (ys := b.Out) (by simp; omega), mU (xs := []) (ys := b.aO) (by simp; omega)]
   simp only [Option.bind_some, List.nil_append]
   rw [lz (o := b.az) ?_]
   refine qN (λ i : Nat => (b.az, (i : Int))) b.az.length (λ i hi => ?_) (by simp only [eR, bF])
   have Z7 := (hs.each _ (jy hi)).2
   simp only [dec_lt hi, cm, dD, cO hi, Option.bind_some, eo (i := i) (by omega), Int.toNat_natCast]
   rw [mU (by simp; omega)]
   simp only [Option.bind_some, List.nil_append]
   rw [show (⟨(nth b.az i).Name, (nth b.az i).dz, ⟨(nth b.az i).Weight.an, (nth b.az i).Weight.ax⟩, (nth b.az i).On⟩ : cG) = nth b.az i from rfl, aUZ hi]
 ·simp only [hc, ne_eq, not_false_eq_true, if_true, mK hc, cm]
  rfl
theorem aL8 {b : aq} (hs : Small b) : Ee b = some (adV b) := by
 unfold Ee adV
 rw [aeX hs, Option.bind_some]
 unfold NW
 by_cases hc : dg b = 0
 ·simp only [hc, ne_eq, not_true_eq_false, if_false]
  by_cases hn : de b = []
  ·simp only [if_pos hn]
   rfl
  ·simp only [if_neg hn, bne_self_eq_false, bF]
 ·simp only [hc, ne_eq, not_false_eq_true, if_true, mK hc, cm]
  rfl
def aDC (b : aq) (p : Int) : aq := ⟨b.aE, ⟨b.aa.an, b.aa.ax⟩, b.az, b.Out ++ [p], b.aO⟩
def awz (b : aq) (p : Int) : aq × Int := if dg b ≠ 0 then (noB, dg b) else if iZ b b.Out [p] ≠ 0 then (noB, iZ b b.Out [p]) else adV (aDC b p)
theorem afH {b : aq} (hv : Valid b) : b.Out.length ≤ 5 := by
 have e1 := aeQ _ _ hv.out
 have := hv.n5
 rw [aBW, List.nil_append] at e1
 omega
theorem aNy {b : aq} (hs : Small b) (hv : Valid b) (p : Int) : Small (aDC b p) := ⟨hs.pieces, by have := afH hv; show (b.Out ++ [p]).length ≤ 20; simp; omega, hs.yM, hs.each⟩
theorem aUF {b : aq} (hs : Small b) (p : Int) : vZ b p = some (awz b p) := by
 unfold vZ awz
 rw [VL hs, Option.bind_some]
 by_cases hc : dg b = 0
 ·have hv := tV hs hc
  have Wf := afH hv
  simp only [hc, bne_self_eq_false, bF, ne_eq, not_true_eq_false, if_false]
  rw [Wm hv.in5 (by omega), Option.bind_some]
  obtain ⟨g, hg, _⟩ := aeY hs hv.n5 (l := [p]) (by simp) b.Out
  rw [show (⟨b.aE, ⟨b.aa.an, b.aa.ax⟩, b.az, b.Out, b.aO⟩ : aq) = b from rfl, hg, Option.bind_some]
  by_cases hl : iZ b b.Out [p] = 0
  ·simp only [hl, bne_self_eq_false, bF, not_true_eq_false, if_false]
   unfold rH
   rw [mU (by simp; omega), Option.bind_some, Option.bind_some, List.nil_append, mU (by simp; omega), Option.bind_some, show (⟨b.aE, ⟨b.aa.an, b.aa.ax⟩, b.az, b.Out ++ [p], b.aO⟩ : aq) = aDC b p from rfl, aL7 (aNy hs hv p)]
   rfl
  ·simp only [hl, not_false_eq_true, if_true, mK hl, cm]
   rfl
 ·simp only [hc, ne_eq, not_false_eq_true, if_true, mK hc, cm]
  rfl
theorem aUL {b : aq} (hv : Valid b) (p : Int) : m64 b p = some (aDC b p) := by
 unfold m64
 have Wf := afH hv
 rw [mU (by simp; omega), Option.bind_some, List.nil_append, mU (by simp; omega)]
 rfl
theorem aUG {b : aq} (hs : Small b) (p : Int) : NI b p = some (awz b p) := by
 unfold NI awz
 rw [V0 hs, Option.bind_some]
 by_cases hc : dg b = 0
 ·have hv := tV hs hc
  have Wf := afH hv
  simp only [hc, bne_self_eq_false, bF, ne_eq, not_true_eq_false, if_false]
  rw [aeR hs (by omega) (by simp), Option.bind_some]
  by_cases hl : iZ b b.Out [p] = 0
  ·simp only [hl, bne_self_eq_false, bF, not_true_eq_false, if_false]
   rw [aUL hv, Option.bind_some, aL8 (aNy hs hv p)]
   rfl
  ·simp only [hl, not_false_eq_true, if_true, mK hl, cm]
   rfl
 ·simp only [hc, ne_eq, not_false_eq_true, if_true, mK hc, cm]
  rfl
end Go.Proofs.YtabamagholjdcaaGreatDoor
namespace Go.Proofs.YtabamagholjdcaaGreatDoor
open Go.Lg Go.Proofs
set_option maxRecDepth 10000
theorem aDR {w x : Int} : jK w [x] = max w x := by
 show (if x > w then x else w) = _
 rw [Int.max_def]
 split <;> split <;> omega
theorem known0 {b : aq} : (NW b 0 = ([], dg b) ∧ dg b ≠ 0) ∨ (NW b 0 = ([], 9) ∧ dg b = 0 ∧ de b = []) ∨ (NW b 0 = (de b, 0) ∧ dg b = 0 ∧ de b ≠ []) := by
 unfold NW
 by_cases h1 : dg b = 0
 ·by_cases h3 : de b = []
  ·right; left; simp [h1, h3]
  ·right; right; simp [h1, h3]
 ·left; simp [h1]
end Go.Proofs.YtabamagholjdcaaGreatDoor
namespace Go.Proofs.YtabamagholjdcaaGreatDoor
open Go.Lg Go.Proofs
set_option maxRecDepth 10000
def aDc (x0 : Int) (x1 : Int) : Option (List (List Int)) :=
 (rK (O := (List (List Int))) (λ (lJ : ((List (List Int)) × Int)) =>
 ah (decide (lJ.2 < x0))
 ((rK (O := (List (List Int))) (λ (kQ : ((List (List Int)) × Int)) =>
 ah (decide (kQ.2 < (lJ.1.length : Int)))
 ((idx kQ.1 kQ.2).bind λ V4 =>
 ah (decide ((V4.length : Int) < x1))
 ((idx kQ.1 kQ.2).bind λ V5 =>
 (cy [] V5).bind λ V6 =>
 (cy V6 [lJ.2]).bind λ NQ =>
 (cy kQ.1 [NQ]).bind λ V7 =>
 some (.inl (V7, i64 (kQ.2 + 1))))
 (some (.inl (kQ.1, i64 (kQ.2 + 1)))))
 (some (.inr kQ.1))) (lJ.1, 0)).bind (λ (IK : (List (List Int))) =>
 some (.inl (IK, i64 (lJ.2 + 1)))))
 (some (.inr lJ.1))) ([[]], 0)).bind (λ (IJ : (List (List Int))) =>
 some IJ)
theorem aT8 (x0 : Int) (x1 : Int) : ai (aDc x0 x1) (Nh x0 x1) := by
 unfold aDc Nh
 repeat' (first | with_reducible exact ai.refl _ | with_reducible refine ai.loop λ _ => ?_ | with_reducible refine ai.ah ?_ ?_ | with_reducible refine ai.elim (λ _ => ?_) (λ _ => ?_) _ | with_reducible refine ai.c9 (λ _ _ => ?_) _ _ | with_reducible exact hy _ _ | with_reducible refine ai.bind ?_ λ _ => ?_)
def okD (n a c : Nat) : Bool := nU (cP n a) (cP n c) || nU (cP n c) (cP n a) || a == c
def aSr (n : Nat) : Bool := match aDc n n with
 | some S => S.all (λ l => (List.range (2 ^ n)).any λ a => l == cP n a) && (List.range (2 ^ n)).all (λ a => S.contains (cP n a)) && decide (S.length ≤ 100) && c52 n == some (cP n (2 ^ n - 1)) && (List.range (2 ^ n)).all λ a => (List.range (2 ^ n)).all λ c => okD n a c
 | none => false
set_option maxRecDepth 1000000 in
theorem aU0 : ((List.range 5).all aSr) = true := by decide +kernel
theorem aU1 {n : Nat} (h : n < 5) : ∃ S, Nh n n = some S ∧ (∀ l ∈ S, ∃ a, a < 2 ^ n ∧ l = cP n a) ∧ (∀ a, a < 2 ^ n → cP n a ∈ S) ∧ S.length ≤ 100 ∧ yH n = some (cP n (2 ^ n - 1)) ∧
  ∀ a c, a < 2 ^ n → c < 2 ^ n → nU (cP n a) (cP n c) = false → nU (cP n c) (cP n a) = false → a = c := by
 have := aU0
 rw [List.all_eq_true] at this
 have h1 := this n (List.mem_range.2 h)
 unfold aSr at h1
 cases hS : aDc n n with
 | none => rw [hS] at h1; cases h1
 | some S =>
  rw [hS] at h1
  simp only [Bool.and_eq_true, List.all_eq_true, List.any_eq_true, List.mem_range, beq_iff_eq, decide_eq_true_eq, List.contains_iff_mem] at h1
  obtain ⟨⟨⟨⟨h1, h2⟩, h3⟩, h4⟩, h5⟩ := h1
  refine ⟨S, aT8 _ _ _ hS, h1, h2, h3, aCG _ _ h4, λ a c ha hc h6 h7 => ?_⟩
  have := h5 a ha c hc
  unfold okD at this
  rw [h6, h7] at this
  simpa using this
theorem aUt {b : aq} (hs : Small b) (h1 : dg b = 0) {l : List Int} {h : Int} (hc : aCX b l h) : m32 b = some (l, h) := by
 have hv := tV hs h1
 have h4 := hv.yM
 have hp : (0 : Nat) < 2 ^ b.aO.length := Nat.two_pow_pos _
 have hvm : ∀ a, Valid (kR b (kU b a)) := λ a => by
  have := aBQ b a
  exact tV (aB9 hs (by omega)) (aCh hs h1 (by omega) (aBR b a))
 unfold m32
 rw [V0 hs, Option.bind_some, h1, aBZ hv]
 simp only [bne_self_eq_false, bF, Option.bind_some]
 have hgt : ∀ b' : aq, decide (((de b').length : Int) > 0) = nZ b' := λ b' => by
  have := ad5 (b := b')
  cases hh : nZ b' with
  | true => rw [hh] at this; simp at this ⊢; exact List.length_pos_iff.2 this
  | false => rw [hh] at this; simp at this; simp [this]
 rw [hgt]
 cases hb : nZ b with
 | true =>
  obtain ⟨rfl, rfl⟩ := hc.aCo hb
  rfl
 | false =>
  obtain ⟨a, ha, rfl, hca, hmin, rfl⟩ := hc.odd hb
  have e0 : tL b [] = some (kR b (kU b 0)) := by rw [← axX b.aO.length]; exact aDN h4 0
  rw [bF, e0, Option.bind_some, aBZ (hvm 0), Option.bind_some, abb, ad5]
  obtain ⟨c1, c2, c3, c4, c5, c6, c7⟩ := Wo (n := b.aO.length) (by omega) ha
  cases h0 : nZ (kR b (kU b 0)) with
  | false =>
   have ha0 : a = 0 := by
    by_cases ha0 : a = 0
    ·exact ha0
    ·have := hmin 0 hp h0
     rw [axX, c3 ha0] at this
     cases this
   subst ha0
   rw [axX]
   rfl
  | true =>
   have IQ : ¬ (cP b.aO.length a).length = 0 := λ h => by
    have ha0 := c2.1 h
    subst ha0
    rw [hca] at h0
    cases h0
   obtain ⟨S, hS, hS1, hS2, hS3, h52, hD⟩ := aU1 (n := b.aO.length) (by omega)
   rw [Bool.not_true, bF, h52, Option.bind_some, hS, Option.bind_some, if_neg IQ]
   have hfull : (2 ^ b.aO.length - 1) < 2 ^ b.aO.length := by omega
   have hinv : ∀ i, i ≤ S.length → ∃ B : Nat → List Int, B 0 = cP b.aO.length (2 ^ b.aO.length - 1) ∧ (∀ j, j < i → B (j + 1) = if nU (nth S j) (B j) = true ∧ (∃ c, c < 2 ^ b.aO.length ∧ nth S j = cP b.aO.length c ∧ nZ (kR b (kU b c)) = false) then nth S j else B j) := λ i _ => by
    classical
    exact ⟨λ k => Nat.rec (cP b.aO.length (2 ^ b.aO.length - 1)) (λ j Bj => if nU (nth S j) Bj = true ∧ (∃ c, c < 2 ^ b.aO.length ∧ nth S j = cP b.aO.length c ∧ nZ (kR b (kU b c)) = false) then nth S j else Bj) k, rfl, λ j _ => by
     show (if _ then _ else _) = _
     split <;> rfl⟩
   obtain ⟨B, hB0, hB⟩ := hinv S.length (Nat.le_refl _)
   have hI : ∀ i, i ≤ S.length → (∃ d, d < 2 ^ b.aO.length ∧ B i = cP b.aO.length d ∧ nZ (kR b (kU b d)) = false) ∧ ∀ j, j < i → ∀ c, c < 2 ^ b.aO.length → nth S j = cP b.aO.length c → nZ (kR b (kU b c)) = false → nU (cP b.aO.length c) (B i) = false := by
    intro i
    induction i with
    | zero => intro _; exact ⟨⟨_, hfull, hB0, by rw [aDs]; exact hb⟩, λ j hj => by omega⟩
    | succ i ih =>
     intro hi
     obtain ⟨⟨d, hd, ed, hd0⟩, g⟩ := ih (by omega)
     have Wc := hB i (by omega)
     by_cases hq : nU (nth S i) (B i) = true ∧ (∃ c, c < 2 ^ b.aO.length ∧ nth S i = cP b.aO.length c ∧ nZ (kR b (kU b c)) = false)
     ·rw [if_pos hq] at Wc
      obtain ⟨hf, e, he, ee, he0⟩ := hq
      rw [Wc, ee]
      refine ⟨⟨e, he, rfl, he0⟩, λ j hj c fW hcj hc0 => ?_⟩
      by_cases hji : j = i
      ·subst hji
       rw [ee] at hcj
       rw [← hcj]
       exact (Wo (by omega) he).2.2.2.1
      ·have h3 := g j (by omega) c fW hcj hc0
       cases hx : nU (cP b.aO.length c) (cP b.aO.length e) with
       | false => rfl
       | true =>
        rw [ee, ed] at hf
        rw [ed, (afG (by omega) fW he).2.2 d hd hx hf] at h3
        cases h3
     ·rw [if_neg hq] at Wc
      rw [Wc]
      refine ⟨⟨d, hd, ed, hd0⟩, λ j hj c fW hcj hc0 => ?_⟩
      by_cases hji : j = i
      ·subst hji
       cases hx : nU (cP b.aO.length c) (B j) with
       | false => rfl
       | true => exact absurd ⟨by rw [hcj]; exact hx, c, fW, hcj, hc0⟩ hq
      ·exact g j (by omega) c fW hcj hc0
   have hend : B S.length = cP b.aO.length a := by
    obtain ⟨⟨d, hd, ed, hd0⟩, g⟩ := hI _ (Nat.le_refl _)
    obtain ⟨j, hj, ej⟩ := HB (hS2 a ha)
    have q1 := g j hj a ha ej hca
    have q2 := hmin d hd hd0
    rw [ed] at q1
    rw [ed, hD a d ha hd q1 q2]
   refine (lz (o := cP b.aO.length a) ?_).trans rfl
   rw [← hend]
   have e0 : (cP b.aO.length (2 ^ b.aO.length - 1), (0 : Int)) = (λ i : Nat => (B i, (i : Int))) 0 := by rw [← hB0]; rfl
   rw [e0]
   refine qN (λ i : Nat => (B i, (i : Int))) S.length (λ i hi => ?_) (by simp only [eR, bF])
   obtain ⟨⟨d, hd, ed, hd0⟩, _⟩ := hI i (by omega)
   obtain ⟨c, fW, ec⟩ := hS1 _ (jy hi)
   have Wc := hB i hi
   simp only [dec_lt hi, cm, dD, cO hi, Option.bind_some, eo (i := i) (by omega), ec, ed, (afG (by omega) fW hd).2.1, aDN h4 c, aBZ (hvm c), abb, ad5]
   rw [ec, ed] at Wc
   cases hf : nU (cP b.aO.length c) (cP b.aO.length d) with
   | false =>
    rw [if_neg (λ h => by rw [hf] at h; exact absurd h.1 (by simp))] at Wc
    rw [Wc]
    rfl
   | true =>
    cases hh : nZ (kR b (kU b c)) with
    | true =>
     rw [if_neg] at Wc
     ·rw [Wc]; rfl
     ·rintro ⟨_, c', ZN, ec', hc0⟩
      have mq := hD c c' fW ZN (by rw [← ec']; exact (Wo (by omega) fW).2.2.2.1) (by rw [← ec']; exact (Wo (by omega) fW).2.2.2.1)
      subst mq
      rw [hh] at hc0
      cases hc0
    | false =>
     rw [if_pos ⟨hf, c, fW, rfl, hh⟩] at Wc
     rw [Wc]
     rfl
def Nj (l : List cB) (i : Nat) (w : Int) : Nat := (l.filter λ c => nth c.fD i == w).length
def Nt (l : List cB) (i : Nat) : Int := l.foldl (λ m c => max m (Nj l i (nth c.fD i) : Int)) 0
theorem aRX (l : List cB) (i : Nat) (k : Int) (hk : 0 ≤ k) : Nt l i ≤ k ↔ ∀ c ∈ l, (Nj l i (nth c.fD i) : Int) ≤ k := by
 unfold Nt
 rw [afj]
 exact ⟨λ h => h.2, λ h => ⟨hk, h⟩⟩
theorem aCj (l : List cB) (c : cB) (i : Nat) (w : Int) : Nj (l ++ [c]) i w = Nj l i w + if nth c.fD i = w then 1 else 0 := by
 unfold Nj
 rw [List.filter_append, List.length_append]
 by_cases h : nth c.fD i = w
 ·simp [h]
 ·simp [h]
theorem aT9 (l : List cB) (c : cB) (i : Nat) : Nt (l ++ [c]) i = max (Nt l i) (Nj (l ++ [c]) i (nth c.fD i) : Int) := by
 have hn : 0 ≤ Nt l i := aen _ _ _
 have key : ∀ k : Int, 0 ≤ k → (Nt (l ++ [c]) i ≤ k ↔ max (Nt l i) (Nj (l ++ [c]) i (nth c.fD i) : Int) ≤ k) := λ k hk => by
  rw [aRX _ _ _ hk, Int.max_le, aRX _ _ _ hk]
  constructor
  ·intro h
   refine ⟨λ d hd => ?_, h c (by simp)⟩
   have := h d (by simp [hd])
   rw [aCj] at this
   omega
  ·rintro ⟨h1, h2⟩ d hd
   rcases List.mem_append.1 hd with hd | hd
   ·by_cases hw : nth c.fD i = nth d.fD i
    ·rw [← hw]; exact h2
    ·rw [aCj, if_neg hw]
     exact h1 d hd
   ·rw [List.mem_singleton] at hd
    subst hd
    exact h2
 have h0 : 0 ≤ Nt (l ++ [c]) i := aen _ _ _
 exact Int.le_antisymm ((key _ (by omega)).2 (Int.le_refl _)) ((key _ h0).1 (Int.le_refl _))
theorem aRB (l : List cB) (i : Nat) (w : Int) : Nj l i w ≤ l.length := List.length_filter_le _ _
theorem aUf {l : List cB} (hl : l.length ≤ 1000000) {i : Nat} (hw : ∀ c ∈ l, i < c.fD.length) : Ny l (i : Int) = some (Nt l i) := by
 unfold Ny
 refine (lz (o := Nt l i) ?_).trans rfl
 have e0 : ((0 : Int), (0 : Int)) = (λ q : Nat => (((l.take q).foldl (λ m c => max m (Nj l i (nth c.fD i) : Int)) 0), (q : Int))) 0 := rfl
 rw [e0]
 refine qN (λ q : Nat => (((l.take q).foldl (λ m c => max m (Nj l i (nth c.fD i) : Int)) 0), (q : Int))) l.length (λ q hq => ?_) (by simp only [eR, bF, List.take_length]; rfl)
 have hcq : l[q] ∈ l := List.getElem_mem hq
 simp only [dec_lt hq, cm]
 rw [lz (o := (Nj l i (nth l[q].fD i) : Int)) ?_]
 ·rw [eo (i := q) (by omega), aDR, List.take_succ_eq_append_getElem hq, List.foldl_append]
  rfl
 ·refine qN (λ k : Nat => ((Nj (l.take k) i (nth l[q].fD i) : Int), (k : Int))) l.length (λ k hk => ?_) (by simp only [eR, bF, List.take_length])
  have hck : l[k] ∈ l := List.getElem_mem hk
  have hle := aRB (l.take k) i (nth l[q].fD i)
  rw [List.length_take] at hle
  simp only [dec_lt hk, cm, dD, List.getElem?_eq_getElem hk, List.getElem?_eq_getElem hq, cO (hw _ hck), cO (hw _ hcq), Option.bind_some, eo (i := k) (by omega), eo (i := Nj (l.take k) i (nth l[q].fD i)) (by omega)]
  rw [List.take_succ_eq_append_getElem hk, aCj]
  by_cases h : nth l[k].fD i = nth l[q].fD i
  ·simp [h, cm]
  ·rw [show (nth l[k].fD i == nth l[q].fD i) = false by simpa using h, bF, if_neg h]
   rfl
def Nd (b : aq) : Nat → Int × Int
 | 0 => (-1, ((de b).length : Int))
 | i + 1 => if Nt (de b) i < (Nd b i).2 then ((i : Int), Nt (de b) i) else Nd b i
def aDa (b : aq) : Int × Int × Int := if dg b ≠ 0 then (0, 0, dg b) else if de b = [] then (0, 0, 9) else ((Nd b b.az.length).1, (Nd b b.az.length).2, 0)
theorem aUv {b : aq} (hs : Small b) : NF b = some (aDa b) := by
 unfold NF aDa
 rw [aeX hs, Option.bind_some]
 rcases known0 (b := b) with ⟨e, h1⟩ | ⟨e, h1, h3⟩ | ⟨e, h1, h3⟩
 ·simp only [e, h1, ne_eq, not_false_eq_true, if_true, mK h1, cm]
 ·rw [e, if_neg (by simpa using h1), if_pos h3]; rfl
 ·have hv := tV hs h1
  have h5 := hv.n5
  have fW := Yz hv
  rw [e, if_neg (by simpa using h1), if_neg h3]
  simp only [bne_self_eq_false, bF]
  refine (lz (o := Nd b b.az.length) ?_).trans rfl
  have e0 : ((-1 : Int), ((de b).length : Int), (0 : Int)) = (λ i : Nat => ((Nd b i).1, (Nd b i).2, (i : Int))) 0 := rfl
  rw [e0]
  refine qN (λ i : Nat => ((Nd b i).1, (Nd b i).2, (i : Int))) b.az.length (λ i hi => ?_) (by simp only [eR, bF])
  simp only [dec_lt hi, cm, aUf (l := de b) (i := i) (by omega) (λ c hc => by rw [(aBK hv hc).1]; exact hi), Option.bind_some, eo (i := i) (by omega), Nd]
  by_cases hw : Nt (de b) i < (Nd b i).2
  ·simp [hw, cm]
  ·simp [hw, bF]
def Iy (b : aq) (i q : Nat) : Int → Int → Int := λ j w => if 0 ≤ j ∧ j < (i : Int) then (Nj (de b) j.toNat w : Int) else if j = (i : Int) then (Nj ((de b).take q) i w : Int) else 0
theorem aUO (b : aq) (i : Nat) : Iy b i (de b).length = Iy b (i + 1) 0 := by
 funext j w
 unfold Iy
 by_cases h1 : 0 ≤ j ∧ j < (i : Int)
 ·rw [if_pos h1, if_pos (by omega)]
 ·by_cases h2 : j = (i : Int)
  ·rw [if_neg h1, if_pos h2, if_pos (by omega), List.take_length, h2, Int.toNat_natCast]
  ·rw [if_neg h1, if_neg h2, if_neg (by omega)]
   split <;> rfl
theorem aUP (b : aq) {i q : Nat} (hq : q < (de b).length) : wh (Iy b i q) (i : Int) (nth (de b)[q].fD i) (Iy b i q (i : Int) (nth (de b)[q].fD i) + 1) = Iy b i (q + 1) := by
 funext j w
 unfold wh
 by_cases h : j = (i : Int) ∧ w = nth (de b)[q].fD i
 ·obtain ⟨rfl, rfl⟩ := h
  rw [if_pos ⟨rfl, rfl⟩]
  unfold Iy
  rw [if_neg (by omega), if_pos rfl, if_neg (by omega), if_pos rfl, List.take_succ_eq_append_getElem hq, aCj, if_pos rfl]
  rfl
 ·rw [if_neg h]
  unfold Iy
  by_cases h1 : 0 ≤ j ∧ j < (i : Int)
  ·rw [if_pos h1, if_pos h1]
  ·rw [if_neg h1, if_neg h1]
   by_cases h2 : j = (i : Int)
   ·rw [if_pos h2, if_pos h2, List.take_succ_eq_append_getElem hq, aCj, if_neg (λ hw => h ⟨h2, hw.symm⟩)]
    rfl
   ·rw [if_neg h2, if_neg h2]
theorem aUu {b : aq} (hs : Small b) : yD b = some (aDa b) := by
 unfold yD aDa
 rw [axP hs (own := 0) (λ _ => aB3 b), Option.bind_some]
 unfold abO
 by_cases h1 : dg b = 0
 ·have hv := tV hs h1
  have h5 := hv.n5
  have fW := Yz hv
  simp only [h1, ne_eq, not_true_eq_false, if_false]
  by_cases h3 : de b = []
  ·rw [if_pos h3, if_pos h3]; rfl
  ·rw [if_neg h3, if_neg h3]
   simp only [bne_self_eq_false, bF, List.length_map]
   refine (lz (o := Nd b b.az.length) ?_).trans rfl
   have e0 : ((-1 : Int), ((de b).length : Int), (λ _ _ => (0 : Int)), (0 : Int)) = (λ i : Nat => ((Nd b i).1, (Nd b i).2, Iy b i 0, (i : Int))) 0 := by
    have : Iy b 0 0 = λ _ _ => (0 : Int) := by
     funext j w
     unfold Iy
     rw [if_neg (by omega)]
     split <;> rfl
    simp only [this]
    rfl
   rw [e0]
   refine qN (λ i : Nat => ((Nd b i).1, (Nd b i).2, Iy b i 0, (i : Int))) b.az.length (λ i hi => ?_) (by simp only [eR, bF])
   simp only [dec_lt hi, cm]
   rw [lz (o := (Iy b i (de b).length, Nt (de b) i)) ?_]
   ·simp only [eo (i := i) (by omega), Nd, aUO]
    by_cases hw : Nt (de b) i < (Nd b i).2
    ·simp [hw, cm]
    ·simp [hw, bF]
   ·have q0 : (Iy b i 0, (0 : Int), (0 : Int)) = (λ q : Nat => (Iy b i q, Nt ((de b).take q) i, (q : Int))) 0 := rfl
    rw [q0]
    refine qN (λ q : Nat => (Iy b i q, Nt ((de b).take q) i, (q : Int))) (de b).length (λ q hq => ?_) (by simp only [eR, bF, List.take_length])
    have hc : (de b)[q] ∈ de b := List.getElem_mem hq
    have hcw := (aBK hv hc).1
    have hcn : (wk (de b)[q]).weights[i]? = some (nth (de b)[q].fD i) := by
     have e1 : i < (wk (de b)[q]).weights.length := by show i < (fT Z5 _).length; rw [VE (by omega)]; omega
     rw [cO e1]
     congr 1
     exact Wn (by omega) (by omega)
    have hval : Iy b i q (i : Int) (nth (de b)[q].fD i) = (Nj ((de b).take q) i (nth (de b)[q].fD i) : Int) := by
     unfold Iy
     rw [if_neg (by omega), if_pos rfl]
    have hle := aRB ((de b).take q) i (nth (de b)[q].fD i)
    rw [List.length_take] at hle
    have aTj : i64 (Iy b i q (i : Int) (nth (de b)[q].fD i) + 1) = Iy b i q (i : Int) (nth (de b)[q].fD i) + 1 := by rw [hval]; exact jk (by omega) (by omega)
    have aTF : Iy b i (q + 1) (i : Int) (nth (de b)[q].fD i) = (Nj ((de b).take (q + 1)) i (nth (de b)[q].fD i) : Int) := by
     unfold Iy
     rw [if_neg (by omega), if_pos rfl]
    simp only [dec_lt hq, cm, dD, List.getElem?_map, List.getElem?_eq_getElem hq, Option.map_some, Option.bind_some, hcn, aTj, aUP b hq, eo (i := q) (by omega), aTF, aDR]
    rw [List.take_succ_eq_append_getElem hq, aT9]
 ·simp only [h1, ne_eq, not_false_eq_true, if_true, mK h1, cm]
def aDr (b : aq) (x : bW) : aq := kR b (b.aO ++ [x])
def amr (b : aq) (x : bW) : aq × Int := if dg b ≠ 0 then (noB, dg b) else adV (aDr b x)
theorem aNx {b : aq} (hs : Small b) (hv : Valid b) (x : bW) : Small (aDr b x) := aB9 hs (by have := hv.yM; simp; omega)
theorem aUw {b : aq} (hs : Small b) (x : bW) : yE b x = some (amr b x) := by
 unfold yE amr
 rw [VL hs, Option.bind_some]
 by_cases hc : dg b = 0
 ·have hv := tV hs hc
  have h4 := hv.yM
  simp only [hc, bne_self_eq_false, bF, ne_eq, not_true_eq_false, if_false]
  unfold yq
  rw [mU (by simp; omega), Option.bind_some, Option.bind_some, List.nil_append, mU (by simp; omega), Option.bind_some, show (⟨b.aE, ⟨b.aa.an, b.aa.ax⟩, b.az, b.Out, b.aO ++ [x]⟩ : aq) = aDr b x from rfl, aL7 (aNx hs hv x)]
  rfl
 ·simp only [hc, ne_eq, not_false_eq_true, if_true, mK hc, cm]
  rfl
theorem aUK {b : aq} (hb : b.aO.length ≤ 100) (x : bW) : tT b x = some (aDr b x) := by
 unfold tT
 rw [mU (by simp; omega), Option.bind_some, List.nil_append, mU (by simp; omega)]
 rfl
theorem aUx {b : aq} (hs : Small b) (x : bW) : NG b x = some (amr b x) := by
 unfold NG amr
 rw [V0 hs, Option.bind_some]
 by_cases hc : dg b = 0
 ·have hv := tV hs hc
  have h4 := hv.yM
  simp only [hc, bne_self_eq_false, bF, ne_eq, not_true_eq_false, if_false]
  rw [aUK (by omega), Option.bind_some, aL8 (aNx hs hv x)]
  rfl
 ·simp only [hc, ne_eq, not_false_eq_true, if_true, mK hc, cm]
  rfl
def aeZ (x y : Reach) : Reach := ⟨jK x.an [y.an], s5 x.ax [y.ax]⟩
def aD5 (b : aq) (p : Int) (r : Reach) : aq := ⟨b.aE, ⟨b.aa.an, b.aa.ax⟩, b.az.set p.toNat ⟨(nth b.az p.toNat).Name, (nth b.az p.toNat).dz, ⟨r.an, r.ax⟩, (nth b.az p.toNat).On⟩, b.Out, b.aO⟩
def aBx (b : aq) (p : Int) (x : Reach) : aq × Int :=
 if dg b ≠ 0 then (noB, dg b) else if nV b p = false then (noB, 6) else if lD x 1 99 = false then (noB, 1) else
  if (aeZ (nth b.az p.toNat).Weight x).an > (aeZ (nth b.az p.toNat).Weight x).ax then (noB, 9) else adV (aD5 b p (aeZ (nth b.az p.toNat).Weight x))
theorem aNz {b : aq} (hs : Small b) {p : Int} (hp : nV b p = true) (r : Reach) : Small (aD5 b p r) := by
 have hpi := Ns.1 hp
 refine ⟨by show (b.az.set _ _).length ≤ 20; rw [List.length_set]; exact hs.pieces, hs.out, hs.yM, λ q hq => ?_⟩
 rcases List.mem_or_eq_of_mem_set hq with h | h
 ·exact hs.each q h
 ·rw [h]
  have := hs.each _ (jy (l := b.az) (i := p.toNat) (by omega))
  exact this
theorem aUW {x : Reach} (h : lD x 1 99 = true) : lQ x 99 = true := by
 rw [Wp] at h
 rw [Ws]
 omega
theorem aDz {b : aq} {p : Int} (hp : nV b p = true) : idx b.az p = some (nth b.az p.toNat) := by
 have hpi := Ns.1 hp
 obtain ⟨k, rfl⟩ : ∃ k : Nat, p = (k : Int) := ⟨p.toNat, by omega⟩
 rw [dD, Int.toNat_natCast, cO (by omega)]
theorem aUC {b : aq} (hs : Small b) (p : Int) (x : Reach) : yF b p x = some (aBx b p x) := by
 unfold yF aBx
 have h1 := hs.pieces
 rw [VL hs, Option.bind_some, show (⟨b.aE, ⟨b.aa.an, b.aa.ax⟩, b.az, b.Out, b.aO⟩ : aq) = b from rfl, afp hs, Wh (by omega) (by omega)]
 by_cases hc : dg b = 0
 ·simp only [hc, bne_self_eq_false, bF, ne_eq, not_true_eq_false, if_false, Option.bind_some]
  cases hp : nV b p with
  | false => rfl
  | true =>
   simp only [Bool.not_true, bF, Bool.true_eq_false, if_false]
   cases hr : lD x 1 99 with
   | false => rfl
   | true =>
    rw [aUW hr]
    simp only [Bool.and_self, Bool.not_true, bF, Bool.true_eq_false, if_false, aDz hp, Option.bind_some]
    by_cases ho : (aeZ (nth b.az p.toNat).Weight x).an > (aeZ (nth b.az p.toNat).Weight x).ax
    ·rw [if_pos ho, show decide (jK (nth b.az p.toNat).Weight.an [x.an] > s5 (nth b.az p.toNat).Weight.ax [x.ax]) = true from decide_eq_true ho]
     rfl
    ·rw [if_neg ho, show decide (jK (nth b.az p.toNat).Weight.an [x.an] > s5 (nth b.az p.toNat).Weight.ax [x.ax]) = false from decide_eq_false ho, bF]
     unfold yu
     rw [mU (by simp; omega), Option.bind_some, Option.bind_some, List.nil_append, aDz hp, Option.bind_some]
     rw [show (⟨b.aE, ⟨b.aa.an, b.aa.ax⟩, b.az.set p.toNat ⟨(nth b.az p.toNat).Name, (nth b.az p.toNat).dz, ⟨jK (nth b.az p.toNat).Weight.an [x.an], s5 (nth b.az p.toNat).Weight.ax [x.ax]⟩, (nth b.az p.toNat).On⟩, b.Out, b.aO⟩ : aq) = aD5 b p (aeZ (nth b.az p.toNat).Weight x) from rfl, aL7 (aNz hs hp _)]
     rfl
 ·simp only [hc, ne_eq, not_false_eq_true, if_true, mK hc, cm]
  rfl
theorem aUH {b : aq} (hl : b.az.length ≤ 100) {p : Int} (hp : nV b p = true) (r : Reach) : NJ b p r = some (aD5 b p r) := by
 unfold NJ
 rw [mU (by simp; omega), Option.bind_some, List.nil_append, aDz hp]
 rfl
theorem aUD {b : aq} (hs : Small b) (p : Int) (x : Reach) : NH b p x = some (aBx b p x) := by
 unfold NH aBx
 have h1 := hs.pieces
 rw [V0 hs, Option.bind_some, afq hs, Wi]
 by_cases hc : dg b = 0
 ·simp only [hc, bne_self_eq_false, bF, ne_eq, not_true_eq_false, if_false, Option.bind_some]
  cases hp : nV b p with
  | false => rfl
  | true =>
   simp only [Bool.not_true, bF, Bool.true_eq_false, if_false]
   cases hr : lD x 1 99 with
   | false => rfl
   | true =>
    simp only [Bool.not_true, bF, Bool.true_eq_false, if_false, aDz hp, Option.bind_some]
    rw [show N1 (nth b.az p.toNat).Weight x = some (aeZ (nth b.az p.toNat).Weight x) from rfl, Option.bind_some]
    by_cases ho : (aeZ (nth b.az p.toNat).Weight x).an > (aeZ (nth b.az p.toNat).Weight x).ax
    ·rw [if_pos ho, decide_eq_true ho]
     rfl
    ·rw [if_neg ho, decide_eq_false ho, bF, aUH (by omega) hp, Option.bind_some, aL8 (aNz hs hp _)]
     rfl
 ·simp only [hc, ne_eq, not_false_eq_true, if_true, mK hc, cm]
  rfl
theorem aMf {b : aq} (hs : Small b) : AW (adV b).1 (adV b).1 = some true := by
 unfold adV
 split
 ·exact aeV
 ·split
  ·exact aeV
  ·exact aUA hs
theorem aUy {b : aq} (hs : Small b) (x : bW) : AW (amr b x).1 (amr b x).1 = some true := by
 unfold amr
 split
 ·exact aeV
 ·rename_i h1
  exact aMf (aNx hs (tV hs (by simpa using h1)) x)
theorem aUz {b : aq} (hs : Small b) (p : Int) : AW (awz b p).1 (awz b p).1 = some true := by
 unfold awz
 split
 ·exact aeV
 ·rename_i h1
  split
  ·exact aeV
  ·exact aMf (aNy hs (tV hs (by simpa using h1)) p)
theorem aUB {b : aq} (hs : Small b) (p : Int) (x : Reach) : AW (aBx b p x).1 (aBx b p x).1 = some true := by
 unfold aBx
 split
 ·exact aeV
 ·split
  ·exact aeV
  ·rename_i hp
   split
   ·exact aeV
   ·split
    ·exact aeV
    ·exact aMf (aNz hs (by simpa using hp) _)
theorem aT6 (b : aq) (x : bW) (p : Int) (w : Reach) : m4 b x p w = some true := by
 unfold m4
 rw [axu, azk, Option.bind_some]
 cases hg : Cb b with
 | true => rfl
 | false =>
 have hs := aeo hg
 have fW : ∃ l h, tS b = some (l, h) ∧ m32 b = some (l, h) ∧ l.length ≤ 1000000 := by
  by_cases h1 : dg b = 0
  ·obtain ⟨l, h, e, hc⟩ := aMe hs h1
   refine ⟨l, h, e, aUt hs h1 hc, ?_⟩
   have h4 := (tV hs h1).yM
   cases hb : nZ b with
   | true => rw [(hc.aCo hb).1]; simp
   | false =>
    obtain ⟨a, ha, rfl, _⟩ := hc.odd hb
    have := (Wo (n := b.aO.length) (by omega) ha).2.2.2.2.1
    omega
  ·refine ⟨[], dg b, ?_, ?_, by simp⟩
   ·unfold tS
    rw [VL hs, Option.bind_some, mK h1]
    rfl
   ·unfold m32
    rw [V0 hs, Option.bind_some, mK h1]
    rfl
 obtain ⟨l, h, e31, e32, hl⟩ := fW
 simp only [bF, e31, e32, axJ hl, aUu hs, aUv hs, aUw hs, aUx hs, aUC hs, aUD hs, aUF hs, aUG hs, aUy hs, aUz hs, aUB hs, Option.bind_some, beq_self_eq_true, bne_self_eq_false, Bool.not_true, cm]
end Go.Proofs.YtabamagholjdcaaGreatDoor
