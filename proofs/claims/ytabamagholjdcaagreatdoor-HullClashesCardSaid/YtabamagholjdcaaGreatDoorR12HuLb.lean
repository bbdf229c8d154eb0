/- Plain laws of chapter 6, the rest. Conditions: none. -/
import Derived.Test.YtabamagholjdcaaGreatDoorR12HuL
import Derived.Test.YtabamagholjdcaaGreatDoorQAHuC
namespace Go.Proofs.YtabamagholjdcaaGreatDoor
open Go.Lg Go.Proofs
set_option maxRecDepth 10000
def kR (b : aq) (hs : List bW) : aq := ⟨b.aE, ⟨b.aa.an, b.aa.ax⟩, b.az, b.Out, hs⟩
theorem aCK (b : aq) (hs : List bW) : ∀ (l out : List Int), iZ (kR b hs) out l = iZ b out l
 | [], _ => rfl
 | p :: r, out => by
  unfold iZ
  rw [show Ek (kR b hs) out p = Ek b out p from rfl]
  cases Ek b out p with
  | some h => rfl
  | none => exact aCK b hs r _
theorem aSf (b : aq) (hs : List bW) (bG : Int) (ws out : List Int) : ∀ n, j4 (kR b hs) bG ws out n = j4 b bG ws out n
 | 0 => rfl
 | n + 1 => by simp only [j4, aSf b hs bG ws out n]; rfl
theorem aSs (b : aq) (hs : List bW) : ∀ j i, vS (kR b hs) j i = vS b j i
 | 0, _ => rfl
 | j + 1, i => by simp only [vS, aSs b hs j (i + 1)]; rfl
theorem aUQ (b : aq) (hs : List bW) (bG : Int) (ws : List Int) (n : Nat) : mo (kR b hs) bG ws n = mo b bG ws n := aSf b hs bG ws _ _
theorem aUY (b : aq) (hs : List bW) (bG : Int) (ws : List Int) : lK (kR b hs) bG ws = (((List.range (b.Out.length + 1)).all λ n => !rJ b (mo b bG ws n)) && hs.all λ x => BI (mo b bG ws x.dr.toNat) == x.dQ) := by
 unfold lK
 simp only [aUQ]
 rfl
theorem aSS (b : aq) (hs : List bW) : oT (kR b hs) = oT b := aSs b hs _ _
theorem aB9 {b : aq} (h : Small b) {hs : List bW} (hl : hs.length ≤ 20) : Small (kR b hs) := ⟨h.pieces, h.out, hl, h.each⟩
theorem aCh {b : aq} (hs : Small b) (h : dg b = 0) {hl : List bW} (h4 : hl.length ≤ 4) (hm : ∀ x ∈ hl, x ∈ b.aO) : dg (kR b hl) = 0 := by
 have hv := tV hs h
 have e : dg (kR b hl) = if xk b = false then 1 else if nX b ≠ 0 then nX b else if we b ≠ 0 then we b else zH (kR b hl) := by
  unfold dg
  rw [show we (kR b hl) = we b from aCK b hl _ _]
  rfl
 rw [e]
 unfold dg at h
 by_cases h1 : xk b = false
 ·rw [if_pos h1] at h; cases h
 rw [if_neg h1] at h ⊢
 by_cases h2 : nX b = 0
 ·rw [if_neg (by simpa using h2)] at h ⊢
  by_cases h3 : we b = 0
  ·rw [if_neg (by simpa using h3)]
   unfold zH
   rw [if_neg (by show ¬ 4 < hl.length; omega), uv.2 (λ i _ hi => ?_)]
   ·rfl
   ·have hx := hv.ad4 _ (hm _ (jy (l := hl) (i := i) (by simpa [kR] using hi)))
    unfold vW
    rw [if_neg, if_neg]
    ·rw [Bool.not_eq_false, D9]; exact hx.2.2
    ·rw [Bool.not_eq_false, D9]; exact ⟨hx.1, hx.2.1⟩
  ·rw [if_pos (by simpa using h3)] at h; exact absurd h h3
 ·rw [if_pos (by simpa using h2)] at h; exact absurd h h2
theorem aRL {b : aq} : nZ b = true ↔ ∃ n ∈ p9 b.aa, ∃ w ∈ oT b, lK b n w = true := by
 unfold nZ
 rw [Bool.not_eq_true', List.isEmpty_eq_false_iff_exists_mem]
 simp only [de, List.mem_flatMap, List.mem_map, List.mem_filter]
 constructor
 ·rintro ⟨_, n, hn, w, ⟨hw, hs⟩, _⟩; exact ⟨n, hn, w, hw, hs⟩
 ·rintro ⟨n, hn, w, hw, hs⟩; exact ⟨_, n, hn, w, ⟨hw, hs⟩, rfl⟩
theorem aTc {b : aq} {hs hs' : List bW} (hm : ∀ x ∈ hs, x ∈ hs') (h : nZ (kR b hs') = true) : nZ (kR b hs) = true := by
 rw [aRL] at h ⊢
 obtain ⟨n, hn, w, hw, h⟩ := h
 refine ⟨n, hn, w, by rw [aSS] at hw ⊢; exact hw, ?_⟩
 rw [aUY, Bool.and_eq_true] at h ⊢
 refine ⟨h.1, ?_⟩
 have h2 := h.2
 rw [List.all_eq_true] at h2 ⊢
 exact λ x hx => h2 x (hm x hx)
def cP (n a : Nat) : List Int := ((List.range n).filter λ i => a.testBit i).map λ (i : Nat) => (i : Int)
def kU (b : aq) (a : Nat) : List bW := ((List.range b.aO.length).filter λ i => a.testBit i).map λ i => nth b.aO i
def aCJ : List Int → List Int → Bool
 | [], [] => false
 | [], _ :: _ => true
 | _ :: _, [] => false
 | a :: l, c :: m => decide (a < c) || (a == c && aCJ l m)
def nU (l m : List Int) : Bool := decide (l.length < m.length) || (l.length == m.length && aCJ l m)
def okA (n a : Nat) : Bool :=
 od (cP n a) n == 0 && (((cP n a).length == 0) == (a == 0)) && (a == 0 || nU [] (cP n a)) && !nU (cP n a) (cP n a) && decide ((cP n a).length ≤ 4) &&
  ((List.range (cP n a).length).all λ i => match Yt (cP n a) i with | some l => (List.range (2 ^ n)).any λ c => l == cP n c && nU l (cP n a) | none => false) &&
  ((List.range n).all λ i => (tU .i64 a i).bind (λ x => wL .and .i64 x 1) == some (if a.testBit i then 1 else 0))
def okC (n a c : Nat) : Bool := aei (cP n a) (cP n c) == some (nU (cP n a) (cP n c)) && c67 (cP n a) (cP n c) == some (nU (cP n a) (cP n c)) &&
 ((List.range (2 ^ n)).all λ d => !(nU (cP n a) (cP n c) && nU (cP n c) (cP n d)) || nU (cP n a) (cP n d))
set_option maxRecDepth 1000000 in
theorem axY : ((List.range 5).all λ n => xZ .i64 1 n == some ((2 ^ n : Nat) : Int) && (List.range (2 ^ n)).all λ a => okA n a && (List.range (2 ^ n)).all λ c => okC n a c) = true := by decide +kernel
set_option maxRecDepth 1000000 in
theorem aU2 : ((List.range 256).all λ x => (List.range 5).all λ n => c49 x n == some (cP n (x % 2 ^ n))) = true := by decide +kernel
theorem aNw {n : Nat} (h : n < 5) : xZ .i64 1 (n : Int) = some ((2 ^ n : Nat) : Int) := by
 have := axY
 simp only [List.all_eq_true, List.mem_range, Bool.and_eq_true, beq_iff_eq] at this
 exact (this n h).1
theorem Wo {n a : Nat} (h : n < 5) (ha : a < 2 ^ n) : od (cP n a) n = 0 ∧ ((cP n a).length = 0 ↔ a = 0) ∧ (a ≠ 0 → nU [] (cP n a) = true) ∧ nU (cP n a) (cP n a) = false ∧ (cP n a).length ≤ 4 ∧
  (∀ i, i < (cP n a).length → ∃ c, c < 2 ^ n ∧ BE (cP n a) i = some (cP n c) ∧ nU (cP n c) (cP n a) = true) ∧ ∀ i, i < n → (tU .i64 a i).bind (λ x => wL .and .i64 x 1) = some (if a.testBit i then 1 else 0) := by
 have := axY
 simp only [List.all_eq_true, List.mem_range, Bool.and_eq_true, beq_iff_eq] at this
 have h1 := ((this n h).2 a ha).1
 simp only [okA, Bool.and_eq_true, beq_iff_eq, List.all_eq_true, List.mem_range, Bool.or_eq_true, Bool.not_eq_true', decide_eq_true_eq] at h1
 obtain ⟨⟨⟨⟨⟨⟨h1, h2⟩, h3⟩, h4⟩, h5⟩, h6⟩, h7⟩ := h1
 refine ⟨h1, ?_, λ hne => h3.resolve_left hne, h4, h5, λ i hi => ?_, h7⟩
 ·rw [Bool.eq_iff_iff] at h2; simpa using h2
 ·have h8 := h6 i hi
  cases hc : Yt (cP n a) i with
  | none => rw [hc] at h8; cases h8
  | some l =>
   rw [hc] at h8
   simp only [List.any_eq_true, List.mem_range, Bool.and_eq_true, beq_iff_eq] at h8
   obtain ⟨c, cN, bz, bK⟩ := h8
   subst bz
   exact ⟨c, cN, aCI _ _ _ hc, bK⟩
theorem afG {n a c : Nat} (h : n < 5) (ha : a < 2 ^ n) (hc : c < 2 ^ n) : BA (cP n a) (cP n c) = some (nU (cP n a) (cP n c)) ∧ yI (cP n a) (cP n c) = some (nU (cP n a) (cP n c)) ∧
  ∀ d, d < 2 ^ n → nU (cP n a) (cP n c) = true → nU (cP n c) (cP n d) = true → nU (cP n a) (cP n d) = true := by
 have := axY
 simp only [List.all_eq_true, List.mem_range, Bool.and_eq_true, beq_iff_eq] at this
 have h1 := ((this n h).2 a ha).2 c hc
 simp only [okC, Bool.and_eq_true, beq_iff_eq, List.all_eq_true, List.mem_range, Bool.or_eq_true, Bool.not_eq_true'] at h1
 obtain ⟨⟨h1, h2⟩, h3⟩ := h1
 refine ⟨aCE _ _ _ h1, aCH _ _ _ h2, λ d hd g1 g2 => (h3 d hd).resolve_left λ hn => ?_⟩
 rw [g1, g2] at hn
 cases hn
theorem aU3 {x n : Nat} (hx : x < 256) (hn : n < 5) : yG x n = some (cP n (x % 2 ^ n)) := by
 have := aU2
 simp only [List.all_eq_true, List.mem_range, beq_iff_eq] at this
 exact aCF _ _ _ (this x hx n hn)
theorem aBR (b : aq) (a : Nat) : ∀ x ∈ kU b a, x ∈ b.aO := by
 intro x hx
 simp only [kU, List.mem_map, List.mem_filter, List.mem_range] at hx
 obtain ⟨i, ⟨hi, _⟩, rfl⟩ := hx
 exact jy hi
theorem aBQ (b : aq) (a : Nat) : (kU b a).length ≤ b.aO.length := by
 unfold kU
 rw [List.length_map]
 exact Nat.le_trans (List.length_filter_le _ _) (by simp)
theorem aDN {b : aq} (hb : b.aO.length ≤ 4) (a : Nat) : tL b (cP b.aO.length a) = some (kR b (kU b a)) := by
 unfold tL
 have hl : (cP b.aO.length a).length ≤ 4 := by
  unfold cP
  rw [List.length_map]
  exact Nat.le_trans (Nat.le_trans (List.length_filter_le _ _) (by simp)) hb
 have e : kU b a = (cP b.aO.length a).map λ k => nth b.aO k.toNat := by
  unfold kU cP
  rw [List.map_map]
  rfl
 refine (lz (o := kU b a) ?_).trans rfl
 have e0 : ((0 : Int), ([] : List bW)) = (λ i : Nat => ((i : Int), ((cP b.aO.length a).take i).map λ k => nth b.aO k.toNat)) 0 := rfl
 rw [e0]
 refine qN (λ i : Nat => ((i : Int), ((cP b.aO.length a).take i).map λ k => nth b.aO k.toNat)) (cP b.aO.length a).length (λ i hi => ?_) ?_
 ·have hm := jy hi
  generalize hx : nth (cP b.aO.length a) i = x at hm
  have hm' := hm
  simp only [cP, List.mem_map, List.mem_filter, List.mem_range] at hm'
  obtain ⟨j, ⟨hj, _⟩, rfl⟩ := hm'
  simp only [dec_lt hi, cm, dD, cO hi, hx, cO hj, Option.bind_some, eo (i := i) (by omega)]
  rw [mU (by simp; omega), Option.bind_some, List.take_succ_eq_append_getElem hi, List.map_append]
  have h2 : (cP b.aO.length a)[i] = (j : Int) := by
   have := cO hi
   rw [List.getElem?_eq_getElem hi, hx] at this
   exact Option.some.inj this
  rw [h2]
  simp
 ·simp only [eR, bF, List.take_length, e]
def jz (b : aq) : List (List Int) := (List.range (2 ^ b.aO.length)).flatMap λ a => if nZ (kR b (kU b a)) = true then [] else [cP b.aO.length a]
theorem NK {b : aq} {l : List Int} : l ∈ jz b ↔ ∃ a, a < 2 ^ b.aO.length ∧ nZ (kR b (kU b a)) = false ∧ l = cP b.aO.length a := by
 simp only [jz, List.mem_flatMap, List.mem_range]
 constructor
 ·rintro ⟨a, ha, h⟩
  split at h
  ·cases h
  ·rename_i hc; exact ⟨a, ha, by simpa using hc, by simpa using h⟩
 ·rintro ⟨a, ha, hc, rfl⟩
  exact ⟨a, ha, by rw [if_neg (by simp [hc])]; simp⟩
def zk (l : List (List Int)) : Nat → List Int
 | 0 => nth l 0
 | i + 1 => if nU (nth l i) (zk l i) = true then nth l i else zk l i
theorem aKZ {n : Nat} : ∀ i, i < n → (2 ^ n - 1).testBit i = true := λ i hi => by rw [Nat.testBit_two_pow_sub_one]; simpa using hi
theorem aDs (b : aq) : kU b (2 ^ b.aO.length - 1) = b.aO := by
 unfold kU
 rw [List.filter_eq_self.2 (λ i hi => aKZ i (List.mem_range.1 hi))]
 refine aB6 (by simp) λ i hi => ?_
 rw [List.length_map, List.length_range] at hi
 have h1 := cO (l := (List.range b.aO.length).map λ i => nth b.aO i) (i := i) (by simpa using hi)
 simp only [List.getElem?_map, List.getElem?_range hi, Option.map_some, Option.some.injEq] at h1
 exact h1.symm
theorem aNu {n : Nat} (h : n < 5) : 2 ^ n ≤ 16 := by
 match n, h with
 | 0, _ => decide
 | 1, _ => decide
 | 2, _ => decide
 | 3, _ => decide
 | 4, _ => decide
structure aCX (b : aq) (l : List Int) (h : Int) : Prop where
 aCo : nZ b = true → l = [] ∧ h = 0
 odd : nZ b = false → ∃ a, a < 2 ^ b.aO.length ∧ l = cP b.aO.length a ∧ nZ (kR b (kU b a)) = false ∧ (∀ c, c < 2 ^ b.aO.length → nZ (kR b (kU b c)) = false → nU (cP b.aO.length c) l = false) ∧ h = if l.length = 0 then 8 else 0
theorem aMe {b : aq} (hs : Small b) (h1 : dg b = 0) : ∃ l h, tS b = some (l, h) ∧ aCX b l h := by
 have hv := tV hs h1
 have h4 := hv.yM
 have hp := aNu (n := b.aO.length) (by omega)
 unfold tS
 rw [VL hs, Option.bind_some, h1, aBY hv]
 simp only [bne_self_eq_false, bF, Option.bind_some]
 cases hc : nZ b with
 | true => exact ⟨[], 0, rfl, λ _ => ⟨rfl, rfl⟩, λ h => by rw [hc] at h; cases h⟩
 | false =>
 have hvm : ∀ a, Valid (kR b (kU b a)) := λ a => by
  have := aBQ b a
  exact tV (aB9 hs (by omega)) (aCh hs h1 (by omega) (aBR b a))
 have aLk : (2 ^ b.aO.length - 1) < 2 ^ b.aO.length := by have := Nat.two_pow_pos b.aO.length; omega
 have hin : cP b.aO.length (2 ^ b.aO.length - 1) ∈ jz b := NK.2 ⟨_, aLk, by rw [aDs]; exact hc, rfl⟩
 have hne : 0 < (jz b).length := List.length_pos_of_mem hin
 have Wf : (jz b).length ≤ 16 := by
  have key : ∀ l : List Nat, (l.flatMap λ a => if nZ (kR b (kU b a)) = true then [] else [cP b.aO.length a]).length ≤ l.length := by
   intro l
   induction l with
   | nil => simp
   | cons a l ih =>
    simp only [List.flatMap_cons, List.length_append, List.length_cons]
    split
    ·simp only [List.length_nil]; omega
    ·simp only [List.length_cons, List.length_nil]; omega
  have := key (List.range (2 ^ b.aO.length))
  rw [List.length_range] at this
  unfold jz
  omega
 have aCq : ∀ i, i ≤ (jz b).length → zk (jz b) i ∈ jz b ∧ ∀ j, j < i → nU (nth (jz b) j) (zk (jz b) i) = false := by
  intro i
  induction i with
  | zero => intro _; exact ⟨jy hne, λ j hj => by omega⟩
  | succ i ih =>
   intro hi
   obtain ⟨g1, g2⟩ := ih (by omega)
   obtain ⟨a, ha, _, ea⟩ := NK.1 g1
   obtain ⟨c, ZN, _, ec⟩ := NK.1 (jy (l := jz b) (i := i) (by omega))
   simp only [zk]
   by_cases hf : nU (nth (jz b) i) (zk (jz b) i) = true
   ·rw [if_pos hf]
    refine ⟨jy (by omega), λ j hj => ?_⟩
    by_cases hji : j = i
    ·subst hji; rw [ec]; exact (Wo (by omega) ZN).2.2.2.1
    ·cases hx : nU (nth (jz b) j) (nth (jz b) i) with
     | false => rfl
     | true =>
      obtain ⟨d, hd, _, ed⟩ := NK.1 (jy (l := jz b) (i := j) (by omega))
      have h3 := g2 j (by omega)
      rw [ec, ea] at hf
      rw [ec, ed] at hx
      rw [ed, ea, (afG (by omega) hd ZN).2.2 a ha hx hf] at h3
      cases h3
   ·rw [if_neg hf]
    refine ⟨g1, λ j hj => ?_⟩
    by_cases hji : j = i
    ·subst hji; simpa using hf
    ·exact g2 j (by omega)
 obtain ⟨g1, g2⟩ := aCq _ (Nat.le_refl _)
 obtain ⟨a, ha, hca, ea⟩ := NK.1 g1
 refine ⟨zk (jz b) (jz b).length, if (zk (jz b) (jz b).length).length = 0 then 8 else 0, ?_, ⟨λ h => (by rw [hc] at h; cases h), λ _ => ⟨a, ha, ea, hca, λ c fW mq => ?_, rfl⟩⟩⟩
 ·rw [bF, aNw (by omega), Option.bind_some]
  rw [lz (o := jz b) ?_]
  ·rw [show idx (jz b) 0 = some (nth (jz b) 0) from cO hne, Option.bind_some]
   rw [lz (o := zk (jz b) (jz b).length) ?_]
   ·by_cases hz : (zk (jz b) (jz b).length).length = 0
    ·rw [if_pos hz, show ((zk (jz b) (jz b).length).length : Int) == 0 from by simp [hz], cm, List.length_eq_zero_iff.1 hz]
    ·rw [if_neg hz, show (((zk (jz b) (jz b).length).length : Int) == 0) = false from by simpa using hz, bF]
   ·have e0 : (nth (jz b) 0, (0 : Int)) = (λ i : Nat => (zk (jz b) i, (i : Int))) 0 := rfl
    rw [e0]
    refine qN (λ i : Nat => (zk (jz b) i, (i : Int))) (jz b).length (λ i hi => ?_) (by simp only [eR, bF])
    obtain ⟨a, ha, _, ea⟩ := NK.1 (aCq i (by omega)).1
    obtain ⟨c, ZN, _, ec⟩ := NK.1 (jy hi)
    simp only [dec_lt hi, cm, dD, cO hi, Option.bind_some, eo (i := i) (by omega), zk]
    rw [ec, ea, (afG (by omega) ZN ha).1, Option.bind_some]
    cases nU (cP b.aO.length c) (cP b.aO.length a) <;> rfl
  ·have e0 : (([] : List (List Int)), (0 : Int)) = ([], (λ i : Nat => (i : Int)) 0) := rfl
   rw [e0, show jz b = [] ++ jz b from rfl]
   unfold jz
   refine Nu (λ i : Nat => (i : Int)) (λ a => if nZ (kR b (kU b a)) = true then [] else [cP b.aO.length a]) (2 ^ b.aO.length) 1 [] (λ a _ => by split <;> simp) (λ a l ha hl => ?_) (λ l => by simp only [eR, bF])
   have hb := (Wo (n := b.aO.length) (by omega) ha).2.2.2.2.2.2
   simp only [dec_lt ha, cm]
   rw [lz (o := (cP b.aO.length a, kU b a)) ?_]
   ·rw [show (⟨b.aE, ⟨b.aa.an, b.aa.ax⟩, b.az, b.Out, kU b a⟩ : aq) = kR b (kU b a) from rfl, aBY (hvm a), Option.bind_some, eo (i := a) (by omega)]
    cases nZ (kR b (kU b a)) with
    | true => simp [bF]
    | false =>
     simp only [List.length_nil] at hl
     simp only [Bool.not_false, cm]
     rw [mU (by simp; omega)]
     rfl
   ·have q0 : (([] : List Int), (0 : Int), ([] : List bW)) = (λ i : Nat => (((List.range i).filter λ i => a.testBit i).map (λ (i : Nat) => (i : Int)), (i : Int), ((List.range i).filter λ i => a.testBit i).map λ i => nth b.aO i)) 0 := rfl
    rw [q0]
    refine qN (λ i : Nat => (((List.range i).filter λ i => a.testBit i).map (λ (i : Nat) => (i : Int)), (i : Int), ((List.range i).filter λ i => a.testBit i).map λ i => nth b.aO i)) b.aO.length (λ i hi => ?_) (by simp only [eR, bF]; rfl)
    have hfl : ((List.range i).filter λ i => a.testBit i).length ≤ i := Nat.le_trans (List.length_filter_le _ _) (by simp)
    have hbi := hb i hi
    obtain ⟨x, hx, hbi⟩ := ao hbi
    simp only [dec_lt hi, cm, dD, cO hi, Option.bind_some, hx, hbi, eo (i := i) (by omega), List.range_succ, List.filter_append, List.map_append]
    cases ht : a.testBit i with
    | true =>
     simp only [if_true, beq_self_eq_true, cm]
     rw [mU (by simp; omega), Option.bind_some, mU (by simp; omega), Option.bind_some]
     simp [ht]
    | false => simp [ht, bF]
 ·obtain ⟨j, hj, ej⟩ := HB (NK.2 ⟨c, fW, mq, rfl⟩ : cP b.aO.length c ∈ jz b)
  rw [← ej]
  exact g2 j hj
theorem ad5 {b : aq} : ((de b).length == 0) = !nZ b := by
 unfold nZ
 cases de b <;> rfl
theorem abb {n : Nat} : (((n : Nat) : Int) == 0) = (n == 0) := by
 rw [Bool.eq_iff_iff, beq_iff_eq, beq_iff_eq]
 omega
theorem axX (n : Nat) : cP n 0 = [] := by simp [cP]
theorem aT4 (b : aq) (x : Nat) (hx : x < 256) : m12 b x = some true := by
 unfold m12
 rw [aMg, azk, Option.bind_some]
 cases hg : Cb b with
 | true => rfl
 | false =>
 by_cases h1 : dg b = 0
 case neg =>
  have : (dg b == 0) = false := by simpa using h1
  rw [this]
  rfl
 have hs := aeo hg
 have hv := tV hs h1
 have h4 := hv.yM
 simp only [h1, Bool.not_false, beq_self_eq_true, Bool.and_true, Bool.not_true, bF]
 obtain ⟨l, h, e31, hc⟩ := aMe hs h1
 have hch : ∀ a, dg (kR b (kU b a)) = 0 := λ a => aCh hs h1 (by have := aBQ b a; omega) (aBR b a)
 have e44 : ∀ a, oH (kR b (kU b a)) = some (((de (kR b (kU b a))).length : Int), 0) := λ a => by
  rw [aR7 (aB9 hs (by have := aBQ b a; omega))]
  unfold aDd
  rw [if_neg (by simpa using hch a)]
 have e65 : ∀ a, tL b (cP b.aO.length a) = some (kR b (kU b a)) := aDN h4
 have eb : oH b = some (((de b).length : Int), 0) := by
  rw [aR7 hs]
  unfold aDd
  rw [if_neg (by simpa using h1)]
 have e0 : tL b [] = some (kR b (kU b 0)) := by rw [← axX b.aO.length]; exact e65 0
 rw [e31, Option.bind_some, eb, Option.bind_some, e0, Option.bind_some, e44, Option.bind_some]
 have hp : (0 : Nat) < 2 ^ b.aO.length := Nat.two_pow_pos _
 have hlen : l.length ≤ 4 := by
  cases hcb : nZ b with
  | true => rw [(hc.aCo hcb).1]; simp
  | false =>
   obtain ⟨a, ha, rfl, _⟩ := hc.odd hcb
   exact (Wo (by omega) ha).2.2.2.2.1
 simp only [abb, ad5, bne_self_eq_false, bF, afD (l := l) (below := (b.aO.length : Int)) (by omega) (by omega) (by omega), Option.bind_some]
 cases hcb : nZ b with
 | true =>
  obtain ⟨rfl, rfl⟩ := hc.aCo hcb
  have h0 : nZ (kR b (kU b 0)) = true := aTc (hs' := b.aO) (aBR b 0) hcb
  have hn : 0 < (de b).length := by
   have := ad5 (b := b)
   rw [hcb] at this
   rcases Nat.eq_zero_or_pos (de b).length with hz | hz
   ·rw [hz] at this; cases this
   ·exact hz
  simp only [h0, show decide (((de b).length : Int) > 0) = true by simpa using hn]
  rfl
 | false =>
 obtain ⟨a, ha, rfl, hca, hmin, rfl⟩ := hc.odd hcb
 have hn : decide (((de b).length : Int) > 0) = false := by
  have := ad5 (b := b)
  rw [hcb] at this
  have : (de b).length = 0 := by simpa using this
  simp [this]
 obtain ⟨c1, c2, c3, c4, c5, c6, c7⟩ := Wo (n := b.aO.length) (by omega) ha
 simp only [c1, hn]
 by_cases ha0 : a = 0
 ·subst ha0
  rw [axX, hca]
  rfl
 ·have IQ : ¬ (cP b.aO.length a).length = 0 := λ h => ha0 (c2.1 h)
  have h0 : nZ (kR b (kU b 0)) = true := by
   cases h : nZ (kR b (kU b 0)) with
   | true => rfl
   | false =>
    have := hmin 0 hp h
    rw [axX, c3 ha0] at this
    cases this
  have aTm : ((cP b.aO.length a).length == 0) = false := by simpa using IQ
  have ex := aU3 (x := x) (n := b.aO.length) hx (by omega)
  have hxm : x % 2 ^ b.aO.length < 2 ^ b.aO.length := Nat.mod_lt _ hp
  simp only [h0, IQ, aTm, if_false, e65, e44, ex, Option.bind_some, Bool.not_true, bne_self_eq_false, bF, abb, ad5, hca, Bool.not_false, (afG (n := b.aO.length) (by omega) hxm ha).2.1]
  have hp : (ah (!nZ (kR b (kU b (x % 2 ^ b.aO.length)))) (some (nU (cP b.aO.length (x % 2 ^ b.aO.length)) (cP b.aO.length a))) (some false)) = some false := by
   cases h : nZ (kR b (kU b (x % 2 ^ b.aO.length))) with
   | true => rfl
   | false => rw [hmin _ hxm h]; rfl
  have hq : ((((de (kR b (kU b a))).length : Nat) : Int) != 0) = false := by
   have := ad5 (b := kR b (kU b a))
   rw [hca] at this
   have : (de (kR b (kU b a))).length = 0 := by simpa using this
   simp [this]
  simp only [show (((0 : Int) == 8) == false) = true from rfl, Bool.not_true, bF, Option.bind_some, hp, hq]
  refine (lz (o := Sum.inl ()) ?_).trans rfl
  refine qN (λ i : Nat => (i : Int)) (cP b.aO.length a).length (λ i hi => ?_) ?_
  ·obtain ⟨c, fW, aTe, j8⟩ := c6 i hi
   have mq : nZ (kR b (kU b c)) = true := by
    cases h : nZ (kR b (kU b c)) with
    | true => rfl
    | false => rw [hmin c fW h] at j8; cases j8
   have hz : (((de (kR b (kU b c))).length : Int) == 0) = false := by rw [abb, ad5, mq]; rfl
   simp only [dec_lt hi, cm, aTe, Option.bind_some, e65, e44, hz, bne_self_eq_false, bF, eo (i := i) (by omega)]
  ·simp only [eR, bF]
end Go.Proofs.YtabamagholjdcaaGreatDoor
