/- Plain laws of chapter 6, the rest. Conditions: none. -/
import Derived.Test.YtabamagholjdcaaGreatDoorR3HuL
import Derived.Test.YtabamagholjdcaaGreatDoorQAHuC
namespace Go.Proofs.YtabamagholjdcaaGreatDoor
open Go.Lg Go.Proofs
set_option maxRecDepth 10000
def cP (n a : Nat) : List Int := ((List.range n).filter λ i => a.testBit i).map λ (i : Nat) => (i : Int)
set_option maxRecDepth 1000000 in
theorem abb {n : Nat} : (((n : Nat) : Int) == 0) = (n == 0) := by
 rw [Bool.eq_iff_iff, beq_iff_eq, beq_iff_eq]
 omega
end Go.Proofs.YtabamagholjdcaaGreatDoor
namespace Go.Proofs.YtabamagholjdcaaGreatDoor
open Go.Lg Go.Proofs
set_option maxRecDepth 10000
def V8 (m : Int) : Int := if m < 0 then -m else m
theorem aSc {w m : Int} (h0 : 0 ≤ w) (h1 : -1000000 ≤ m) (h2 : m ≤ 1000000) : jK w [m, i64 (0 - m)] = max w (V8 m) := by
 rw [jk (by omega) (by omega)]
 unfold V8
 show (if 0 - m > (if m > w then m else w) then 0 - m else (if m > w then m else w)) = _
 rw [Int.max_def]
 split <;> split <;> split <;> first | omega | (split <;> omega)
def Ln (b : aq) (c : cB) (out : List Int) : Int := nT b c.aa c.fD out
def Em (b : aq) (out : List Int) : Int := (de b).foldl (λ w c => max w (V8 (Ln b c out))) 0
theorem aKC {b : aq} {c : cB} (h : c ∈ de b) : c.fD ∈ oT b ∧ b.aa.an ≤ c.aa ∧ c.aa ≤ b.aa.ax ∧ lK b c.aa c.fD = true := by
 simp only [de, List.mem_flatMap, List.mem_map, List.mem_filter] at h
 obtain ⟨n, hn, w, ⟨hw, hs⟩, rfl⟩ := h
 exact ⟨hw, (ax0.1 hn).1, (ax0.1 hn).2, hs⟩
theorem aBK {b : aq} (hv : Valid b) {c : cB} (h : c ∈ de b) : c.fD.length = b.az.length ∧ vP b c.aa c.fD := by
 obtain ⟨h1, h2, h3, _⟩ := aKC h
 have hm := aCf h1
 have hb := hv.fB
 exact ⟨hm.1, ⟨by omega, by omega, λ k hk => by
  have g1 := hm.2 k hk
  have g2 := (hv.each k hk).weight
  omega⟩⟩
theorem aMj {b : aq} (hv : Valid b) {c : cB} (h : c ∈ de b) (out : List Int) : -6000 ≤ Ln b c out ∧ Ln b c out ≤ 6000 := aB4 hv (aBK hv h).2
theorem aR1 {b : aq} (hv : Valid b) {c : cB} (h : c ∈ de b) (out : List Int) : oU b (wk c) (dZ out) = some (Ln b c out) := by
 obtain ⟨hl, hf⟩ := aBK hv h
 unfold wk Ln
 rw [afo hv (ae7 hv hl hf), afE hv hl]
theorem afj {α : Type} (f : α → Int) : ∀ (l : List α) (w k : Int), l.foldl (λ w c => max w (f c)) w ≤ k ↔ w ≤ k ∧ ∀ c ∈ l, f c ≤ k
 | [], _, _ => by simp
 | a :: l, w, k => by
  rw [List.foldl_cons, afj f l]
  simp only [List.mem_cons, forall_eq_or_imp]
  rw [Int.max_le, and_assoc]
theorem aen {α : Type} (f : α → Int) : ∀ (l : List α) (w : Int), w ≤ l.foldl (λ w c => max w (f c)) w
 | [], _ => Int.le_refl _
 | a :: l, w => by
  rw [List.foldl_cons]
  have := aen f l (max w (f a))
  omega
theorem aD6 (b : aq) (out : List Int) (k : Int) (hk : 0 ≤ k) : Em b out ≤ k ↔ ∀ c ∈ de b, V8 (Ln b c out) ≤ k := by
 unfold Em
 rw [afj]
 exact ⟨λ h => h.2, λ h => ⟨hk, h⟩⟩
theorem aUR {b : aq} {c : cB} {out out' : List Int} (h : ∀ i : Nat, i < b.az.length → out.contains (i : Int) = out'.contains (i : Int)) : Ln b c out = Ln b c out' := V2 _ (λ _ _ => rfl) h
theorem aVj {b : aq} {out out' : List Int} (h : ∀ i : Nat, i < b.az.length → out.contains (i : Int) = out'.contains (i : Int)) : Em b out = Em b out' := by
 unfold Em
 congr 1
 funext w c
 rw [aUR h]
theorem aS3 {l l' : List Int} (h : dZ l = dZ l') {i : Nat} (hi : i < 5) : l.contains (i : Int) = l'.contains (i : Int) := by
 have h1 : (dZ l)[i]? = (dZ l')[i]? := by rw [h]
 simp only [dZ, List.getElem?_map, List.getElem?_range hi, Option.map_some, Option.some.injEq] at h1
 exact h1
def aSb (P i : Nat) : List Bool := (List.range 5).map λ j => decide (j < P) && i.testBit j
def aSt (P : Nat) : Bool := decide ((List.range (2 ^ P)).map λ i => dZ (cP P i)).Nodup && ((List.range (2 ^ P)).all λ i => dZ (cP P i) == aSb P i) && (xZ .i64 1 (P : Int) == some ((2 ^ P : Nat) : Int)) &&
 ((List.range (2 ^ P)).all λ i => (List.range P).all λ j => (tU .i64 i j).bind (λ x => wL .and .i64 x 1) == some (if i.testBit j then 1 else 0)) &&
 ((List.range 32).all λ v => (List.range (2 ^ P)).any λ i => ((List.range 5).map λ j => decide (j < P) && v.testBit j) == dZ (cP P i))
set_option maxRecDepth 1000000 in
theorem aU5 : ((List.range 6).all aSt) = true := by decide +kernel
def aD3 (v : List Bool) : Nat := (List.range 32).find? (λ n => (List.range 5).map (λ j => n.testBit j) == v) |>.getD 0
theorem aU6 : ∀ a b c d e : Bool, (List.range 5).map (λ j => (aD3 [a, b, c, d, e]).testBit j) = [a, b, c, d, e] ∧ aD3 [a, b, c, d, e] < 32 := by decide +kernel
theorem aPB {P : Nat} (h : P < 6) : ((List.range (2 ^ P)).map λ i => dZ (cP P i)).Nodup ∧ (∀ i, i < 2 ^ P → dZ (cP P i) = aSb P i) ∧ xZ .i64 1 (P : Int) = some ((2 ^ P : Nat) : Int) ∧
  (∀ i : Nat, i < 2 ^ P → ∀ j : Nat, j < P → (tU .i64 i j).bind (λ x => wL .and .i64 x 1) = some (if i.testBit j then 1 else 0)) ∧
  ∀ out : List Int, (∀ x ∈ out, x < (P : Int)) → ∃ i, i < 2 ^ P ∧ dZ (cP P i) = dZ out := by
 have := aU5
 simp only [List.all_eq_true, List.mem_range] at this
 have h1 := this P h
 simp only [aSt, Bool.and_eq_true, decide_eq_true_eq, List.all_eq_true, List.mem_range, beq_iff_eq, List.any_eq_true] at h1
 obtain ⟨⟨⟨⟨h1, h2⟩, h3⟩, h4⟩, h5⟩ := h1
 refine ⟨h1, h2, h3, h4, λ out ho => ?_⟩
 have hv := aU6 (out.contains 0) (out.contains 1) (out.contains 2) (out.contains 3) (out.contains 4)
 obtain ⟨i, hi, he⟩ := h5 _ hv.2
 refine ⟨i, hi, he.symm.trans ?_⟩
 have hg : dZ out = [out.contains 0, out.contains 1, out.contains 2, out.contains 3, out.contains 4] := rfl
 have h7 : (List.range 5).map (λ j => (aD3 [out.contains 0, out.contains 1, out.contains 2, out.contains 3, out.contains 4]).testBit j) = dZ out := hv.1.trans hg.symm
 generalize aD3 [out.contains 0, out.contains 1, out.contains 2, out.contains 3, out.contains 4] = v at h7
 unfold dZ
 apply List.map_congr_left
 intro j hj
 have hj5 := List.mem_range.1 hj
 have h6 := congrArg (λ l => l[j]?) h7
 simp only [dZ, List.getElem?_map, List.getElem?_range hj5, Option.map_some, Option.some.injEq] at h6
 rw [h6]
 by_cases hjP : j < P
 ·rw [decide_eq_true hjP, Bool.true_and]
 ·have hc : out.contains (j : Int) = false := by
   rw [List.contains_eq_mem, decide_eq_false_iff_not]
   intro hm
   have := ho _ hm
   omega
  rw [hc, Bool.and_false]
theorem aUU {n : Nat} (h : n < 6) : 2 ^ n ≤ 32 := by
 match n, h with
 | 0, _ => decide
 | 1, _ => decide
 | 2, _ => decide
 | 3, _ => decide
 | 4, _ => decide
 | 5, _ => decide
abbrev aDT (b : aq) : cW := ⟨b, (de b).map wk, []⟩
theorem aUi {b : aq} (hv : Valid b) {i : Nat} (hi : i < 2 ^ b.az.length) : yx (aDT b) (i : Int) = some (dZ (cP b.az.length i), Em b (cP b.az.length i)) := by
 unfold yx
 have h5 := hv.n5
 obtain ⟨_, t2, _, t4, _⟩ := aPB (P := b.az.length) (by omega)
 have fW := Yz hv
 refine (lz (o := dZ (cP b.az.length i)) ?_).trans ?_
 ·rw [t2 i hi]
  have e0 : ((0 : Int), [false, false, false, false, false]) = (λ k : Nat => ((k : Int), (List.range 5).map λ j => decide (j < k) && i.testBit j)) 0 := rfl
  rw [e0]
  refine qN (λ k : Nat => ((k : Int), (List.range 5).map λ j => decide (j < k) && i.testBit j)) b.az.length (λ k hk => ?_) (by simp only [eR, bF]; rfl)
  have hb := t4 i hi k hk
  obtain ⟨x, hx, hb⟩ := ao hb
  have hg : ((List.range 5).map λ j => decide (j < k) && i.testBit j)[k]? = some false := by
   rw [List.getElem?_map, List.getElem?_range (by omega)]
   simp
  simp only [dec_lt hk, cm, hx, hb, Option.bind_some, dD, hg, eo (i := k) (by omega), Int.toNat_natCast]
  have zY : ((List.range 5).map λ j => decide (j < k) && i.testBit j).set k (i.testBit k) = (List.range 5).map λ j => decide (j < k + 1) && i.testBit j := by
   apply List.ext_getElem?
   intro q
   rw [List.getElem?_set]
   by_cases hq : q < 5
   ·by_cases hkq : k = q
    ·subst hkq
     simp [hq]
    ·simp only [hkq, if_false, List.getElem?_map, List.getElem?_range hq, Option.map_some]
     by_cases h1 : q < k
     ·simp [h1, show q < k + 1 by omega]
     ·simp [h1, show ¬ q < k + 1 by omega]
   ·rw [if_neg (by omega)]
    simp [hq]
  rw [show ((if i.testBit k = true then (1 : Int) else 0) == 1) = i.testBit k by cases i.testBit k <;> rfl, zY]
 ·rw [lz (o := Em b (cP b.az.length i)) ?_]
  have e0 : ((0 : Int), (0 : Int)) = (λ k : Nat => (((de b).take k).foldl (λ w c => max w (V8 (Ln b c (cP b.az.length i)))) 0, (k : Int))) 0 := rfl
  rw [e0]
  refine qN (λ k : Nat => (((de b).take k).foldl (λ w c => max w (V8 (Ln b c (cP b.az.length i)))) 0, (k : Int))) (de b).length (λ k hk => ?_) (by simp only [List.length_map, eR, bF, List.take_length]; rfl)
  have hc : (de b)[k] ∈ de b := List.getElem_mem hk
  have hmb := aMj hv hc (cP b.az.length i)
  simp only [List.length_map, dec_lt hk, cm, dD, List.getElem?_map, List.getElem?_eq_getElem hk, Option.map_some, Option.bind_some, aR1 hv hc, eo (i := k) (by omega)]
  rw [aSc (aen _ _ _) (by omega) (by omega), List.take_succ_eq_append_getElem hk, List.foldl_append]
  rfl
def VN (b : aq) : fK := (List.range (2 ^ b.az.length)).map λ i => (dZ (cP b.az.length i), Em b (cP b.az.length i))
theorem mapM_some {α β : Type} {f : α → Option β} {g : α → β} : ∀ (l : List α), (∀ a ∈ l, f a = some (g a)) → l.mapM f = some (l.map g)
 | [], _ => rfl
 | a :: l, h => by
  rw [List.mapM_cons, h a (by simp), mapM_some l λ x hx => h x (by simp [hx])]
  rfl
theorem aDP {b : aq} (hv : Valid b) : v8 (aDT b) = some (VN b) := by
 unfold v8
 have h5 := hv.n5
 obtain ⟨t1, _, t3, _⟩ := aPB (P := b.az.length) (by omega)
 have hp := aUU (n := b.az.length) (by omega)
 rw [t3, Option.bind_some, Int.toNat_natCast, mapM_some (g := λ i => (dZ (cP b.az.length i), Em b (cP b.az.length i))) _ (λ i hi => aUi hv (List.mem_range.1 hi)), Option.bind_some, if_pos]
 ·rfl
 ·refine ⟨rfl, by rw [List.map_map]; exact t1, λ p hp => ?_, Int.natCast_nonneg _, by generalize 2 ^ b.az.length = q at hp; omega⟩
  obtain ⟨i, _, rfl⟩ := List.mem_map.1 hp
  exact aS4 _
theorem aSu {b : aq} (hv : Valid b) {out : List Int} (ho : ∀ x ∈ out, x < (b.az.length : Int)) : lM (VN b) (dZ out) = Em b out := by
 have h5 := hv.n5
 obtain ⟨_, _, _, _, t5⟩ := aPB (P := b.az.length) (by omega)
 obtain ⟨i, hi, he⟩ := t5 out ho
 unfold lM VN
 have key : ∀ l : List Nat, i ∈ l → ((l.map λ i => (dZ (cP b.az.length i), Em b (cP b.az.length i))).lookup (dZ out)).getD 0 = Em b out := by
  intro l
  induction l with
  | nil => intro h; cases h
  | cons a l ih =>
   intro hm
   rw [List.map_cons, List.lookup_cons]
   by_cases hk : dZ out = dZ (cP b.az.length a)
   ·rw [show (dZ out == dZ (cP b.az.length a)) = true by simpa using hk]
    exact aVj λ j hj => aS3 hk.symm (by omega)
   ·rw [show (dZ out == dZ (cP b.az.length a)) = false by simpa using hk]
    refine ih ?_
    rcases List.mem_cons.1 hm with rfl | h
    ·exact absurd he.symm hk
    ·exact h
 exact key _ (List.mem_range.2 hi)
end Go.Proofs.YtabamagholjdcaaGreatDoor
namespace Go.Proofs.YtabamagholjdcaaGreatDoor
open Go.Lg Go.Proofs
set_option maxRecDepth 10000
def IN (b : aq) (o : List Int) : List (List Int) := (List.range o.length).map λ i => b.Out ++ o.take (i + 1)
theorem aMd {b : aq} (hv : Valid b) {o : List Int} (ho : wj o) (hl : o.length ≤ 1000) {S : Type} (ys : List Bool → S → Option (S × Bool)) {s : S} {r : S × Bool} (hr : kS ys ((IN b o).map dZ) s = some r) : qO ys b o s = some r.1 := by
 unfold qO
 have hos := hv.small.out
 rw [Wm hv.in5 (by omega), Option.bind_some]
 have e0 : (s, (0 : Int), dZ b.Out) = (s, (λ q : Nat => ((q : Int), dZ (b.Out ++ o.take q))) 0) := by simp
 rw [e0]
 refine (lz (ad7 (ys := ys) (E := S) (λ s => s) (λ q : Nat => ((q : Int), dZ (b.Out ++ o.take q))) (λ q => [dZ (b.Out ++ o.take (q + 1))]) o.length (λ q s r hq hr => ?_) (λ s => ?_) (s := s) (r := r) ?_)).trans ?_
 rotate_right
 ·cases h2 : r.2 with
  | true => simp
  | false => simp
 ·have hx := ho _ (jy hq)
  have h1 : wj [nth o q] := λ x hx' => by simp at hx'; subst hx'; exact hx
  simp only [kS] at hr
  obtain ⟨z, hz, hr⟩ := ao hr
  have et : b.Out ++ o.take q ++ [nth o q] = b.Out ++ o.take (q + 1) := by
   rw [List.append_assoc, List.take_succ_eq_append_getElem hq]
   have := cO hq
   rw [List.getElem?_eq_getElem hq] at this
   rw [Option.some.inj this]
  simp only [dec_lt hq, cm, dD, cO hq, Option.bind_some, V1 h1 (by simp), et, hz, eo (i := q) (by omega)]
  cases h2 : z.2 with
  | true => rw [h2, if_pos rfl] at hr; cases hr; simp [bF]
  | false => rw [h2, if_neg (by simp)] at hr; cases hr; simp [cm]
 ·simp only [eR, bF]
 ·rw [← hr, afg]
  congr 1
  simp [IN, List.map_map]
def vT (b : aq) (o : List Int) : Int := (IN b o).foldl (λ w g => max w (Em b g)) 0
theorem aRy {b : aq} {o : List Int} (hb : ∀ x ∈ b.Out, x < (b.az.length : Int)) (ho : ∀ x ∈ o, x < (b.az.length : Int)) : ∀ g ∈ IN b o, ∀ x ∈ g, x < (b.az.length : Int) := λ g hg x hx => by
 simp only [IN, List.mem_map, List.mem_range] at hg
 obtain ⟨i, _, rfl⟩ := hg
 rcases List.mem_append.1 hx with h | h
 ·exact hb x h
 ·exact ho x (List.mem_of_mem_take h)
theorem aSm {b : aq} (hv : Valid b) : ∀ x ∈ b.Out, x < (b.az.length : Int) := λ x hx => by
 have := Ns.1 (ad6 hv.out x hx)
 omega
def IsP (b : aq) (o : List Int) : Prop := ∀ x ∈ o, 0 ≤ x ∧ x < (b.az.length : Int)
theorem aLW {b : aq} (hv : Valid b) {o : List Int} (h : IsP b o) : wj o := λ x hx => by
 have := h x hx
 have := hv.n5
 omega
theorem aMi {b : aq} (hv : Valid b) {o : List Int} (ho : IsP b o) (hl : o.length ≤ 1000) : xO ⟨b, (de b).map wk, VN b⟩ o = some (vT b o) := by
 unfold xO xF
 rw [Option.bind_some]
 dsimp only
 have key : ∀ (l : List (List Int)) (w : Int), 0 ≤ w → (∀ g ∈ l, ∀ x ∈ g, x < (b.az.length : Int)) → kS (c9 (O := Empty) λ (x : List Bool) (s : Int) => some (.inl (jK s [lM (VN b) x]))) (l.map dZ) (.inl w) = some (.inl (l.foldl (λ w g => max w (Em b g)) w), true) := by
  intro l
  induction l with
  | nil => intro w _ _; rfl
  | cons g l ih =>
   intro w hw h
   have e : jK w [Em b g] = max w (Em b g) := by
    show (if Em b g > w then Em b g else w) = _
    rw [Int.max_def]
    split <;> split <;> omega
   simp only [List.map_cons, kS, c9, Option.map_some, Option.bind_some, Sum.isLeft_inl, if_true, List.foldl_cons, aSu hv (h g (by simp)), e]
   exact ih _ (by omega) (λ g' hg' => h g' (by simp [hg']))
 rw [aMd hv (aLW hv ho) hl _ (r := (.inl (vT b o), true)) (key _ 0 (by omega) (aRy (aSm hv) λ x hx => (ho x hx).2))]
 rfl
def D4 (b : aq) : Nat → List Int → List Int → List (List Int)
 | 0, _, pre => [pre]
 | j + 1, out, pre => if qb b out = [] then [pre] else (qb b out).flatMap λ n => D4 b j (out ++ [n]) (pre ++ [n])
def yN (b : aq) : List (List Int) := D4 b b.az.length b.Out []
def left (b : aq) (out : List Int) : Nat := ((List.range b.az.length).filter λ (i : Nat) => !out.contains (i : Int)).length
theorem axZ {b : aq} {out : List Int} {n : Int} : n ∈ qb b out ↔ ∃ i : Nat, i < b.az.length ∧ n = (i : Int) ∧ qa b out (i : Int) = true := by
 simp only [qb, List.mem_filterMap, List.mem_range]
 constructor
 ·rintro ⟨i, hi, h⟩
  split at h
  ·rename_i hc; cases h; exact ⟨i, hi, rfl, hc⟩
  ·cases h
 ·rintro ⟨i, hi, rfl, hc⟩
  exact ⟨i, hi, by rw [if_pos hc]⟩
theorem aCg {b : aq} {out : List Int} {p : Int} (h : qa b out p = true) : out.contains p = false := by
 unfold qa at h
 rw [Bool.and_eq_true] at h
 simpa using h.1
theorem aCn {p q : Nat → Bool} {i : Nat} : ∀ l : List Nat, l.Nodup → i ∈ l → p i = true → q i = false → (∀ j, j ∈ l → j ≠ i → p j = q j) → (l.filter p).length = (l.filter q).length + 1
 | [], _, h, _, _, _ => by cases h
 | a :: l, hn, hm, hp, hq, he => by
  rw [List.nodup_cons] at hn
  by_cases ha : a = i
  ·subst ha
   have hl : l.filter p = l.filter q := List.filter_congr λ j hj => he j (by simp [hj]) (λ e => hn.1 (e ▸ hj))
   simp [List.filter_cons, hp, hq, hl]
  ·have hm' : i ∈ l := by
    rcases List.mem_cons.1 hm with h | h
    ·exact absurd h.symm ha
    ·exact h
   have ih := aCn l hn.2 hm' hp hq (λ j hj => he j (by simp [hj]))
   have ea := he a (by simp) ha
   rw [List.filter_cons, List.filter_cons, ea]
   cases q a <;> simp [ih]
theorem afm {b : aq} {out : List Int} {i : Nat} (hi : i < b.az.length) (h : out.contains (i : Int) = false) : left b out = left b (out ++ [(i : Int)]) + 1 := by
 unfold left
 refine aCn (i := i) _ List.nodup_range (List.mem_range.2 hi) (by rw [h]; rfl) ?_ λ j hj hne => ?_
 ·simp
 ·simp only [List.contains_eq_mem, List.mem_append, List.mem_singleton, Int.natCast_inj, hne, or_false]
theorem aKY {b : aq} {out : List Int} (h : left b out = 0) : qb b out = [] := by
 cases hf : qb b out with
 | nil => rfl
 | cons n l =>
  obtain ⟨i, hi, _, hc⟩ := axZ.1 (show n ∈ qb b out by rw [hf]; simp)
  have := afm hi (aCg hc)
  omega
theorem aS2 {b : aq} (hv : Valid b) {out : List Int} (h : qb b out = []) : ∀ i : Nat, i < b.az.length → out.contains (i : Int) = true := by
 have key : ∀ k, k ≤ b.az.length → ∀ i : Nat, b.az.length - k ≤ i → i < b.az.length → out.contains (i : Int) = true := by
  intro k
  induction k with
  | zero => intro _ i h1 h2; omega
  | succ k ih =>
   intro hk i h1 h2
   by_cases hi : b.az.length - k ≤ i
   ·exact ih (by omega) i hi h2
   ·cases hc : out.contains (i : Int) with
    | true => rfl
    | false =>
     have fW : qa b out (i : Int) = true := by
      unfold qa
      rw [hc, Bool.not_false, Bool.true_and, List.all_eq_true]
      intro j hj
      have hj := List.mem_range.1 hj
      cases hr : p8 b (i : Int) j with
      | false => simp
      | true =>
       unfold p8 at hr
       have Z7 := aKD (hv.each j hj).on (i : Int) (by simpa using hr)
       rw [ih (by omega) j (by omega) hj]
       rfl
     have := axZ.2 ⟨i, h2, rfl, fW⟩
     rw [h] at this
     cases this
 intro i hi
 exact key _ (Nat.le_refl _) i (by omega) hi
theorem aSi {b : aq} (hv : Valid b) : ∀ (j : Nat) (out pre : List Int), left b out ≤ j → ∀ o ∈ D4 b j out pre, ∃ t, o = pre ++ t ∧ iZ b out t = 0 ∧ qb b (out ++ t) = []
 | 0, out, pre, hl, o, ho => by
  simp only [D4, List.mem_singleton] at ho
  exact ⟨[], by simp [ho], rfl, by rw [List.append_nil]; exact aKY (by omega)⟩
 | j + 1, out, pre, hl, o, ho => by
  simp only [D4] at ho
  split at ho
  ·rename_i hf
   rw [List.mem_singleton] at ho
   exact ⟨[], by simp [ho], rfl, by rw [List.append_nil]; exact hf⟩
  ·obtain ⟨n, hn, ho⟩ := List.mem_flatMap.1 ho
   obtain ⟨i, hi, rfl, hc⟩ := axZ.1 hn
   have hnc := aCg hc
   obtain ⟨t, e, h1, h2⟩ := aSi hv j _ _ (by have := afm hi hnc; omega) o ho
   refine ⟨(i : Int) :: t, by simp [e], afn.2 ⟨Ns.2 (by omega), hnc, hc, h1⟩, by rw [← List.append_cons] at h2; exact h2⟩
theorem aSj {b : aq} : ∀ (j : Nat) (out pre : List Int), D4 b j out pre ≠ []
 | 0, _, _ => by simp [D4]
 | j + 1, out, pre => by
  simp only [D4]
  cases hf : qb b out with
  | nil => simp
  | cons n l =>
   rw [if_neg (by simp), List.flatMap_cons]
   intro h
   exact aSj j _ _ (List.append_eq_nil_iff.1 h).1
theorem aeQ {b : aq} : ∀ (t out : List Int), iZ b out t = 0 → left b out = left b (out ++ t) + t.length
 | [], out, _ => by simp
 | p :: t, out, h => by
  obtain ⟨h1, h2, _, h4⟩ := afn.1 h
  have hp := Ns.1 h1
  obtain ⟨i, rfl⟩ : ∃ i : Nat, p = (i : Int) := ⟨p.toNat, by omega⟩
  have := aeQ t _ h4
  have := afm (b := b) (i := i) (by omega) h2
  rw [List.append_assoc, List.singleton_append] at *
  simp only [List.length_cons]
  omega
theorem aBW (b : aq) : left b [] = b.az.length := by
 unfold left
 rw [List.filter_eq_self.2 (by simp), List.length_range]
theorem aRY {b : aq} (hv : Valid b) {out : List Int} (h : qb b out = []) : left b out = 0 := by
 have := aS2 hv h
 unfold left
 rw [List.filter_eq_nil_iff.2]
 ·rfl
 ·intro i hi
  rw [this i (List.mem_range.1 hi)]
  simp
theorem aL3 (b : aq) (out : List Int) : left b out ≤ b.az.length := Nat.le_trans (List.length_filter_le _ _) (by simp)
structure Ord (b : aq) (o : List Int) : Prop where
 lift : iZ b b.Out o = 0
 len : b.Out.length + o.length = b.az.length
theorem Ord.isP {b : aq} {o : List Int} (h : Ord b o) : IsP b o := λ x hx => by
 have := Ns.1 (ad6 h.lift x hx)
 omega
theorem aB8 {b : aq} (hv : Valid b) {o : List Int} (h : o ∈ yN b) : Ord b o := by
 obtain ⟨t, e, h1, h2⟩ := aSi hv _ _ _ (aL3 b _) o h
 rw [List.nil_append] at e
 subst e
 have e1 := aeQ _ _ hv.out
 have e2 := aeQ _ _ h1
 have e3 := aRY hv h2
 rw [aBW, List.nil_append] at e1
 exact ⟨h1, by omega⟩
theorem aSk (b : aq) : yN b ≠ [] := aSj _ _ _
theorem aR5 {b : aq} (hv : Valid b) {S : Type} (ys : List Int → S → Option (S × Bool)) : ∀ (j k : Nat) (out pre : List Int) (s : S) (r : S × Bool), left b out ≤ j → j < k → pre.length + j ≤ 100 → kS ys (D4 b j out pre) s = some r → yy ys k pre (dZ out) b s = some r
 | j, 0, _, _, _, _, _, hk, _, _ => by omega
 | j, k + 1, out, pre, s, r, hl, hk, hp, hr => by
  have h5 := hv.n5
  unfold yy
  rw [aR9 hv, Option.bind_some]
  by_cases hf : qb b out = []
  ·have hr' : kS ys [pre] s = some r := by
    cases j with
    | zero => exact hr
    | succ j => rw [D4, if_pos hf] at hr; exact hr
   rw [hf]
   simp only [List.length_nil, Int.ofNat_zero, Int.natCast_zero, beq_self_eq_true, cm]
   simp only [kS] at hr'
   obtain ⟨z, hz, hr'⟩ := ao hr'
   rw [hz, Option.bind_some]
   cases h2 : z.2 with
   | true => rw [h2, if_pos rfl] at hr'; cases hr'; rfl
   | false => rw [h2, if_neg (by simp)] at hr'; cases hr'; rfl
  ·cases j with
   | zero => exact absurd (aKY (by omega)) hf
   | succ j =>
   rw [D4, if_neg hf] at hr
   have hfl := afk b out
   have hlz : ((qb b out).length == 0) = false := by
    cases hx : qb b out with
    | nil => exact absurd hx hf
    | cons _ _ => rfl
   rw [abb, hlz, bF]
   have e0 : (s, (0 : Int)) = (s, (λ q : Nat => (q : Int)) 0) := rfl
   rw [e0]
   refine (lz (ad7 (ys := ys) (E := S × Bool) (λ s => (s, false)) (λ q : Nat => (q : Int)) (λ q => D4 b j (out ++ [nth (qb b out) q]) (pre ++ [nth (qb b out) q])) (qb b out).length (λ q s r hq hr => ?_) (λ s => ?_) (s := s) (r := r) ?_)).trans ?_
   rotate_right
   ·cases h2 : r.2 with
    | true => simp only [if_true, Sum.elim_inl]; rw [← h2]
    | false => simp only [Bool.false_eq_true, if_false, Sum.elim_inr]; rw [← h2]
   ·obtain ⟨i, hi, hn, hc⟩ := axZ.1 (jy hq)
    rw [hn] at hr
    have ih := aR5 hv ys j k (out ++ [(i : Int)]) (pre ++ [(i : Int)]) s r (by have := afm hi (aCg hc); omega) (by omega) (by simp; omega) hr
    have h1 : wj [(i : Int)] := λ x hx' => by simp at hx'; subst hx'; omega
    simp only [dec_lt hq, cm, dD, cO hq, hn, Option.bind_some, rH, eo (i := q) (by omega)]
    rw [mU (by simp; omega), Option.bind_some, Option.bind_some, mU (by simp; omega), Option.bind_some, V1 h1 (by simp), Option.bind_some, List.nil_append, ih, Option.bind_some]
    cases r.2 with
    | true => simp [bF]
    | false => simp [cm]
   ·simp only [eR, bF]
   ·rw [← hr]
    congr 1
    exact Zh (λ n => D4 b j (out ++ [n]) (pre ++ [n])) _
theorem aL6 {b : aq} (hv : Valid b) {S : Type} (ys : List Int → S → Option (S × Bool)) {s : S} {r : S × Bool} (hr : kS ys (yN b) s = some r) : rL ys b s = some r.1 := by
 unfold rL
 have h5 := hv.n5
 have hos := hv.small.out
 rw [Wm hv.in5 (by omega), Option.bind_some, aR5 hv ys b.az.length 9 b.Out [] s r (aL3 b _) (by omega) (by simp; omega) hr]
 rfl
end Go.Proofs.YtabamagholjdcaaGreatDoor
namespace Go.Proofs.YtabamagholjdcaaGreatDoor
open Go.Lg Go.Proofs
set_option maxRecDepth 10000
def abY (b : aq) (o : List Int) : Int := if iZ b b.Out o ≠ 0 then iZ b b.Out o else if b.Out.length + o.length ≠ b.az.length then 2 else 0
theorem aUT {b : aq} {o : List Int} : abY b o = 0 ↔ Ord b o := by
 unfold abY
 constructor
 ·intro h
  split at h
  ·rename_i h1; exact absurd h h1
  ·rename_i h1
   split at h
   ·cases h
   ·rename_i h2; exact ⟨by simpa using h1, by simpa using h2⟩
 ·rintro ⟨h1, h2⟩
  rw [if_neg (by simpa using h1), if_neg (by simpa using h2)]
theorem aUN {b : aq} (hs : Small b) (h1 : dg b = 0) {o : List Int} (hl : o.length ≤ 100) : BG b o = some (abY b o) := by
 have hv := tV hs h1
 have hos := hs.out
 have h5 := hv.n5
 unfold BG abY
 rw [Wm hv.in5 (by omega), Option.bind_some]
 obtain ⟨g, hg, _⟩ := aeY hs h5 hl b.Out
 rw [hg, Option.bind_some]
 by_cases h2 : iZ b b.Out o = 0
 ·simp only [h2, bne_self_eq_false, bF, ne_eq, not_true_eq_false, if_false]
  rw [jk (by omega) (by omega), show ((b.Out.length : Int) + (o.length : Int)) = ((b.Out.length + o.length : Nat) : Int) by omega, aDB]
  by_cases h3 : b.Out.length + o.length = b.az.length
  ·simp [h3, bF]
  ·simp [h3, cm]
 ·simp only [h2, ne_eq, not_false_eq_true, if_true, mK h2, cm]
def ynB : Bool → (Unit ⊕ Unit) × Bool
 | true => (.inl (), true)
 | false => (.inr (), false)
def V3 (b : aq) (o : List Int) (c : cB) : Bool := (IN b o).all λ g => !rJ b (Ln b c g)
theorem aUc {b : aq} (hv : Valid b) {o : List Int} (ho : IsP b o) (hl : o.length ≤ 1000) {c : cB} (hc : c ∈ de b) : Bz (wk c) (aDT b) o = some (V3 b o c) := by
 unfold Bz xF
 rw [Option.bind_some]
 dsimp only
 have key : ∀ l : List (List Int), kS (c9 λ (x : List Bool) (_ : Unit) => (oU b (wk c) x).bind λ jA => (vQ b jA).bind λ fC => ah fC (some (.inr ())) (some (.inl ()) : Option (Unit ⊕ Unit))) (l.map dZ) (.inl ()) = some (ynB (l.all λ g => !rJ b (Ln b c g))) := by
  intro l
  induction l with
  | nil => rfl
  | cons g l ih =>
   have hb := aMj hv hc g
   simp only [List.map_cons, kS, c9, aR1 hv hc, Option.bind_some, aBX (b := b) (m := Ln b c g) (by omega) (by omega), List.all_cons]
   cases rJ b (Ln b c g) with
   | true => rfl
   | false => simpa [bF] using ih
 rw [aMd hv (aLW hv ho) hl _ (key _)]
 unfold V3
 cases (IN b o).all λ g => !rJ b (Ln b c g) <;> rfl
def aCu (n all : Nat) : Int := if n = 0 then 2 else if n = all then 1 else 0
theorem aUb {b : aq} (hv : Valid b) {f : bu → Option Bool} {p : cB → Bool} (hf : ∀ c ∈ de b, f (wk c) = some (p c)) : By (aDT b) f = some (aCu ((de b).filter p).length (de b).length) := by
 unfold By
 have fW := Yz hv
 refine (lz (o := (((de b).filter p).length : Int)) ?_).trans ?_
 ·have e0 : ((0 : Int), (0 : Int)) = (λ k : Nat => (((((de b).take k).filter p).length : Int), (k : Int))) 0 := rfl
  rw [e0]
  refine qN (λ k : Nat => (((((de b).take k).filter p).length : Int), (k : Int))) (de b).length (λ k hk => ?_) (by simp only [List.length_map, eR, bF, List.take_length])
  have hc : (de b)[k] ∈ de b := List.getElem_mem hk
  have hfl : (((de b).take k).filter p).length ≤ k := Nat.le_trans (List.length_filter_le _ _) (by simp; omega)
  simp only [List.length_map, dec_lt hk, cm, dD, List.getElem?_map, List.getElem?_eq_getElem hk, Option.map_some, Option.bind_some, hf _ hc, eo (i := k) (by omega), eo (i := (((de b).take k).filter p).length) (by omega)]
  rw [List.take_succ_eq_append_getElem hk, List.filter_append, List.length_append]
  cases hp : p (de b)[k] with
  | true => simp [hp, cm]
  | false => simp [hp, bF]
 ·simp only [List.length_map]
  unfold aCu
  by_cases h1 : ((de b).filter p).length = 0
  ·rw [if_pos h1, h1]; rfl
  ·rw [if_neg h1, abb, show (((de b).filter p).length == 0) = false by simpa using h1, bF]
   by_cases h2 : ((de b).filter p).length = (de b).length
   ·rw [if_pos h2, h2, beq_self_eq_true, cm]
   ·rw [if_neg h2, show ((((de b).filter p).length : Int) == ((de b).length : Int)) = false by simp; omega, bF]
def aDY (b : aq) (o : List Int) : Int × Int :=
 if dg b ≠ 0 then (0, dg b) else if abY b o ≠ 0 then (0, abY b o) else if de b = [] then (0, 9) else (aCu ((de b).filter (V3 b o)).length (de b).length, 0)
theorem aUl {b : aq} (hs : Small b) {o : List Int} (hl : o.length ≤ 100) : tQ b o = some (aDY b o) := by
 unfold tQ aDY
 rw [axP hs (own := abY b o) (λ h1 => aUN hs h1 hl), Option.bind_some]
 unfold abO
 by_cases h1 : dg b = 0
 ·have hv := tV hs h1
  simp only [h1, ne_eq, not_true_eq_false, if_false]
  by_cases h2 : abY b o = 0
  ·simp only [h2, not_true_eq_false, if_false]
   by_cases h3 : de b = []
   ·rw [if_pos h3, if_pos h3]; rfl
   ·rw [if_neg h3, if_neg h3]
    simp only [bne_self_eq_false, bF]
    rw [aUb hv λ c hc => aUc hv (aUT.1 h2).isP (by omega) hc]
    rfl
  ·simp only [h2, not_false_eq_true, if_true, mK h2, cm]
 ·simp only [h1, ne_eq, not_false_eq_true, if_true, mK h1, cm]
theorem aSq {b : aq} (m : Int) : (!rJ b m) = decide (V8 m ≤ b.aE) := by
 rw [Bool.eq_iff_iff]
 unfold rJ V8
 simp only [Bool.not_eq_true', Bool.or_eq_false_iff, decide_eq_false_iff_not, decide_eq_true_eq]
 split <;> omega
theorem aQ8 (b : aq) (o : List Int) (k : Int) (hk : 0 ≤ k) : vT b o ≤ k ↔ ∀ g ∈ IN b o, Em b g ≤ k := by
 unfold vT
 rw [afj]
 exact ⟨λ h => h.2, λ h => ⟨hk, h⟩⟩
theorem aV8 {b : aq} (hv : Valid b) (o : List Int) : (∀ c ∈ de b, V3 b o c = true) ↔ vT b o ≤ b.aE := by
 have aLd := hv.limit.1
 rw [aQ8 _ _ _ aLd]
 unfold V3
 simp only [List.all_eq_true, aSq, decide_eq_true_eq]
 constructor
 ·intro h g hg
  rw [aD6 _ _ _ aLd]
  exact λ c hc => h c hc g hg
 ·intro h c hc g hg
  exact (aD6 _ _ _ aLd).1 (h g hg) c hc
theorem aSh {b : aq} (h5 : b.az.length ≤ 5) : ∀ (j : Nat) (out pre : List Int), (D4 b j out pre).length ≤ 5 ^ j
 | 0, _, _ => by simp [D4]
 | j + 1, out, pre => by
  have hf := afk b out
  have hp : 0 < 5 ^ j := Nat.pow_pos (by omega)
  simp only [D4]
  split
  ·rw [Nat.pow_succ]; simp only [List.length_cons, List.length_nil]; omega
  ·have key : ∀ l : List Int, (l.flatMap λ n => D4 b j (out ++ [n]) (pre ++ [n])).length ≤ l.length * 5 ^ j := by
    intro l
    induction l with
    | nil => simp
    | cons n l ih =>
     have := aSh h5 j (out ++ [n]) (pre ++ [n])
     simp only [List.flatMap_cons, List.length_append, List.length_cons, Nat.add_mul, Nat.one_mul]
     omega
   have h1 := key (qb b out)
   have h2 : (qb b out).length * 5 ^ j ≤ 5 * 5 ^ j := Nat.mul_le_mul_right _ (by omega)
   rw [Nat.pow_succ]
   omega
theorem aMl {b : aq} (hv : Valid b) : (yN b).length ≤ 3125 := by
 refine Nat.le_trans (aSh hv.n5 _ _ _) ?_
 exact Nat.pow_le_pow_right (by omega) hv.n5
def Iz (b : aq) (o : List Int) : Bool := decide (vT b o ≤ b.aE)
def aDU (b : aq) : Int × Int := if dg b ≠ 0 then (0, dg b) else if de b = [] then (0, 9) else (((yN b).filter (Iz b)).length, 0)
theorem aB7 {b : aq} (hv : Valid b) {o : List Int} (h : Ord b o) : o.length ≤ 5 := by
 have := h.len
 have := hv.n5
 omega
theorem aB3 (b : aq) : mY b = some 0 := rfl
theorem aUn {b : aq} (hs : Small b) : tR b = some (aDU b) := by
 unfold tR aDU
 rw [axP hs (own := 0) (λ _ => aB3 b), Option.bind_some]
 unfold abO
 by_cases h1 : dg b = 0
 ·have hv := tV hs h1
  have Wf := aMl hv
  simp only [h1, ne_eq, not_true_eq_false, if_false]
  by_cases h3 : de b = []
  ·rw [if_pos h3, if_pos h3]; rfl
  ·rw [if_neg h3, if_neg h3]
   simp only [bne_self_eq_false, bF]
   rw [aDP hv, Option.bind_some]
   have inner : ∀ o, Ord b o → qO (c9 λ (x : List Bool) (_ : Unit) => ah (decide (lM (VN b) x > b.aE)) (some (.inr ())) (some (.inl ()) : Option (Unit ⊕ Unit))) b o (.inl ()) = some (ynB (Iz b o)).1 := λ o ho => by
    have hlt := aRy (aSm hv) λ x hx => (ho.isP x hx).2
    have key : ∀ l : List (List Int), (∀ g ∈ l, ∀ x ∈ g, x < (b.az.length : Int)) → kS (c9 λ (x : List Bool) (_ : Unit) => ah (decide (lM (VN b) x > b.aE)) (some (.inr ())) (some (.inl ()) : Option (Unit ⊕ Unit))) (l.map dZ) (.inl ()) =
      some (ynB (l.all λ g => decide (Em b g ≤ b.aE))) := by
     intro l
     induction l with
     | nil => intro _; rfl
     | cons g l ih =>
      intro h
      have := ih (λ g' hg' => h g' (by simp [hg']))
      simp only [List.map_cons, kS, c9, aSu hv (h g (by simp)), List.all_cons]
      by_cases hw : Em b g ≤ b.aE
      ·rw [decide_eq_true hw, show decide (Em b g > b.aE) = false by simp; omega]
       simpa [bF] using this
      ·rw [decide_eq_false hw, show decide (Em b g > b.aE) = true by simp; omega]
       rfl
    rw [aMd hv (aLW hv ho.isP) (by have := aB7 hv ho; omega) _ (key _ hlt)]
    have e : ((IN b o).all λ g => decide (Em b g ≤ b.aE)) = Iz b o := by
     rw [Bool.eq_iff_iff]
     unfold Iz
     simp only [List.all_eq_true, decide_eq_true_eq]
     exact (aQ8 _ _ _ hv.limit.1).symm
    rw [e]
   have key : ∀ (l : List (List Int)) (k : Nat), k + l.length ≤ 4000 → (∀ o ∈ l, Ord b o) → kS (c9 (O := Empty) λ (NR : List Int) (gD : Int) => (xF b NR).bind λ iK =>
     (qO (c9 λ (x : List Bool) (_ : Unit) => ah (decide (lM (VN b) x > b.aE)) (some (.inr ())) (some (.inl ()) : Option (Unit ⊕ Unit))) iK.1 iK.2 (.inl ())).bind (Sum.elim (λ _ => some (.inl (i64 (gD + 1)))) λ _ => some (.inl gD))) l (.inl (k : Int)) = some (.inl ((k + (l.filter (Iz b)).length : Nat) : Int), true) := by
    intro l
    induction l with
    | nil => intro k _ _; simp [kS]
    | cons o l ih =>
     intro k hk h
     simp only [List.length_cons] at hk
     simp only [kS, c9]
     rw [show xF b o = some (b, o) from rfl, Option.bind_some, inner o (h o (by simp))]
     cases ho : Iz b o with
     | true =>
      simp only [ynB, if_true, Option.bind_some, Sum.elim_inl, Option.map_some, Sum.isLeft_inl, eo (i := k) (by omega)]
      rw [ih (k + 1) (by omega) (λ o' h' => h o' (by simp [h'])), List.filter_cons, ho]
      simp only [if_true, List.length_cons]
      congr 3
      omega
     | false =>
      simp only [ynB, Option.bind_some, Sum.elim_inr, Option.map_some, Sum.isLeft_inl, if_true]
      rw [ih k (by omega) (λ o' h' => h o' (by simp [h'])), List.filter_cons, ho]
      rfl
   have hk := key _ 0 (by omega) λ o ho => aB8 hv ho
   rw [show ((0 : Nat) : Int) = 0 from rfl] at hk
   rw [aL6 hv _ hk]
   simp
 ·simp only [h1, ne_eq, not_false_eq_true, if_true, mK h1, cm]
def cF (b : aq) (t : List Int × Int × Bool) (o : List Int) : List Int × Int × Bool := if (!t.2.2 || decide (vT b o < t.2.1)) = true then (o, vT b o, true) else t
def ae6 (b : aq) : List Int × Int × Bool := (yN b).foldl (cF b) ([], 0, false)
def aCa (b : aq) : List Int × Int × Int := if dg b ≠ 0 then ([], 0, dg b) else if de b = [] then ([], 0, 9) else ((ae6 b).1, (ae6 b).2.1, 0)
theorem aUr {b : aq} (hs : Small b) : yC b = some (aCa b) := by
 unfold yC aCa
 rw [axP hs (own := 0) (λ _ => aB3 b), Option.bind_some]
 unfold abO
 by_cases h1 : dg b = 0
 ·have hv := tV hs h1
  simp only [h1, ne_eq, not_true_eq_false, if_false]
  by_cases h3 : de b = []
  ·rw [if_pos h3, if_pos h3]; rfl
  ·rw [if_neg h3, if_neg h3]
   simp only [bne_self_eq_false, bF]
   rw [aDP hv, Option.bind_some]
   have key : ∀ (l : List (List Int)) (t : List Int × Int × Bool), (∀ o ∈ l, Ord b o) → kS (c9 (O := Empty) λ (D7 : List Int) (eW : List Int × Int × Bool) => (xO ⟨b, (de b).map wk, VN b⟩ D7).bind λ ek => (D2 ⟨eW.1, eW.2.1, eW.2.2⟩ D7 ek).bind λ ym => some (.inl (ym.NM, ym.number, ym.some_))) l (.inl t) = some (.inl (l.foldl (cF b) t), true) := by
    intro l
    induction l with
    | nil => intro t _; rfl
    | cons o l ih =>
     intro t h
     have ho := h o (by simp)
     have e : (D2 ⟨t.1, t.2.1, t.2.2⟩ o (vT b o)).bind (λ ym => some ((.inl (ym.NM, ym.number, ym.some_)) : (List Int × Int × Bool) ⊕ Empty)) = some (.inl (cF b t o)) := by
      unfold D2 cF
      obtain ⟨t1, t2, t3⟩ := t
      cases t3 with
      | false => rfl
      | true =>
       by_cases hw : vT b o < t2
       ·simp [hw, bF, cm]
       ·simp [hw, bF]
     simp only [kS, c9, aMi hv ho.isP (by have := aB7 hv ho; omega), Option.bind_some, e, Option.map_some, Sum.isLeft_inl, if_true, List.foldl_cons]
     exact ih _ (λ o' h' => h o' (by simp [h']))
   rw [show (⟨⟨b.aE, ⟨b.aa.an, b.aa.ax⟩, b.az, b.Out, b.aO⟩, (de b).map wk, VN b⟩ : cW) = ⟨b, (de b).map wk, VN b⟩ from rfl, aL6 hv _ (key _ _ λ o ho => aB8 hv ho)]
   rfl
 ·simp only [h1, ne_eq, not_false_eq_true, if_true, mK h1, cm]
theorem aJe (b : aq) : ∀ (l : List (List Int)) (t : List Int × Int × Bool), t.2.2 = true → t.2.1 = vT b t.1 → (l.foldl (cF b) t).2.1 = vT b (l.foldl (cF b) t).1 ∧ ((l.foldl (cF b) t).1 = t.1 ∨ (l.foldl (cF b) t).1 ∈ l) ∧ (l.foldl (cF b) t).2.1 ≤ t.2.1 ∧ ∀ o ∈ l, (l.foldl (cF b) t).2.1 ≤ vT b o
 | [], t, _, h => ⟨h, .inl rfl, Int.le_refl _, λ o ho => by cases ho⟩
 | o :: l, t, h1, h2 => by
  rw [List.foldl_cons]
  by_cases hw : vT b o < t.2.1
  ·have e : cF b t o = (o, vT b o, true) := by unfold cF; rw [h1]; simp [hw]
   obtain ⟨g1, g2, g3, g4⟩ := aJe b l (cF b t o) (by rw [e]) (by rw [e])
   rw [e] at g1 g2 g3 g4 ⊢
   refine ⟨g1, ?_, by simp only at g3; omega, λ o' ho' => ?_⟩
   ·rcases g2 with h | h
    ·exact .inr (by rw [h]; simp)
    ·exact .inr (by simp [h])
   ·rcases List.mem_cons.1 ho' with rfl | h
    ·exact g3
    ·exact g4 o' h
  ·have e : cF b t o = t := by unfold cF; rw [h1]; simp [hw]
   obtain ⟨g1, g2, g3, g4⟩ := aJe b l t h1 h2
   rw [e]
   refine ⟨g1, ?_, g3, λ o' ho' => ?_⟩
   ·rcases g2 with h | h
    ·exact .inl h
    ·exact .inr (by simp [h])
   ·rcases List.mem_cons.1 ho' with rfl | h
    ·omega
    ·exact g4 o' h
theorem aSV (b : aq) : (ae6 b).1 ∈ yN b ∧ (ae6 b).2.1 = vT b (ae6 b).1 ∧ ∀ o ∈ yN b, (ae6 b).2.1 ≤ vT b o := by
 unfold ae6
 cases hl : yN b with
 | nil => exact absurd hl (aSk b)
 | cons o l =>
  rw [List.foldl_cons, show cF b ([], 0, false) o = (o, vT b o, true) from rfl]
  obtain ⟨g1, g2, g3, g4⟩ := aJe b l (o, vT b o, true) rfl rfl
  refine ⟨?_, g1, λ o' ho' => ?_⟩
  ·rcases g2 with h | h
   ·rw [h]; simp
   ·simp [h]
  ·rcases List.mem_cons.1 ho' with rfl | h
   ·exact g3
   ·exact g4 o' h
end Go.Proofs.YtabamagholjdcaaGreatDoor
namespace Go.Proofs.YtabamagholjdcaaGreatDoor
open Go.Lg Go.Proofs
set_option maxRecDepth 10000
def aKX (b : aq) : Option (List Int) := (yN b).find? (Iz b)
def aBP (b : aq) : List Int × Bool × Int :=
 if dg b ≠ 0 then ([], false, dg b) else if de b = [] then ([], false, 9) else match aKX b with | some f => (f, true, 0) | none => ([], false, 0)
theorem aUp {b : aq} (hs : Small b) : yB b = some (aBP b) := by
 unfold yB aBP
 rw [axP hs (own := 0) (λ _ => aB3 b), Option.bind_some]
 unfold abO
 by_cases h1 : dg b = 0
 ·have hv := tV hs h1
  simp only [h1, ne_eq, not_true_eq_false, if_false]
  by_cases h3 : de b = []
  ·rw [if_pos h3, if_pos h3]; rfl
  ·rw [if_neg h3, if_neg h3]
   simp only [bne_self_eq_false, bF]
   rw [aDP hv, Option.bind_some]
   rw [show (⟨⟨b.aE, ⟨b.aa.an, b.aa.ax⟩, b.az, b.Out, b.aO⟩, (de b).map wk, VN b⟩ : cW) = ⟨b, (de b).map wk, VN b⟩ from rfl]
   have key : ∀ l : List (List Int), (∀ o ∈ l, Ord b o) → kS (c9 λ (x : List Int) (_ : Unit) => (xO ⟨b, (de b).map wk, VN b⟩ x).bind λ ek => ah (decide (ek ≤ b.aE)) (some (.inr x)) (some (.inl ()) : Option (Unit ⊕ List Int))) l (.inl ()) = some (match l.find? (Iz b) with | some f => (.inr f, false) | none => (.inl (), true)) := by
    intro l
    induction l with
    | nil => intro _; rfl
    | cons o l ih =>
     intro h
     have ho := h o (by simp)
     simp only [kS, c9, aMi hv ho.isP (by have := aB7 hv ho; omega), Option.bind_some, List.find?_cons]
     rw [show decide (vT b o ≤ b.aE) = Iz b o from rfl]
     cases Iz b o with
     | true => rfl
     | false =>
      have := ih λ o' h' => h o' (by simp [h'])
      simpa [bF] using this
   rw [aL6 hv _ (key _ λ o ho => aB8 hv ho)]
   unfold aKX
   cases (yN b).find? (Iz b) <;> rfl
 ·simp only [h1, ne_eq, not_false_eq_true, if_true, mK h1, cm]
def afF (b : aq) : List Int := (qb b b.Out).filter λ n => decide (vT b [n] ≤ b.aE)
def aB5 (b : aq) : List Int × Int := if dg b ≠ 0 then ([], dg b) else if de b = [] then ([], 9) else (afF b, 0)
theorem aUj {b : aq} (hs : Small b) : yA b = some (aB5 b) := by
 unfold yA aB5
 rw [axP hs (own := 0) (λ _ => aB3 b), Option.bind_some]
 unfold abO
 by_cases h1 : dg b = 0
 ·have hv := tV hs h1
  have hos := hs.out
  have h5 := hv.n5
  simp only [h1, ne_eq, not_true_eq_false, if_false]
  by_cases h3 : de b = []
  ·rw [if_pos h3, if_pos h3]; rfl
  ·rw [if_neg h3, if_neg h3]
   simp only [bne_self_eq_false, bF]
   rw [aDP hv, Option.bind_some, Wm hv.in5 (by omega), Option.bind_some, aR9 hv, Option.bind_some]
   have hfl := afk b b.Out
   rw [lz (o := afF b) ?_]
   have e0 : (([] : List Int), (0 : Int)) = ([], (λ i : Nat => (i : Int)) 0) := rfl
   have e1 : afF b = [] ++ (List.range (qb b b.Out).length).flatMap (λ i => if vT b [nth (qb b b.Out) i] ≤ b.aE then [nth (qb b b.Out) i] else []) := by
    rw [List.nil_append, Zh (λ n => if vT b [n] ≤ b.aE then [n] else [])]
    unfold afF
    generalize qb b b.Out = l
    induction l with
    | nil => rfl
    | cons a l ih =>
     rw [List.filter_cons, List.flatMap_cons, ← ih]
     by_cases hw : vT b [a] ≤ b.aE <;> simp [hw]
   rw [e0, e1]
   refine Nu (λ i : Nat => (i : Int)) (λ i => if vT b [nth (qb b b.Out) i] ≤ b.aE then [nth (qb b b.Out) i] else []) (qb b b.Out).length 1 [] (λ i _ => by split <;> simp) (λ i l hi hl => ?_) (λ l => by simp only [eR, bF])
   obtain ⟨k, hk, hn, _⟩ := axZ.1 (jy hi)
   have hp : IsP b [nth (qb b b.Out) i] := λ x hx => by simp at hx; subst hx; omega
   simp only [List.length_nil] at hl
   simp only [dec_lt hi, cm, dD, cO hi, Option.bind_some, aMi hv hp (by simp), eo (i := i) (by omega)]
   by_cases hw : vT b [nth (qb b b.Out) i] ≤ b.aE
   ·rw [decide_eq_true hw, cm, mU (by simp; omega), if_pos hw]; rfl
   ·rw [decide_eq_false hw, bF, if_neg hw, List.append_nil]
 ·simp only [h1, ne_eq, not_false_eq_true, if_true, mK h1, cm]
end Go.Proofs.YtabamagholjdcaaGreatDoor
namespace Go.Proofs.YtabamagholjdcaaGreatDoor
open Go.Lg Go.Proofs
set_option maxRecDepth 10000
theorem afH {b : aq} (hv : Valid b) : b.Out.length ≤ 5 := by
 have e1 := aeQ _ _ hv.out
 have := hv.n5
 rw [aBW, List.nil_append] at e1
 omega
end Go.Proofs.YtabamagholjdcaaGreatDoor
namespace Go.Proofs.YtabamagholjdcaaGreatDoor
open Go.Lg Go.Proofs
set_option maxRecDepth 10000
def Bx (b : aq) : Nat → List (List Int)
 | 0 => [[]]
 | k + 1 => (Bx b k).flatMap λ a => (qb b (b.Out ++ a)).map λ n => a ++ [n]
theorem aL4 (b : aq) : ∀ k, ∀ a ∈ Bx b k, a.length = k ∧ left b b.Out = left b (b.Out ++ a) + k
 | 0, a, h => by
  simp only [Bx, List.mem_singleton] at h
  subst h
  simp
 | k + 1, a, h => by
  simp only [Bx, List.mem_flatMap, List.mem_map] at h
  obtain ⟨a', ha', n, hn, rfl⟩ := h
  obtain ⟨h1, h2⟩ := aL4 b k a' ha'
  obtain ⟨i, hi, rfl, hc⟩ := axZ.1 hn
  have := afm hi (aCg hc)
  rw [List.append_assoc] at this
  exact ⟨by simp [h1], by omega⟩
theorem aRJ {α β : Type} (f : α → List β) (m : Nat) (h : ∀ a, (f a).length ≤ m) : ∀ l : List α, (l.flatMap f).length ≤ l.length * m
 | [] => by simp
 | a :: l => by
  have := aRJ f m h l
  have := h a
  simp only [List.flatMap_cons, List.length_append, List.length_cons, Nat.add_mul, Nat.one_mul]
  omega
theorem aRZ {b : aq} (h5 : b.az.length ≤ 5) : ∀ k, (Bx b k).length ≤ 5 ^ k
 | 0 => by simp [Bx]
 | k + 1 => by
  have h1 := aRJ (λ a => (qb b (b.Out ++ a)).map λ n => a ++ [n]) 5 (λ a => by rw [List.length_map]; exact Nat.le_trans (afk b _) h5) (Bx b k)
  have h2 := aRZ h5 k
  rw [Nat.pow_succ]
  simp only [Bx]
  omega
theorem aSg {b : aq} : ∀ (j : Nat) (out pre : List Int), left b out ≤ j → D4 b j out pre = D4 b (left b out) out pre
 | 0, out, pre, h => by rw [show left b out = 0 by omega]
 | j + 1, out, pre, h => by
  by_cases hf : qb b out = []
  ·have e : ∀ m, D4 b m out pre = [pre] := λ m => by cases m with | zero => rfl | succ m => rw [D4, if_pos hf]
   rw [e, e]
  ·obtain ⟨m, hm⟩ : ∃ m, left b out = m + 1 := by
    cases hl : left b out with
    | zero => exact absurd (aKY hl) hf
    | succ m => exact ⟨m, rfl⟩
   rw [hm, D4, D4, if_neg hf, if_neg hf]
   rw [List.flatMap_def, List.flatMap_def]
   congr 1
   apply List.map_congr_left
   intro n hn
   obtain ⟨i, hi, rfl, hc⟩ := axZ.1 hn
   have := afm hi (aCg hc)
   rw [aSg j _ _ (by omega), show left b (out ++ [(i : Int)]) = m by omega]
theorem aR0 {b : aq} (hv : Valid b) : ∀ k, k ≤ left b b.Out → (Bx b k).flatMap (λ a => D4 b (left b b.Out - k) (b.Out ++ a) a) = yN b
 | 0, _ => by
  simp only [Bx, List.flatMap_cons, List.flatMap_nil, List.append_nil, Nat.sub_zero]
  exact (aSg _ _ _ (aL3 b _)).symm
 | k + 1, hk => by
  rw [← aR0 hv k (by omega)]
  simp only [Bx, List.flatMap_assoc, List.flatMap_map]
  rw [List.flatMap_def, List.flatMap_def]
  congr 1
  apply List.map_congr_left
  intro a ha
  obtain ⟨h1, h2⟩ := aL4 b k a ha
  have hf : qb b (b.Out ++ a) ≠ [] := λ hf => by
   have := aRY hv hf
   omega
  rw [show left b b.Out - k = (left b b.Out - (k + 1)) + 1 by omega, D4, if_neg hf]
  simp only [List.append_assoc]
theorem aUa {b : aq} (hv : Valid b) : Bx b (b.az.length - b.Out.length) = yN b := by
 have e1 := aeQ _ _ hv.out
 rw [aBW, List.nil_append] at e1
 rw [← aR0 hv (left b b.Out) (Nat.le_refl _), show b.az.length - b.Out.length = left b b.Out by omega, Nat.sub_self]
 simp only [D4]
 rw [afg (λ a : List Int => a), List.map_id']
theorem aUV {i : Nat} (h : i ≤ 5) : 5 ^ i ≤ 3125 := Nat.pow_le_pow_right (by omega) h
theorem aR4 {b : aq} (hs : Small b) (hv : Valid b) : IE b = some (yN b) := by
 unfold IE
 have h5 := hv.n5
 have Wf := afH hv
 have hob : b.Out.length ≤ b.az.length := by
  have e1 := aeQ _ _ hv.out
  rw [aBW, List.nil_append] at e1
  omega
 refine (lz (o := yN b) ?_).trans rfl
 rw [← aUa hv]
 have e0 : ([[]], (b.Out.length : Int)) = (λ q : Nat => (Bx b q, ((b.Out.length + q : Nat) : Int))) 0 := rfl
 rw [e0]
 refine qN (λ q : Nat => (Bx b q, ((b.Out.length + q : Nat) : Int))) (b.az.length - b.Out.length) (λ q hq => ?_) ?_
 ·have hlq := aRZ h5 q
  have hp := aUV (i := q) (by omega)
  rw [show decide (((b.Out.length + q : Nat) : Int) < (b.az.length : Int)) = true by simp; omega]
  simp only [cm]
  rw [lz (o := Bx b (q + 1)) ?_, eo (by omega)]
  ·rfl
  rw [show Bx b (q + 1) = [] ++ (List.range (Bx b q).length).flatMap (λ j => (qb b (b.Out ++ nth (Bx b q) j)).map λ n => nth (Bx b q) j ++ [n]) by rw [List.nil_append, Zh (λ a => (qb b (b.Out ++ a)).map λ n => a ++ [n])]; rfl]
  refine Nu (λ j : Nat => (j : Int)) (λ j => (qb b (b.Out ++ nth (Bx b q) j)).map λ n => nth (Bx b q) j ++ [n]) (Bx b q).length 5 [] (λ j _ => by rw [List.length_map]; exact Nat.le_trans (afk b _) h5) (λ j l hj hl => ?_) (λ l => by simp only [eR, bF])
  have hal := (aL4 b q _ (jy hj)).1
  simp only [List.length_nil] at hl
  simp only [dec_lt hj, cm, dD, cO hj]
  rw [mU (by simp; omega), Option.bind_some, Option.bind_some, List.nil_append, mU (by omega), Option.bind_some, aSa hs (by simp; omega), Option.bind_some]
  generalize hF : qb b (b.Out ++ nth (Bx b q) j) = F
  have hFl : F.length ≤ 5 := by rw [← hF]; exact Nat.le_trans (afk b _) h5
  rw [lz (o := l ++ F.map λ n => nth (Bx b q) j ++ [n]) ?_, eo (i := j) (by omega)]
  rw [show F.map (λ n => nth (Bx b q) j ++ [n]) = (List.range F.length).flatMap λ k => [nth (Bx b q) j ++ [nth F k]] by rw [Zh (λ n => [nth (Bx b q) j ++ [n]]), afg (λ n => nth (Bx b q) j ++ [n])]]
  refine Nu (λ k : Nat => (k : Int)) (λ k => [nth (Bx b q) j ++ [nth F k]]) F.length 1 l (λ k _ => by simp) (λ k l' hk hl' => ?_) (λ l' => by simp only [eR, bF])
  simp only [dec_lt hk, cm, dD, cO hk, Option.bind_some]
  rw [mU (by simp; omega), Option.bind_some, List.nil_append, mU (by simp; omega), Option.bind_some, mU (by simp; omega), Option.bind_some, eo (i := k) (by omega)]
 ·rw [show decide (((b.Out.length + (b.az.length - b.Out.length) : Nat) : Int) < (b.az.length : Int)) = false by simp; omega]
  simp only [bF]
def afJ (b : aq) (c : cB) (o : List Int) : Int := (IN b o).foldl (λ w g => max w (V8 (Ln b c g))) 0
theorem aDR {w x : Int} : jK w [x] = max w x := by
 show (if x > w then x else w) = _
 rw [Int.max_def]
 split <;> split <;> omega
theorem aR2 {b : aq} (hv : Valid b) {c : cB} (hc : c ∈ de b) {o : List Int} (hl : o.length ≤ 100) : IC b c o = some (afJ b c o) := by
 unfold IC
 have Wf := afH hv
 refine (lz (o := afJ b c o) ?_).trans rfl
 have e0 : ((0 : Int), (1 : Int)) = (λ q : Nat => ((((IN b o).take q).foldl (λ w g => max w (V8 (Ln b c g))) 0), ((q + 1 : Nat) : Int))) 0 := rfl
 rw [e0]
 have hbl : (IN b o).length = o.length := by simp [IN]
 refine qN (λ q : Nat => ((((IN b o).take q).foldl (λ w g => max w (V8 (Ln b c g))) 0), ((q + 1 : Nat) : Int))) o.length (λ q hq => ?_) ?_
 ·have hq' : q < (IN b o).length := by omega
  have eg : (IN b o)[q] = b.Out ++ o.take (q + 1) := by simp [IN]
  have hmb := aMj hv hc (b.Out ++ o.take (q + 1))
  rw [show decide (((q + 1 : Nat) : Int) ≤ (o.length : Int)) = true by simp; omega]
  simp only [cm]
  rw [mU (by simp; omega), Option.bind_some, List.nil_append, Pj (by omega), Option.bind_some, mU (by simp; omega), Option.bind_some]
  have e := aB0 hv (aBK hv hc).2 (out := b.Out ++ o.take (q + 1)) (by simp; omega)
  rw [show c = (⟨c.aa, c.fD⟩ : cB) from rfl, e]
  have aV4 : -6000 ≤ nT b c.aa c.fD (b.Out ++ o.take (q + 1)) ∧ nT b c.aa c.fD (b.Out ++ o.take (q + 1)) ≤ 6000 := hmb
  rw [Option.bind_some, aSc (aen _ _ _) (by omega) (by omega), eo (i := q + 1) (by omega), List.take_succ_eq_append_getElem hq', List.foldl_append, eg]
  rfl
 ·rw [show decide (((o.length + 1 : Nat) : Int) ≤ (o.length : Int)) = false by simp; omega]
  simp only [bF]
  rw [show (IN b o).take o.length = IN b o from List.take_of_length_le (by omega)]
  rfl
theorem aQ7 (b : aq) (c : cB) (o : List Int) (k : Int) (hk : 0 ≤ k) : afJ b c o ≤ k ↔ ∀ g ∈ IN b o, V8 (Ln b c g) ≤ k := by
 unfold afJ
 rw [afj]
 exact ⟨λ h => h.2, λ h => ⟨hk, h⟩⟩
def aDS (b : aq) (o : List Int) : Int := (de b).foldl (λ w c => max w (afJ b c o)) 0
theorem aUS (b : aq) (o : List Int) : aDS b o = vT b o := by
 have key : ∀ k : Int, 0 ≤ k → (aDS b o ≤ k ↔ vT b o ≤ k) := λ k hk => by
  rw [aQ8 b o k hk]
  unfold aDS
  rw [afj]
  constructor
  ·rintro ⟨_, h⟩ g hg
   rw [aD6 b g k hk]
   exact λ c hc => (aQ7 b c o k hk).1 (h c hc) g hg
  ·intro h
   exact ⟨hk, λ c hc => (aQ7 b c o k hk).2 λ g hg => (aD6 b g k hk).1 (h g hg) c hc⟩
 exact Int.le_antisymm ((key _ (aen _ _ _)).2 (Int.le_refl _)) ((key _ (aen _ _ _)).1 (Int.le_refl _))
theorem aDQ {b : aq} (hv : Valid b) {o : List Int} (hl : o.length ≤ 100) : BF b (de b) o = some (vT b o) := by
 unfold BF
 have fW := Yz hv
 rw [← aUS]
 refine (lz (o := aDS b o) ?_).trans rfl
 have e0 : ((0 : Int), (0 : Int)) = (λ q : Nat => ((((de b).take q).foldl (λ w c => max w (afJ b c o)) 0), (q : Int))) 0 := rfl
 rw [e0]
 refine qN (λ q : Nat => ((((de b).take q).foldl (λ w c => max w (afJ b c o)) 0), (q : Int))) (de b).length (λ q hq => ?_) (by simp only [eR, bF, List.take_length]; rfl)
 have hc : (de b)[q] ∈ de b := List.getElem_mem hq
 simp only [dec_lt hq, cm, dD, List.getElem?_eq_getElem hq, Option.bind_some, aR2 hv hc hl, eo (i := q) (by omega), aDR]
 rw [List.take_succ_eq_append_getElem hq, List.foldl_append]
 rfl
theorem aRI {α : Type} (p : α → Bool) (l : List α) : l.flatMap (λ a => if p a = true then [a] else []) = l.filter p := by
 induction l with
 | nil => rfl
 | cons a l ih =>
  rw [List.flatMap_cons, ih, List.filter_cons]
  cases p a <;> simp
theorem aR3 {b : aq} (hs : Small b) (hv : Valid b) : ID b (de b) = some ((yN b).filter (Iz b)) := by
 unfold ID
 have Wf := aMl hv
 rw [aR4 hs hv, Option.bind_some]
 refine (lz (o := (yN b).filter (Iz b)) ?_).trans rfl
 rw [← List.nil_append ((yN b).filter (Iz b)), ← aRI, ← Zh (λ a => if Iz b a = true then [a] else [])]
 refine Nu (λ j : Nat => (j : Int)) (λ j => if Iz b (nth (yN b) j) = true then [nth (yN b) j] else []) (yN b).length 1 [] (λ j _ => by split <;> simp) (λ j l hj hl => ?_) (λ l => by simp only [eR, bF])
 have ho := aB8 hv (jy hj)
 simp only [List.length_nil] at hl
 simp only [dec_lt hj, cm, dD, cO hj, Option.bind_some, aDQ hv (o := nth (yN b) j) (by have := aB7 hv ho; omega), eo (i := j) (by omega)]
 rw [show decide (vT b (nth (yN b) j) ≤ b.aE) = Iz b (nth (yN b) j) from rfl]
 cases Iz b (nth (yN b) j) with
 | true => rw [cm, mU (by simp; omega)]; rfl
 | false => simp [bF]
theorem known0 {b : aq} : (NW b 0 = ([], dg b) ∧ dg b ≠ 0) ∨ (NW b 0 = ([], 9) ∧ dg b = 0 ∧ de b = []) ∨ (NW b 0 = (de b, 0) ∧ dg b = 0 ∧ de b ≠ []) := by
 unfold NW
 by_cases h1 : dg b = 0
 ·by_cases h3 : de b = []
  ·right; left; simp [h1, h3]
  ·right; right; simp [h1, h3]
 ·left; simp [h1]
theorem aUo {b : aq} (hs : Small b) : NB b = some (aDU b) := by
 unfold NB aDU
 rw [aeX hs, Option.bind_some]
 rcases known0 (b := b) with ⟨e, h1⟩ | ⟨e, h1, h3⟩ | ⟨e, h1, h3⟩
 ·simp only [e, h1, ne_eq, not_false_eq_true, if_true, mK h1, cm]
 ·rw [e, if_neg (by simpa using h1), if_pos h3]; rfl
 ·have hv := tV hs h1
  rw [e, if_neg (by simpa using h1), if_neg h3]
  simp only [bne_self_eq_false, bF, aR3 hs hv, Option.bind_some]
theorem aTi {α : Type} [Inhabited α] (p : α → Bool) (l : List α) : (l.filter p)[0]? = l.find? p := by
 induction l with
 | nil => rfl
 | cons a l ih =>
  rw [List.filter_cons, List.find?_cons]
  cases p a <;> simp [ih]
theorem aUq {b : aq} (hs : Small b) : NC b = some (aBP b) := by
 unfold NC aBP
 rw [aeX hs, Option.bind_some]
 rcases known0 (b := b) with ⟨e, h1⟩ | ⟨e, h1, h3⟩ | ⟨e, h1, h3⟩
 ·simp only [e, h1, ne_eq, not_false_eq_true, if_true, mK h1, cm]
 ·rw [e, if_neg (by simpa using h1), if_pos h3]; rfl
 ·have hv := tV hs h1
  rw [e, if_neg (by simpa using h1), if_neg h3]
  simp only [bne_self_eq_false, bF, aR3 hs hv, Option.bind_some]
  have hf := aTi (Iz b) (yN b)
  unfold aKX
  rw [← hf, abb]
  rw [show idx ((yN b).filter (Iz b)) 0 = ((yN b).filter (Iz b))[0]? from dD _ 0]
  cases (yN b).filter (Iz b) <;> rfl
theorem aUs {b : aq} (hs : Small b) : ND b = some (aCa b) := by
 unfold ND aCa
 rw [aeX hs, Option.bind_some]
 rcases known0 (b := b) with ⟨e, h1⟩ | ⟨e, h1, h3⟩ | ⟨e, h1, h3⟩
 ·simp only [e, h1, ne_eq, not_false_eq_true, if_true, mK h1, cm]
 ·rw [e, if_neg (by simpa using h1), if_pos h3]; rfl
 ·have hv := tV hs h1
  have Wf := aMl hv
  rw [e, if_neg (by simpa using h1), if_neg h3]
  simp only [bne_self_eq_false, bF, aR4 hs hv, Option.bind_some]
  unfold ae6
  have aCt := λ o (ho : o ∈ yN b) => aB8 hv ho
  cases hl : yN b with
  | nil => exact absurd hl (aSk b)
  | cons o l =>
   rw [hl] at aCt Wf
   have hlen : ∀ o' ∈ o :: l, o'.length ≤ 100 := λ o' ho' => by have := aB7 hv (aCt o' ho'); omega
   rw [show idx (o :: l) 0 = some o from rfl, Option.bind_some, Option.bind_some, aDQ hv (hlen o (by simp)), Option.bind_some, List.foldl_cons, show cF b ([], 0, false) o = (o, vT b o, true) from rfl]
   have ht : ∀ (m : List (List Int)) (t : List Int × Int × Bool), t.2.2 = true → (m.foldl (cF b) t).2.2 = true := by
    intro m
    induction m with
    | nil => intro t h; exact h
    | cons a m ih =>
     intro t h
     rw [List.foldl_cons]
     apply ih
     unfold cF
     split <;> simp [h]
   generalize hT : (o, vT b o, true) = T
   have VV : T.2.2 = true := by rw [← hT]
   have e0 : (o, vT b o, (1 : Int)) = (λ q : Nat => (((l.take q).foldl (cF b) T).1, ((l.take q).foldl (cF b) T).2.1, ((q + 1 : Nat) : Int))) 0 := by rw [← hT]; rfl
   refine (lz (o := ((l.foldl (cF b) T).1, (l.foldl (cF b) T).2.1)) ?_).trans rfl
   rw [e0]
   simp only [List.length_cons] at Wf
   refine qN (λ q : Nat => (((l.take q).foldl (cF b) T).1, ((l.take q).foldl (cF b) T).2.1, ((q + 1 : Nat) : Int))) l.length (λ q hq => ?_) ?_
   ·rw [show decide (((q + 1 : Nat) : Int) < ((o :: l).length : Int)) = true by simp; omega]
    simp only [cm, dD, List.getElem?_cons_succ, List.getElem?_eq_getElem hq, Option.bind_some, aDQ hv (hlen l[q] (by simp)), eo (i := q + 1) (by omega)]
    rw [List.take_succ_eq_append_getElem hq, List.foldl_append]
    have h2 := ht (l.take q) T VV
    generalize (l.take q).foldl (cF b) T = U at h2
    simp only [List.foldl_cons, List.foldl_nil]
    unfold cF
    rw [h2]
    by_cases hw : vT b l[q] < U.2.1
    ·simp [hw, cm]
    ·simp [hw, bF]
   ·rw [show decide (((l.length + 1 : Nat) : Int) < ((o :: l).length : Int)) = false by simp]
    simp only [bF, List.take_length]
theorem aSX {l : List Int} {i : Nat} (h : i < l.length) : mX l (i : Int) ((i + 1 : Nat) : Int) = some [nth l i] := by
 have hg : l[i]? = some (nth l i) := cO h
 unfold mX
 rw [if_pos (by omega)]
 congr 1
 apply List.ext_getElem?
 intro j
 cases j with
 | zero => simp [List.getElem?_take, hg]
 | succ j =>
  rw [List.getElem?_eq_none (by simp; omega), List.getElem?_eq_none (by simp)]
theorem aUk {b : aq} (hs : Small b) : Nz b = some (aB5 b) := by
 unfold Nz aB5
 rw [aeX hs, Option.bind_some]
 rcases known0 (b := b) with ⟨e, h1⟩ | ⟨e, h1, h3⟩ | ⟨e, h1, h3⟩
 ·simp only [e, h1, ne_eq, not_false_eq_true, if_true, mK h1, cm]
 ·rw [e, if_neg (by simpa using h1), if_pos h3]; rfl
 ·have hv := tV hs h1
  have h5 := hv.n5
  have Wf := afH hv
  have hfl := afk b b.Out
  rw [e, if_neg (by simpa using h1), if_neg h3]
  simp only [bne_self_eq_false, bF, aSa hs (out := b.Out) (by omega), Option.bind_some]
  refine (lz (o := afF b) ?_).trans rfl
  unfold afF
  rw [← List.nil_append ((qb b b.Out).filter _), ← aRI, ← Zh (λ n => if decide (vT b [n] ≤ b.aE) = true then [n] else [])]
  refine Nu (λ j : Nat => (j : Int)) (λ j => if decide (vT b [nth (qb b b.Out) j] ≤ b.aE) = true then [nth (qb b b.Out) j] else []) (qb b b.Out).length 1 [] (λ j _ => by split <;> simp) (λ j l hj hl => ?_) (λ l => by simp only [eR, bF])
  simp only [List.length_nil] at hl
  simp only [dec_lt hj, cm, eo (i := j) (by omega), aSX hj, dD, cO hj, Option.bind_some, aDQ hv (o := [nth (qb b b.Out) j]) (by simp)]
  cases decide (vT b [nth (qb b b.Out) j] ≤ b.aE) with
  | true => rw [cm, mU (by simp; omega)]; rfl
  | false => simp [bF]
theorem aUd {b : aq} (hs : Small b) {o : List Int} (hl : o.length ≤ 100) : Nv b o = some (abY b o) := by
 unfold Nv abY
 have hos := hs.out
 rw [aeR hs (by omega) hl, Option.bind_some]
 by_cases h2 : iZ b b.Out o = 0
 ·simp only [h2, bne_self_eq_false, bF, ne_eq, not_true_eq_false, if_false]
  rw [jk (by omega) (by omega), show ((b.Out.length : Int) + (o.length : Int)) = ((b.Out.length + o.length : Nat) : Int) by omega, aDB]
  by_cases h3 : b.Out.length + o.length = b.az.length
  ·simp [h3, bF]
  ·simp [h3, cm]
 ·simp only [h2, ne_eq, not_false_eq_true, if_true, mK h2, cm]
theorem aUX {b : aq} (hv : Valid b) (c : cB) (o : List Int) : decide (afJ b c o ≤ b.aE) = V3 b o c := by
 rw [Bool.eq_iff_iff, decide_eq_true_eq, aQ7 b c o _ hv.limit.1]
 unfold V3
 simp only [List.all_eq_true, aSq, decide_eq_true_eq]
theorem aUe (n m : Nat) : Nw (n : Int) (m : Int) = some (aCu n m) := by
 unfold Nw aCu
 rw [abb]
 by_cases h1 : n = 0
 ·simp [h1, cm]
 ·rw [show (n == 0) = false by simpa using h1, bF, if_neg h1]
  by_cases h2 : n = m
  ·simp [h2, cm]
  ·rw [show ((n : Int) == (m : Int)) = false by simp; omega, bF, if_neg h2]
theorem aUm {b : aq} (hs : Small b) {o : List Int} (hl : o.length ≤ 100) : NA b o = some (aDY b o) := by
 unfold NA aDY
 rw [V0 hs, aUd hs hl]
 by_cases h1 : dg b = 0
 ·have hv := tV hs h1
  have fW := Yz hv
  simp only [h1, Option.bind_some, beq_self_eq_true, cm, aeX hs, ne_eq, not_true_eq_false, if_false]
  unfold NW
  by_cases h2 : abY b o = 0
  ·simp only [h1, h2, ne_eq, not_true_eq_false, if_false]
   by_cases h3 : de b = []
   ·rw [if_pos h3, if_pos h3]; rfl
   ·rw [if_neg h3, if_neg h3]
    simp only [bne_self_eq_false, bF]
    rw [lz (o := (((de b).filter (V3 b o)).length : Int)) ?_, aUe]
    ·rfl
    have e0 : ((0 : Int), (0 : Int)) = (λ q : Nat => (((((de b).take q).filter (V3 b o)).length : Int), (q : Int))) 0 := rfl
    rw [e0]
    refine qN (λ q : Nat => (((((de b).take q).filter (V3 b o)).length : Int), (q : Int))) (de b).length (λ q hq => ?_) (by simp only [eR, bF, List.take_length])
    have hc : (de b)[q] ∈ de b := List.getElem_mem hq
    have hfl : (((de b).take q).filter (V3 b o)).length ≤ q := Nat.le_trans (List.length_filter_le _ _) (by simp; omega)
    simp only [dec_lt hq, cm, dD, List.getElem?_eq_getElem hq, Option.bind_some, aR2 hv hc hl, aUX hv, eo (i := q) (by omega), eo (i := (((de b).take q).filter (V3 b o)).length) (by omega)]
    rw [List.take_succ_eq_append_getElem hq, List.filter_append, List.length_append]
    cases hp : V3 b o (de b)[q] with
    | true => simp [hp, cm]
    | false => simp [hp, bF]
  ·simp only [h1, h2, ne_eq, not_true_eq_false, not_false_eq_true, if_true, if_false, mK h2, cm]
 ·have : (dg b == 0) = false := by simpa using h1
  simp only [this, Option.bind_some, bF, aeX hs]
  unfold NW
  simp only [h1, ne_eq, not_false_eq_true, if_true, mK h1, cm]
theorem aT5 (b : aq) (o : List Int) : m3 b o = some true := by
 unfold m3
 rw [axu, azk, Option.bind_some]
 cases hg : Cb b with
 | true => rfl
 | false =>
 have hs := aeo hg
 have hp := hs.pieces
 simp only [bF, Option.bind_some]
 by_cases hl : o.length ≤ 20
 case neg => rw [show decide ((o.length : Int) > 20) = true by simp; omega]; rfl
 rw [show decide ((o.length : Int) > 20) = false by simp; omega]
 have hn : (aB5 b).1.length ≤ 1000000 := by
  unfold aB5
  split
  ·simp
  ·split
   ·simp
   ·have h1 := afk b b.Out
    have h2 := List.length_filter_le (λ n => decide (vT b [n] ≤ b.aE)) (qb b b.Out)
    show (afF b).length ≤ _
    unfold afF
    omega
 have aCt : dg b = 0 → ∀ f ∈ yN b, f.length ≤ 1000000 := λ h1 f hf => by
  have hv := tV hs h1
  have := aB7 hv (aB8 hv hf)
  omega
 have hf : (aBP b).1.length ≤ 1000000 := by
  unfold aBP
  by_cases h1 : dg b = 0
  ·rw [if_neg (by simpa using h1)]
   split
   ·simp
   ·split
    ·rename_i f hf
     exact aCt h1 f (List.mem_of_find?_eq_some hf)
    ·simp
  ·rw [if_pos h1]; simp
 have ht : (aCa b).1.length ≤ 1000000 := by
  unfold aCa
  by_cases h1 : dg b = 0
  ·rw [if_neg (by simpa using h1)]
   split
   ·simp
   ·exact aCt h1 _ (aSV b).1
  ·rw [if_pos h1]; simp
 simp only [bF, aUj hs, aUk hs, axJ hn, aUl hs (o := o) (by omega), aUm hs (o := o) (by omega), aUn hs, aUo hs, aUp hs, aUq hs, axJ hf, aUr hs, aUs hs, axJ ht, Option.bind_some, beq_self_eq_true, bne_self_eq_false, Bool.not_true, cm]
end Go.Proofs.YtabamagholjdcaaGreatDoor
