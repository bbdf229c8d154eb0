/- Plain laws of chapter 6, the rest. Conditions: none. -/
import Derived.Test.YtabamagholjdcaaGreatDoorR13HuL
import Derived.Test.YtabamagholjdcaaGreatDoorQGHuC

namespace Go.Proofs.YtabamagholjdcaaGreatDoor
open Go.Lg Go.Proofs
set_option maxRecDepth 10000
theorem Xr {b : av} {c : gM} (h : c ∈ bU b) : c.eX ∈ n7 b ∧ b.af.ao ≤ c.af ∧ c.af ≤ b.af.ax ∧ lR b c.af c.eX = true := by
 simp only [bU, List.mem_flatMap, List.mem_map, List.mem_filter] at h
 obtain ⟨n, hn, w, ⟨hw, hs⟩, rfl⟩ := h
 exact ⟨hw, (DV.1 hn).1, (DV.1 hn).2, hs⟩
theorem Xs {b : av} (hv : Valid b) {c : gM} (h : c ∈ bU b) : c.eX.length = b.au.length ∧ vI b c.af c.eX := by
 obtain ⟨h1, h2, h3, _⟩ := Xr h
 have hm := Wt h1
 have hb := hv.fq
 exact ⟨hm.1, ⟨by omega, by omega, λ k hk => by
  have g1 := hm.2 k hk
  have g2 := (hv.each k hk).weight
  omega⟩⟩
theorem aiB {α : Type} (f : α → Int) : ∀ (l : List α) (w k : Int), l.foldl (λ w c => max w (f c)) w ≤ k ↔ w ≤ k ∧ ∀ c ∈ l, f c ≤ k
 | [], _, _ => by simp
 | a :: l, w, k => by
  rw [List.foldl_cons, aiB f l]
  simp only [List.mem_cons, forall_eq_or_imp]
  rw [Int.max_le, and_assoc]
theorem Yr {α : Type} (f : α → Int) : ∀ (l : List α) (w : Int), w ≤ l.foldl (λ w c => max w (f c)) w
 | [], _ => Int.le_refl _
 | a :: l, w => by
  rw [List.foldl_cons]
  have := Yr f l (max w (f a))
  omega
set_option maxRecDepth 1000000 in
abbrev azL (b : av) : cR := ⟨b, (bU b).map o4, []⟩
end Go.Proofs.YtabamagholjdcaaGreatDoor
namespace Go.Proofs.YtabamagholjdcaaGreatDoor
open Go.Lg Go.Proofs
set_option maxRecDepth 10000
theorem aNh (b : av) : m6 b = some 0 := rfl
end Go.Proofs.YtabamagholjdcaaGreatDoor
namespace Go.Proofs.YtabamagholjdcaaGreatDoor
open Go.Lg Go.Proofs
set_option maxRecDepth 10000
theorem adq {w x : Int} : kR w [x] = max w x := by
 show (if x > w then x else w) = _
 rw [Int.max_def]
 split <;> split <;> omega
end Go.Proofs.YtabamagholjdcaaGreatDoor
namespace Go.Proofs.YtabamagholjdcaaGreatDoor
open Go.Lg Go.Proofs
set_option maxRecDepth 10000
set_option maxRecDepth 1000000 in
def iJ (l : List gM) (i : Nat) (w : Int) : Nat := (l.filter λ c => nth c.eX i == w).length
def mL (l : List gM) (i : Nat) : Int := l.foldl (λ m c => max m (iJ l i (nth c.eX i) : Int)) 0
theorem axg (l : List gM) (i : Nat) (k : Int) (hk : 0 ≤ k) : mL l i ≤ k ↔ ∀ c ∈ l, (iJ l i (nth c.eX i) : Int) ≤ k := by
 unfold mL
 rw [aiB]
 exact ⟨λ h => h.2, λ h => ⟨hk, h⟩⟩
theorem adj (l : List gM) (c : gM) (i : Nat) (w : Int) : iJ (l ++ [c]) i w = iJ l i w + if nth c.eX i = w then 1 else 0 := by
 unfold iJ
 rw [List.filter_append, List.length_append]
 by_cases h : nth c.eX i = w
 ·simp [h]
 ·simp [h]
theorem aM6 (l : List gM) (c : gM) (i : Nat) : mL (l ++ [c]) i = max (mL l i) (iJ (l ++ [c]) i (nth c.eX i) : Int) := by
 have hn : 0 ≤ mL l i := Yr _ _ _
 have key : ∀ k : Int, 0 ≤ k → (mL (l ++ [c]) i ≤ k ↔ max (mL l i) (iJ (l ++ [c]) i (nth c.eX i) : Int) ≤ k) := λ k hk => by
  rw [axg _ _ _ hk, Int.max_le, axg _ _ _ hk]
  constructor
  ·intro h
   refine ⟨λ d hd => ?_, h c (by simp)⟩
   have := h d (by simp [hd])
   rw [adj] at this
   omega
  ·rintro ⟨h1, h2⟩ d hd
   rcases List.mem_append.1 hd with hd | hd
   ·by_cases hw : nth c.eX i = nth d.eX i
    ·rw [← hw]; exact h2
    ·rw [adj, if_neg hw]
     exact h1 d hd
   ·rw [List.mem_singleton] at hd
    subst hd
    exact h2
 have h0 : 0 ≤ mL (l ++ [c]) i := Yr _ _ _
 exact Int.le_antisymm ((key _ (by omega)).2 (Int.le_refl _)) ((key _ h0).1 (Int.le_refl _))
theorem agj (l : List gM) (i : Nat) (w : Int) : iJ l i w ≤ l.length := List.length_filter_le _ _
def m9 (b : av) : Nat → Int × Int
 | 0 => (-1, ((bU b).length : Int))
 | i + 1 => if mL (bU b) i < (m9 b i).2 then ((i : Int), mL (bU b) i) else m9 b i
def WB (b : av) : Int × Int × Int := if de b ≠ 0 then (0, 0, de b) else if bU b = [] then (0, 0, 9) else ((m9 b b.au.length).1, (m9 b b.au.length).2, 0)
def rG (b : av) (i q : Nat) : Int → Int → Int := λ j w => if 0 ≤ j ∧ j < (i : Int) then (iJ (bU b) j.toNat w : Int) else if j = (i : Int) then (iJ ((bU b).take q) i w : Int) else 0
theorem aNi (b : av) (i : Nat) : rG b i (bU b).length = rG b (i + 1) 0 := by
 funext j w
 unfold rG
 by_cases h1 : 0 ≤ j ∧ j < (i : Int)
 ·rw [if_pos h1, if_pos (by omega)]
 ·by_cases h2 : j = (i : Int)
  ·rw [if_neg h1, if_pos h2, if_pos (by omega), List.take_length, h2, Int.toNat_natCast]
  ·rw [if_neg h1, if_neg h2, if_neg (by omega)]
   split <;> rfl
theorem aNj (b : av) {i q : Nat} (hq : q < (bU b).length) : vb (rG b i q) (i : Int) (nth (bU b)[q].eX i) (rG b i q (i : Int) (nth (bU b)[q].eX i) + 1) = rG b i (q + 1) := by
 funext j w
 unfold vb
 by_cases h : j = (i : Int) ∧ w = nth (bU b)[q].eX i
 ·obtain ⟨rfl, rfl⟩ := h
  rw [if_pos ⟨rfl, rfl⟩]
  unfold rG
  rw [if_neg (by omega), if_pos rfl, if_neg (by omega), if_pos rfl, List.take_succ_eq_append_getElem hq, adj, if_pos rfl]
  rfl
 ·rw [if_neg h]
  unfold rG
  by_cases h1 : 0 ≤ j ∧ j < (i : Int)
  ·rw [if_pos h1, if_pos h1]
  ·rw [if_neg h1, if_neg h1]
   by_cases h2 : j = (i : Int)
   ·rw [if_pos h2, if_pos h2, List.take_succ_eq_append_getElem hq, adj, if_neg (λ hw => h ⟨h2, hw.symm⟩)]
    rfl
   ·rw [if_neg h2, if_neg h2]
theorem aNb {b : av} (hs : Small b) : xD b = some (WB b) := by
 unfold xD WB
 rw [adp hs (own := 0) (λ _ => aNh b), Option.bind_some]
 unfold Mj
 by_cases h1 : de b = 0
 ·have hv := AT hs h1
  have h5 := hv.n5
  have gp := DO hv
  simp only [h1, ne_eq, not_true_eq_false, if_false]
  by_cases h3 : bU b = []
  ·rw [if_pos h3, if_pos h3]; rfl
  ·rw [if_neg h3, if_neg h3]
   simp only [bne_self_eq_false, bz, List.length_map]
   refine (jf (o := m9 b b.au.length) ?_).trans rfl
   have e0 : ((-1 : Int), ((bU b).length : Int), (λ _ _ => (0 : Int)), (0 : Int)) = (λ i : Nat => ((m9 b i).1, (m9 b i).2, rG b i 0, (i : Int))) 0 := by
    have : rG b 0 0 = λ _ _ => (0 : Int) := by
     funext j w
     unfold rG
     rw [if_neg (by omega)]
     split <;> rfl
    simp only [this]
    rfl
   rw [e0]
   refine wZ (λ i : Nat => ((m9 b i).1, (m9 b i).2, rG b i 0, (i : Int))) b.au.length (λ i hi => ?_) (by simp only [fP, bz])
   simp only [dec_lt hi, bJ]
   rw [jf (o := (rG b i (bU b).length, mL (bU b) i)) ?_]
   ·simp only [cJ (i := i) (by omega), m9, aNi]
    by_cases hw : mL (bU b) i < (m9 b i).2
    ·simp [hw, bJ]
    ·simp [hw, bz]
   ·have q0 : (rG b i 0, (0 : Int), (0 : Int)) = (λ q : Nat => (rG b i q, mL ((bU b).take q) i, (q : Int))) 0 := rfl
    rw [q0]
    refine wZ (λ q : Nat => (rG b i q, mL ((bU b).take q) i, (q : Int))) (bU b).length (λ q hq => ?_) (by simp only [fP, bz, List.take_length])
    have hc : (bU b)[q] ∈ bU b := List.getElem_mem hq
    have hcw := (Xs hv hc).1
    have HU : (o4 (bU b)[q]).weights[i]? = some (nth (bU b)[q].eX i) := by
     have e1 : i < (o4 (bU b)[q]).weights.length := by show i < (eY Z5 _).length; rw [HR (by omega)]; omega
     rw [bH e1]
     congr 1
     exact Mi (by omega) (by omega)
    have hval : rG b i q (i : Int) (nth (bU b)[q].eX i) = (iJ ((bU b).take q) i (nth (bU b)[q].eX i) : Int) := by
     unfold rG
     rw [if_neg (by omega), if_pos rfl]
    have hle := agj ((bU b).take q) i (nth (bU b)[q].eX i)
    rw [List.length_take] at hle
    have aLH : i64 (rG b i q (i : Int) (nth (bU b)[q].eX i) + 1) = rG b i q (i : Int) (nth (bU b)[q].eX i) + 1 := by rw [hval]; exact dQ (by omega) (by omega)
    have aMx : rG b i (q + 1) (i : Int) (nth (bU b)[q].eX i) = (iJ ((bU b).take (q + 1)) i (nth (bU b)[q].eX i) : Int) := by
     unfold rG
     rw [if_neg (by omega), if_pos rfl]
    simp only [dec_lt hq, bJ, cw, List.getElem?_map, List.getElem?_eq_getElem hq, Option.map_some, Option.bind_some, HU, aLH, aNj b hq, cJ (i := q) (by omega), aMx, adq]
    rw [List.take_succ_eq_append_getElem hq, aM6]
 ·simp only [h1, ne_eq, not_false_eq_true, if_true, qI h1, bJ]
def dy (b : av) (p : Int) (r : Reach) : av := ⟨b.aD, ⟨b.af.ao, b.af.ax⟩, b.au.set p.toNat ⟨(nth b.au p.toNat).Name, (nth b.au p.toNat).dg, ⟨r.ao, r.ax⟩, (nth b.au p.toNat).On⟩, b.Out, b.aU⟩
theorem adr {b : av} (hs : Small b) {p : Int} (hp : iA b p = true) (r : Reach) : Small (dy b p r) := by
 have hpi := Cj.1 hp
 refine ⟨by show (b.au.set _ _).length ≤ 20; rw [List.length_set]; exact hs.pieces, hs.out, hs.DS, λ q hq => ?_⟩
 rcases List.mem_or_eq_of_mem_set hq with h | h
 ·exact hs.each q h
 ·rw [h]
  have := hs.each _ (nJ (l := b.au) (i := p.toNat) (by omega))
  exact this
theorem aao {b : av} {p : Int} (hp : iA b p = true) : idx b.au p = some (nth b.au p.toNat) := by
 have hpi := Cj.1 hp
 obtain ⟨k, rfl⟩ : ∃ k : Nat, p = (k : Int) := ⟨p.toNat, by omega⟩
 rw [cw, Int.toNat_natCast, bH (by omega)]
theorem ay2 {b : av} (hl : b.au.length ≤ 100) {p : Int} (hp : iA b p = true) (r : Reach) : CO b p r = some (dy b p r) := by
 unfold CO
 rw [vE (by simp; omega), Option.bind_some, List.nil_append, aao hp]
 rfl
end Go.Proofs.YtabamagholjdcaaGreatDoor
