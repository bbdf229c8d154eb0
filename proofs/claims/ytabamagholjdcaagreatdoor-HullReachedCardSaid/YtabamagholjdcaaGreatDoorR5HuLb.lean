/- Plain laws of chapter 6, the rest. Conditions: none. -/
import Derived.Test.YtabamagholjdcaaGreatDoorR5HuL
import Derived.Test.YtabamagholjdcaaGreatDoorQGHuC

namespace Go.Proofs.YtabamagholjdcaaGreatDoor
open Go.Lg Go.Proofs
set_option maxRecDepth 10000
theorem Xr {b : av} {c : gM} (h : c ∈ bU b) : c.eX ∈ n7 b ∧ b.af.ao ≤ c.af ∧ c.af ≤ b.af.ax ∧ lR b c.af c.eX = true := by
 simp only [bU, List.mem_flatMap, List.mem_map, List.mem_filter] at h
 obtain ⟨n, hn, w, ⟨hw, hs⟩, rfl⟩ := h
 exact ⟨hw, (DV.1 hn).1, (DV.1 hn).2, hs⟩
theorem Xs {b : av} (hv : Valid b) {c : gM} (h : c ∈ bU b) : c.eX.length = b.au.length ∧ vI b c.af c.eX := by
 obtain ⟨h1, h2, h3, _⟩ := Xr h
 have hm := Wt h1
 have hb := hv.fq
 exact ⟨hm.1, ⟨by omega, by omega, λ k hk => by
  have g1 := hm.2 k hk
  have g2 := (hv.each k hk).weight
  omega⟩⟩
set_option maxRecDepth 1000000 in
abbrev azL (b : av) : cR := ⟨b, (bU b).map o4, []⟩
end Go.Proofs.YtabamagholjdcaaGreatDoor
namespace Go.Proofs.YtabamagholjdcaaGreatDoor
open Go.Lg Go.Proofs
set_option maxRecDepth 10000
theorem aC9 (x : Reach) : BW x x = true := by simp [BW]
theorem aKR (x : cF) : N4 x x = true := by simp [N4]
theorem aNd {b : av} (hp : b.au.length ≤ 1000) (hh : b.aU.length ≤ 1000) (ho : b.Out.length ≤ 1000) (Vl : ∀ p ∈ b.au, p.On.length ≤ 1000) : GO b b = some true := by
 unfold GO
 simp only [bne_self_eq_false, aC9, bz, aDd (l := b.Out) (by omega), Option.bind_some, beq_self_eq_true, Bool.not_true]
 rw [jf (o := Sum.inl ()) ?_]
 ·rw [Sum.elim_inl, jf (o := Sum.inl ()) ?_]
  ·rfl
  ·refine wZ (λ i : Nat => (i : Int)) b.aU.length (λ i hi => ?_) (by simp only [fP, bz])
   simp only [dec_lt hi, bJ, cw, bH hi, Option.bind_some, aKR, beq_self_eq_true, Bool.not_true, bz, cJ (i := i) (by omega)]
 ·refine wZ (λ i : Nat => (i : Int)) b.au.length (λ i hi => ?_) (by simp only [fP, bz])
  have h3 := Vl _ (nJ hi)
  simp only [dec_lt hi, bJ, cw, bH hi, Option.bind_some, aC9, beq_self_eq_true, bne_self_eq_false, Bool.not_true, bz, aDd (l := (nth b.au i).On) (by omega), cJ (i := i) (by omega)]
def HY : av := ⟨0, ⟨0, 0⟩, [], [], []⟩
theorem aNc : GO HY HY = some true := aNd (by decide) (by decide) (by decide) (λ p hp => by cases hp)
def Ve (b : av) : av × Int := if de b ≠ 0 then (HY, de b) else if bU b = [] then (HY, 9) else (b, 0)
theorem aOJ {α : Type} [Inhabited α] {l : List α} {i : Nat} (h : i < l.length) : l.set i (nth l i) = l := by
 apply List.ext_getElem?
 intro j
 rw [List.getElem?_set]
 by_cases hj : i = j
 ·subst hj
  rw [if_pos rfl, if_pos h, bH h]
 ·rw [if_neg hj]
theorem aM9 {b : av} (hs : Small b) : w9 b = some (Ve b) := by
 unfold w9 Ve
 rw [TA hs, Option.bind_some]
 have h1 := hs.pieces
 have h2 := hs.DS
 have h3 := hs.out
 by_cases hc : de b = 0
 ·have hv := AT hs hc
  simp only [hc, bne_self_eq_false, bz, ne_eq, not_true_eq_false, if_false]
  rw [show (⟨b.aD, ⟨b.af.ao, b.af.ax⟩, b.au, b.Out, b.aU⟩ : av) = b from rfl, aM8 hv, Option.bind_some]
  unfold ajk
  by_cases hn : bU b = []
  ·rw [if_pos hn, hn]
   rfl
  ·rw [if_neg hn, show (bU b).isEmpty = false by simpa using hn]
   simp only [Bool.not_false, Bool.not_true, bz]
   unfold xb rE yq
   rw [vE (xs := []) (ys := b.au) (by simp; omega), vE (xs := []) (ys := b.Out) (by simp; omega), vE (xs := []) (ys := b.aU) (by simp; omega)]
   simp only [Option.bind_some, List.nil_append]
   rw [jf (o := b.au) ?_]
   refine wZ (λ i : Nat => (b.au, (i : Int))) b.au.length (λ i hi => ?_) (by simp only [fP, bz])
   have Vl := (hs.each _ (nJ hi)).2
   simp only [dec_lt hi, bJ, cw, bH hi, Option.bind_some, cJ (i := i) (by omega), Int.toNat_natCast]
   rw [vE (by simp; omega)]
   simp only [Option.bind_some, List.nil_append]
   rw [show (⟨(nth b.au i).Name, (nth b.au i).dg, ⟨(nth b.au i).Weight.ao, (nth b.au i).Weight.ax⟩, (nth b.au i).On⟩ : cG) = nth b.au i from rfl, aOJ hi]
 ·simp only [hc, ne_eq, not_false_eq_true, if_true, qI hc, bJ]
  rfl
end Go.Proofs.YtabamagholjdcaaGreatDoor
namespace Go.Proofs.YtabamagholjdcaaGreatDoor
open Go.Lg Go.Proofs
set_option maxRecDepth 10000
theorem adq {w x : Int} : kR w [x] = max w x := by
 show (if x > w then x else w) = _
 rw [Int.max_def]
 split <;> split <;> omega
end Go.Proofs.YtabamagholjdcaaGreatDoor
namespace Go.Proofs.YtabamagholjdcaaGreatDoor
open Go.Lg Go.Proofs
set_option maxRecDepth 10000
set_option maxRecDepth 1000000 in
def iJ (l : List gM) (i : Nat) (w : Int) : Nat := (l.filter λ c => nth c.eX i == w).length
theorem agj (l : List gM) (i : Nat) (w : Int) : iJ l i w ≤ l.length := List.length_filter_le _ _
def Mk (x y : Reach) : Reach := ⟨kR x.ao [y.ao], rH x.ax [y.ax]⟩
def dy (b : av) (p : Int) (r : Reach) : av := ⟨b.aD, ⟨b.af.ao, b.af.ax⟩, b.au.set p.toNat ⟨(nth b.au p.toNat).Name, (nth b.au p.toNat).dg, ⟨r.ao, r.ax⟩, (nth b.au p.toNat).On⟩, b.Out, b.aU⟩
def adu (b : av) (p : Int) (x : Reach) : av × Int :=
 if de b ≠ 0 then (HY, de b) else if iA b p = false then (HY, 6) else if jK x 1 99 = false then (HY, 1) else
  if (Mk (nth b.au p.toNat).Weight x).ao > (Mk (nth b.au p.toNat).Weight x).ax then (HY, 9) else Ve (dy b p (Mk (nth b.au p.toNat).Weight x))
theorem adr {b : av} (hs : Small b) {p : Int} (hp : iA b p = true) (r : Reach) : Small (dy b p r) := by
 have hpi := Cj.1 hp
 refine ⟨by show (b.au.set _ _).length ≤ 20; rw [List.length_set]; exact hs.pieces, hs.out, hs.DS, λ q hq => ?_⟩
 rcases List.mem_or_eq_of_mem_set hq with h | h
 ·exact hs.each q h
 ·rw [h]
  have := hs.each _ (nJ (l := b.au) (i := p.toNat) (by omega))
  exact this
theorem aOI {x : Reach} (h : jK x 1 99 = true) : j3 x 99 = true := by
 rw [Ml] at h
 rw [Mn]
 omega
theorem aao {b : av} {p : Int} (hp : iA b p = true) : idx b.au p = some (nth b.au p.toNat) := by
 have hpi := Cj.1 hp
 obtain ⟨k, rfl⟩ : ∃ k : Nat, p = (k : Int) := ⟨p.toNat, by omega⟩
 rw [cw, Int.toNat_natCast, bH (by omega)]
theorem aNe {b : av} (hs : Small b) (p : Int) (x : Reach) : xE b p x = some (adu b p x) := by
 unfold xE adu
 have h1 := hs.pieces
 rw [TA hs, Option.bind_some, show (⟨b.aD, ⟨b.af.ao, b.af.ax⟩, b.au, b.Out, b.aU⟩ : av) = b from rfl, Vn hs, Vo (by omega) (by omega)]
 by_cases hc : de b = 0
 ·simp only [hc, bne_self_eq_false, bz, ne_eq, not_true_eq_false, if_false, Option.bind_some]
  cases hp : iA b p with
  | false => rfl
  | true =>
   simp only [Bool.not_true, bz, Bool.true_eq_false, if_false]
   cases hr : jK x 1 99 with
   | false => rfl
   | true =>
    rw [aOI hr]
    simp only [Bool.and_self, Bool.not_true, bz, Bool.true_eq_false, if_false, aao hp, Option.bind_some]
    by_cases ho : (Mk (nth b.au p.toNat).Weight x).ao > (Mk (nth b.au p.toNat).Weight x).ax
    ·rw [if_pos ho, show decide (kR (nth b.au p.toNat).Weight.ao [x.ao] > rH (nth b.au p.toNat).Weight.ax [x.ax]) = true from decide_eq_true ho]
     rfl
    ·rw [if_neg ho, show decide (kR (nth b.au p.toNat).Weight.ao [x.ao] > rH (nth b.au p.toNat).Weight.ax [x.ax]) = false from decide_eq_false ho, bz]
     unfold xb
     rw [vE (by simp; omega), Option.bind_some, Option.bind_some, List.nil_append, aao hp, Option.bind_some]
     rw [show (⟨b.aD, ⟨b.af.ao, b.af.ax⟩, b.au.set p.toNat ⟨(nth b.au p.toNat).Name, (nth b.au p.toNat).dg, ⟨kR (nth b.au p.toNat).Weight.ao [x.ao], rH (nth b.au p.toNat).Weight.ax [x.ax]⟩, (nth b.au p.toNat).On⟩, b.Out, b.aU⟩ : av) = dy b p (Mk (nth b.au p.toNat).Weight x) from rfl, aM9 (adr hs hp _)]
     rfl
 ·simp only [hc, ne_eq, not_false_eq_true, if_true, qI hc, bJ]
  rfl
theorem ay2 {b : av} (hl : b.au.length ≤ 100) {p : Int} (hp : iA b p = true) (r : Reach) : CO b p r = some (dy b p r) := by
 unfold CO
 rw [vE (by simp; omega), Option.bind_some, List.nil_append, aao hp]
 rfl
end Go.Proofs.YtabamagholjdcaaGreatDoor
