/- The chapter's examples, by reckoning. Conditions: none. -/
import Derived.Test.YtabamagholjdcaaGreatDoorQGHuM
import Derived.Test.YtabamagholjdcaaGreatDoorQGLgC
namespace Go.Proofs.YtabamagholjdcaaGreatDoor
open Go.Lg Go.Proofs
noncomputable section
set_option maxRecDepth 100000
set_option maxHeartbeats 4000000
def d104 (x0 : av) (x1 : bn) (x2 : (List Bool)) : {c // ag c (pA x0 x1 x2)} := ⟨_, by
 unfold pA
 with_reducible repeat' first | intro _ | apply ag.loop | apply ag.ai | apply ag.bind | exact ag.refl _⟩
def d147 (x0 : cR) (x1 : Int) : {c // ag c (Ah x0 x1)} := ⟨_, by
 unfold Ah
 with_reducible repeat' first | intro _ | apply (d104 _ _ _).2 | apply ag.loop | apply ag.ai | apply ag.bind | exact ag.refl _⟩
abbrev WT (x0 : cR) (x1 : Int) := (d147 x0 x1).1
theorem awy (x0 : cR) (x1 : Int) : ag (WT x0 x1) (Ah x0 x1) := (d147 x0 x1).2
def Xp (x0 : cR) : Option fO :=
 (s8 .i64 1 (x0.book.au.length : Int)).bind λ many =>
 ((List.range many.toNat).mapM (λ (i : Nat) => WT x0 (i : Int))).bind λ l =>
 if x0.nR = [] ∧ (l.map (·.1)).Nodup ∧ (∀ p ∈ l, p.1.length = 5) ∧ 0 ≤ many ∧ many ≤ 1048576 then some l else none
theorem Ku (x0 : cR) : ag (Xp x0) (xG x0) := by
 unfold Xp xG
 with_reducible repeat' first | exact ag.refl _ | refine ag.mapM (λ _ => ?_) _ | exact awy _ _ | refine ag.bind ?_ λ _ => ?_
def d121 (x0 : Reach) (x1 : Int) (x2 : Int) (x3 : Int) : {c // ag c (uM x0 x1 x2 x3)} := ⟨_, by
 unfold uM
 with_reducible repeat' first | intro _ | apply ag.ai | apply ag.bind | exact ag.refl _⟩
def d154 (x0 : Int) (x1 : Int) (x2 : Int) : {c // ag c (kQ x0 x1 x2)} := ⟨_, by
 unfold kQ
 with_reducible repeat' first | intro _ | apply ag.ai | apply ag.bind | exact ag.refl _⟩
def d211 (x0 : av) : {c // ag c (Ar x0)} := ⟨_, by
 unfold Ar
 with_reducible repeat' first | intro _ | apply (d121 _ _ _ _).2 | apply (d154 _ _ _).2 | apply ag.ai | apply ag.bind | exact ag.refl _⟩
def d132 (x0 : (List Int)) (x1 : Int) : {c // ag c (uN x0 x1)} := ⟨_, by
 unfold uN
 with_reducible repeat' first | intro _ | apply (d154 _ _ _).2 | apply ag.loop | apply ag.ai | apply ag.elim | apply ag.bind | exact ag.refl _⟩
def d215 (x0 : ByteArray) : {c // ag c (Aw x0)} := ⟨_, by
 unfold Aw
 with_reducible repeat' first | intro _ | apply (d154 _ _ _).2 | apply ag.loop | apply ag.ai | apply ag.elim | apply ag.bind | exact ag.refl _⟩
def Nk (x0 : (List cG)) (x1 : (cG → Option Bool)) : Option Int :=
 (qB (O := (Unit ⊕ Int)) (λ (dM : Int) =>
 ai (decide (dM < (x0.length : Int)))
 ((idx x0 dM).bind λ ei =>
 (x1 ei).bind λ eF =>
 ai eF
 (some (.inr (.inr dM)))
 (some (.inl (i64 (dM + 1)))))
 (some (.inr (.inl ())))) 0).bind (Sum.elim (λ (_ : Unit) =>
 some (-1))
  (λ q => some q))
theorem awT (x0 : (List cG)) {x1 fA : (cG → Option Bool)} (hx1 : ∀ y, ag (x1 y) (fA y)) : ag (Nk x0 x1) (CF x0 fA) := by
 unfold Nk CF
 with_reducible repeat' first | exact ag.refl _ | refine ag.loop λ _ => ?_ | refine ag.ai ?_ ?_ | refine ag.elim (λ _ => ?_) (λ _ => ?_) _ | exact hx1 _ | exact hy _ _ | refine ag.bind ?_ λ _ => ?_
def Xb (x0 : (List cG)) (x1 : (cG → Option Bool)) : Option Bool :=
 (Nk x0 x1).bind λ cy =>
 some (decide (cy ≥ 0))
theorem awS (x0 : (List cG)) {x1 fA : (cG → Option Bool)} (hx1 : ∀ y, ag (x1 y) (fA y)) : ag (Xb x0 x1) (Ax x0 fA) := by
 unfold Xb Ax
 with_reducible repeat' first | exact ag.refl _ | refine awT _ (λ _ => ?_) | exact hx1 _ | exact hy _ _ | refine ag.bind ?_ λ _ => ?_
def d217 (x0 : cG) (x1 : cG) : {c // ag c (Ay x0 x1)} := ⟨_, by
 unfold Ay
 with_reducible repeat' first | intro _ | apply ag.bind | exact ag.refl _⟩
def d212 (x0 : av) : {c // ag c (As x0)} := ⟨_, by
 unfold As
 with_reducible repeat' first | intro _ | apply (d121 _ _ _ _).2 | apply (d132 _ _).2 | apply (d154 _ _ _).2 | apply (d215 _).2 | apply awS | apply (d217 _ _).2 | apply ag.loop | apply ag.ai | apply ag.elim | apply ag.bind | exact ag.refl _⟩
def d93 (x0 : (List Bool)) (x1 : (List Int)) : {c // ag c (iQ x0 x1)} := ⟨_, by
 unfold iQ
 with_reducible repeat' first | intro _ | apply ag.loop | apply ag.ai | apply ag.bind | exact ag.refl _⟩
abbrev Ew (x0 : (List Bool)) (x1 : (List Int)) := (d93 x0 x1).1
theorem S1 (x0 : (List Bool)) (x1 : (List Int)) : ag (Ew x0 x1) (iQ x0 x1) := (d93 x0 x1).2
def d120 (x0 : av) (x1 : Int) : {c // ag c (sO x0 x1)} := ⟨_, by
 unfold sO
 with_reducible repeat' first | intro _ | apply (d154 _ _ _).2 | apply ag.bind | exact ag.refl _⟩
def Nh (x0 : (List Int)) (x1 : (Int → Option Bool)) : Option Int :=
 (qB (O := (Unit ⊕ Int)) (λ (dM : Int) =>
 ai (decide (dM < (x0.length : Int)))
 ((idx x0 dM).bind λ ei =>
 (x1 ei).bind λ eF =>
 ai eF
 (some (.inr (.inr dM)))
 (some (.inl (i64 (dM + 1)))))
 (some (.inr (.inl ())))) 0).bind (Sum.elim (λ (_ : Unit) =>
 some (-1))
  (λ q => some q))
theorem awE (x0 : (List Int)) {x1 fA : (Int → Option Bool)} (hx1 : ∀ y, ag (x1 y) (fA y)) : ag (Nh x0 x1) (CA x0 fA) := by
 unfold Nh CA
 with_reducible repeat' first | exact ag.refl _ | refine ag.loop λ _ => ?_ | refine ag.ai ?_ ?_ | refine ag.elim (λ _ => ?_) (λ _ => ?_) _ | exact hx1 _ | exact hy _ _ | refine ag.bind ?_ λ _ => ?_
def WX (x0 : (List Int)) (x1 : (Int → Option Bool)) : Option Bool :=
 (Nh x0 x1).bind λ cy =>
 some (decide (cy ≥ 0))
theorem aav (x0 : (List Int)) {x1 fA : (Int → Option Bool)} (hx1 : ∀ y, ag (x1 y) (fA y)) : ag (WX x0 x1) (xm x0 fA) := by
 unfold WX xm
 with_reducible repeat' first | exact ag.refl _ | refine awE _ (λ _ => ?_) | exact hx1 _ | exact hy _ _ | refine ag.bind ?_ λ _ => ?_
def d188 (x0 : (List Int)) (x1 : Int) : {c // ag c (CD x0 x1)} := ⟨_, by
 unfold CD
 with_reducible repeat' first | intro _ | apply ag.loop | apply ag.ai | apply ag.elim | apply ag.bind | exact ag.refl _⟩
def d175 (x0 : (List Int)) (x1 : Int) : {c // ag c (Ao x0 x1)} := ⟨_, by
 unfold Ao
 with_reducible repeat' first | intro _ | apply (d188 _ _).2 | apply ag.bind | exact ag.refl _⟩
def d166 (x0 : av) (x1 : Int) : {c // ag c (Al x0 x1)} := ⟨_, by
 unfold Al
 with_reducible repeat' first | intro _ | apply (d175 _ _).2 | apply ag.loop | apply ag.ai | apply ag.bind | exact ag.refl _⟩
def d167 (x0 : Int) (x1 : (List Bool)) : {c // ag c (Am x0 x1)} := ⟨_, by
 unfold Am
 with_reducible repeat' first | intro _ | apply ag.bind | exact ag.refl _⟩
def d149 (x0 : av) (x1 : (List Bool)) (x2 : Int) : {c // ag c (uO x0 x1 x2)} := ⟨_, by
 unfold uO
 with_reducible repeat' first | intro _ | apply aav | apply (d166 _ _).2 | apply (d167 _ _).2 | apply ag.ai | apply ag.bind | exact ag.refl _⟩
def d99 (x0 : av) (x1 : (List Bool)) (x2 : (List Int)) : {c // ag c (uU x0 x1 x2)} := ⟨_, by
 unfold uU
 with_reducible repeat' first | intro _ | apply (d93 _ _).2 | apply (d120 _ _).2 | apply (d149 _ _ _).2 | apply ag.loop | apply ag.ai | apply ag.elim | apply ag.bind | exact ag.refl _⟩
def d213 (x0 : av) : {c // ag c (Au x0)} := ⟨_, by
 unfold Au
 with_reducible repeat' first | intro _ | apply (d99 _ _ _).2 | apply ag.bind | exact ag.refl _⟩
def d214 (x0 : av) : {c // ag c (Av x0)} := ⟨_, by
 unfold Av
 with_reducible repeat' first | intro _ | apply (d154 _ _ _).2 | apply ag.loop | apply ag.ai | apply ag.elim | apply ag.bind | exact ag.refl _⟩
def d83 (x0 : av) : {c // ag c (lK x0)} := ⟨_, by
 unfold lK
 with_reducible repeat' first | intro _ | apply (d211 _).2 | apply (d212 _).2 | apply (d213 _).2 | apply (d214 _).2 | apply ag.ai | apply ag.bind | exact ag.refl _⟩
abbrev Xn (x0 : av) := (d83 x0).1
theorem axb (x0 : av) : ag (Xn x0) (lK x0) := (d83 x0).2
def d103 (x0 : av) (x1 : Int) : {c // ag c (uL x0 x1)} := ⟨_, by
 unfold uL
 with_reducible repeat' first | intro _ | apply ag.bind | exact ag.refl _⟩
def Ni (x0 : (List cF)) (x1 : (cF → Option Bool)) : Option Int :=
 (qB (O := (Unit ⊕ Int)) (λ (dM : Int) =>
 ai (decide (dM < (x0.length : Int)))
 ((idx x0 dM).bind λ ei =>
 (x1 ei).bind λ eF =>
 ai eF
 (some (.inr (.inr dM)))
 (some (.inl (i64 (dM + 1)))))
 (some (.inr (.inl ())))) 0).bind (Sum.elim (λ (_ : Unit) =>
 some (-1))
  (λ q => some q))
theorem awF (x0 : (List cF)) {x1 fA : (cF → Option Bool)} (hx1 : ∀ y, ag (x1 y) (fA y)) : ag (Ni x0 x1) (CC x0 fA) := by
 unfold Ni CC
 with_reducible repeat' first | exact ag.refl _ | refine ag.loop λ _ => ?_ | refine ag.ai ?_ ?_ | refine ag.elim (λ _ => ?_) (λ _ => ?_) _ | exact hx1 _ | exact hy _ _ | refine ag.bind ?_ λ _ => ?_
def WY (x0 : (List cF)) (x1 : (cF → Option Bool)) : Option Bool :=
 (Ni x0 x1).bind λ cy =>
 some (decide (cy ≥ 0))
theorem awB (x0 : (List cF)) {x1 fA : (cF → Option Bool)} (hx1 : ∀ y, ag (x1 y) (fA y)) : ag (WY x0 x1) (Aj x0 fA) := by
 unfold WY Aj
 with_reducible repeat' first | exact ag.refl _ | refine awF _ (λ _ => ?_) | exact hx1 _ | exact hy _ _ | refine ag.bind ?_ λ _ => ?_
def d164 (x0 : Int) : {c // ag c (Ak x0)} := ⟨_, by
 unfold Ak
 with_reducible repeat' first | intro _ | apply ag.ai | apply ag.bind | exact ag.refl _⟩
def d163 (x0 : cF) (x1 : Int) (x2 : Int) : {c // ag c (xo x0 x1 x2)} := ⟨_, by
 unfold xo
 with_reducible repeat' first | intro _ | apply (d164 _).2 | apply ag.ai | apply ag.bind | exact ag.refl _⟩
def d143 (x0 : av) (x1 : bn) : {c // ag c (xg x0 x1)} := ⟨_, by
 unfold xg
 with_reducible repeat' first | intro _ | apply (d93 _ _).2 | apply (d103 _ _).2 | apply (d104 _ _ _).2 | apply awB | apply (d163 _ _ _).2 | apply ag.loop | apply ag.ai | apply ag.elim | apply ag.bind | exact ag.refl _⟩
abbrev WS (x0 : av) (x1 : bn) := (d143 x0 x1).1
theorem aww (x0 : av) (x1 : bn) : ag (WS x0 x1) (xg x0 x1) := (d143 x0 x1).2
def I1 {S : Type} (ys : bn → S → Option (S × Bool)) : Nat → bn → Int → av → S → Option (S × Bool)
 | 0, _, _, _, _ => none
 | k + 1, x0, x1, x2, s0 =>
  ai (x1 == (x2.au.length : Int))
  (((((WS x2 x0).bind λ eD =>
  ai (!eD)
  (some (s0, true))
  ((ys x0 s0).bind λ gZ =>
  some (gZ.1, gZ.2))) : Option (S × Bool))).bind (λ (lP : (S × Bool)) =>
  some (lP.1, lP.2)))
  ((idx x2.au x1).bind λ lX =>
  (qB (O := (S ⊕ (S × Bool))) (λ (dr : (S × Int × (List Int))) =>
  ai (decide (dr.2.1 ≤ lX.Weight.ax))
  ((idx dr.2.2 x1).bind λ _ =>
  (I1 ys k (⟨x0.fq, dr.2.2.set x1.toNat dr.2.1⟩ : bn) (i64 (x1 + 1)) x2 dr.1).bind λ nW =>
  ai (!nW.2)
  (some (.inr (.inr (nW.1, false))))
  (some (.inl (nW.1, i64 (dr.2.1 + 1), dr.2.2.set x1.toNat dr.2.1))))
  (some (.inr (.inl dr.1)))) (s0, lX.Weight.ao, x0.weights)).bind (Sum.elim (λ (jz : S) =>
  some (jz, true))
   (λ q => some q)))
theorem aau {S : Type} {ys ys' : bn → S → Option (S × Bool)} (h : ∀ y s, ag (ys y s) (ys' y s)) : ∀ k x0 x1 x2 s0, ag (I1 ys k x0 x1 x2 s0) (qD ys' k x0 x1 x2 s0)
 | 0, _, _, _, _ => ag.none
 | k + 1, x0, x1, x2, s0 => by
  have ih := aau h k
  rw [I1, qD]
  with_reducible repeat' first | exact ag.refl _ | refine ag.loop λ _ => ?_ | refine ag.ai ?_ ?_ | refine ag.elim (λ _ => ?_) (λ _ => ?_) _ | exact aww _ _ | exact h _ _ | exact ih _ _ _ _ | refine ag.bind ?_ λ _ => ?_
def Nc {S : Type} (ys : bn → S → Option (S × Bool)) (x0 : av) (s0 : S) : Option S :=
 (qB (O := (S ⊕ S)) (λ (kW : (S × Int)) =>
  ai (decide (kW.2 ≤ x0.af.ax))
  ((I1 ys 9 (⟨kW.2, [0, 0, 0, 0, 0]⟩ : bn) 0 x0 kW.1).bind λ jH =>
  ai (!jH.2)
  (some (.inr (.inr jH.1)))
  (some (.inl (jH.1, i64 (kW.2 + 1)))))
  (some (.inr (.inl kW.1)))) (s0, x0.af.ao)).bind (Sum.elim (λ (C2 : S) =>
  some C2)
   (λ q => some q))
theorem SZ {S : Type} {ys ys' : bn → S → Option (S × Bool)} (h : ∀ y s, ag (ys y s) (ys' y s)) (x0 : av) (s0 : S) : ag (Nc ys x0 s0) (oI ys' x0 s0) := by
 unfold Nc oI
 with_reducible repeat' first | exact ag.refl _ | refine ag.loop λ _ => ?_ | refine ag.ai ?_ ?_ | refine ag.elim (λ _ => ?_) (λ _ => ?_) _ | refine aau (λ _ _ => ?_) _ _ _ _ _ | exact h _ _ | refine ag.bind ?_ λ _ => ?_
def Nf (x1 : (bn → ((List bn) ⊕ Empty) → Option (((List bn) ⊕ Empty) × Bool)) → ((List bn) ⊕ Empty) → Option ((List bn) ⊕ Empty)) : Option (List bn) :=
 (x1 (dh (λ (yg : bn) (iT : (List bn)) => (((eH iT [yg]).bind λ ry =>
 some (.inl ry)) : Option ((List bn) ⊕ Empty)))) (.inl [])).bind (Sum.elim (λ (iT : (List bn)) =>
 some iT)
  (λ (o : Empty) => o.elim))
theorem awC {x1 fA : (bn → ((List bn) ⊕ Empty) → Option (((List bn) ⊕ Empty) × Bool)) → ((List bn) ⊕ Empty) → Option ((List bn) ⊕ Empty)} (hx1 : ∀ ys ys', (∀ y s, ag (ys y s) (ys' y s)) → ∀ s, ag (x1 ys s) (fA ys' s)) : ag (Nf x1) (Cz fA) := by
 unfold Nf Cz
 with_reducible repeat' first | exact ag.refl _ | refine ag.elim (λ _ => ?_) (λ _ => ?_) _ | refine ag.dh (λ _ _ => ?_) _ _ | refine hx1 _ _ (λ _ _ => ?_) _ | exact hx1 | exact hy _ _ | refine ag.bind ?_ λ _ => ?_
def Nd (x0 : (bn → ((List bn) ⊕ Empty) → Option (((List bn) ⊕ Empty) × Bool)) → ((List bn) ⊕ Empty) → Option ((List bn) ⊕ Empty)) : Option (List bn) :=
 (Nf x0).bind λ cy =>
 some cy
theorem awx {x0 x0' : (bn → ((List bn) ⊕ Empty) → Option (((List bn) ⊕ Empty) × Bool)) → ((List bn) ⊕ Empty) → Option ((List bn) ⊕ Empty)} (qv : ∀ ys ys', (∀ y s, ag (ys y s) (ys' y s)) → ∀ s, ag (x0 ys s) (x0' ys' s)) : ag (Nd x0) (Ag x0') := by
 unfold Nd Ag
 with_reducible repeat' first | exact ag.refl _ | refine awC (λ _ _ hy _ => ?_) | refine qv _ _ (λ _ _ => ?_) _ | exact qv | exact hy _ _ | refine ag.bind ?_ λ _ => ?_
def Xo (x0 : av) (x1 : (av → Option Int)) : Option (cR × Int) :=
 (Xn x0).bind λ cL =>
 ai (cL != 0)
 (some ((⟨⟨0, ⟨0, 0⟩, [], [], []⟩, [], kS⟩ : cR), cL))
 ((x1 x0).bind λ fV =>
 ai (fV != 0)
 (some ((⟨⟨0, ⟨0, 0⟩, [], [], []⟩, [], kS⟩ : cR), fV))
 ((Nd (λ y s => Nc y x0 s)).bind λ rz =>
 ai ((rz.length : Int) == 0)
 (some ((⟨⟨0, ⟨0, 0⟩, [], [], []⟩, [], kS⟩ : cR), 9))
 (some ((⟨⟨x0.aD, ⟨x0.af.ao, x0.af.ax⟩, x0.au, x0.Out, x0.aU⟩, rz, []⟩ : cR), 0))))
theorem uJ (x0 : av) {x1 fA : (av → Option Int)} (hx1 : ∀ y, ag (x1 y) (fA y)) : ag (Xo x0 x1) (mN x0 fA) := by
 unfold Xo mN
 with_reducible repeat' first | exact ag.refl _ | refine ag.ai ?_ ?_ | exact axb _ | refine SZ (λ _ _ => ?_) _ _ | refine awx (λ _ _ hy _ => ?_) | exact hx1 _ | exact hy _ _ | refine ag.bind ?_ λ _ => ?_
def d90 (x0 : av) : {c // ag c (m6 x0)} := ⟨_, by
 unfold m6
 with_reducible repeat' first | intro _ | apply ag.bind | exact ag.refl _⟩
def d92 (x0 : av) (x1 : (List Bool)) : {c // ag c (xH x0 x1)} := ⟨_, by
 unfold xH
 with_reducible repeat' first | intro _ | apply (d149 _ _ _).2 | apply ag.loop | apply ag.ai | apply ag.bind | exact ag.refl _⟩
abbrev Xq (x0 : av) (x1 : (List Bool)) := (d92 x0 x1).1
theorem axe (x0 : av) (x1 : (List Bool)) : ag (Xq x0 x1) (xH x0 x1) := (d92 x0 x1).2
def WU {S : Type} (ys : (List Bool) → S → Option (S × Bool)) (x1 : av) (x2 : (List Int)) (s0 : S) : Option S :=
 (Ew [false, false, false, false, false] x1.Out).bind λ LQ =>
  (qB (O := (S ⊕ S)) (λ (jA : (S × Int × (List Bool))) =>
  ai (decide (jA.2.1 < (x2.length : Int)))
  ((idx x2 jA.2.1).bind λ fV =>
  (Ew jA.2.2 [fV]).bind λ eL =>
  (ys eL jA.1).bind λ fD =>
  ai (!fD.2)
  (some (.inr (.inr fD.1)))
  (some (.inl (fD.1, i64 (jA.2.1 + 1), eL))))
  (some (.inr (.inl jA.1)))) (s0, 0, LQ)).bind (Sum.elim (λ (C1 : S) =>
  some C1)
   (λ q => some q))
theorem S0 {S : Type} {ys ys' : (List Bool) → S → Option (S × Bool)} (h : ∀ y s, ag (ys y s) (ys' y s)) (x1 : av) (x2 : (List Int)) (s0 : S) : ag (WU ys x1 x2 s0) (sP ys' x1 x2 s0) := by
 unfold WU sP
 with_reducible repeat' first | exact ag.refl _ | refine ag.loop λ _ => ?_ | refine ag.ai ?_ ?_ | refine ag.elim (λ _ => ?_) (λ _ => ?_) _ | exact S1 _ _ | exact h _ _ | refine ag.bind ?_ λ _ => ?_
def d102 (x0 : av) (x1 : (List Int)) : {c // ag c (Ad x0 x1)} := ⟨_, by
 unfold Ad
 with_reducible repeat' first | intro _ | apply ag.bind | exact ag.refl _⟩
def d94 (x0 : cR) (x1 : (List Int)) : {c // ag c (AD x0 x1)} := ⟨_, by
 unfold AD
 with_reducible repeat' first | intro _ | apply (d102 _ _).2 | apply S0 | apply ag.elim | apply ag.dh | apply ag.bind | exact ag.refl _⟩
def d20 (x0 : av) : {c // ag c (CE x0)} := ⟨_, by
 unfold CE
 with_reducible repeat' first | intro _ | apply uJ | apply (d90 _).2 | apply Ku | apply (d92 _ _).2 | apply (d93 _ _).2 | apply (d94 _ _).2 | apply ag.loop | apply ag.ai | apply ag.bind | exact ag.refl _⟩
abbrev Xa (x0 : av) := (d20 x0).1
theorem awR (x0 : av) : ag (Xa x0) (CE x0) := (d20 x0).2
def d98 (x0 : av) (x1 : (List Int)) : {c // ag c (CV x0 x1)} := ⟨_, by
 unfold CV
 with_reducible repeat' first | intro _ | apply (d93 _ _).2 | apply (d99 _ _ _).2 | apply ag.ai | apply ag.bind | exact ag.refl _⟩
def WN (x0 : cR) (x1 : (bn → Option Bool)) : Option Int :=
 (qB (O := Int) (λ (jY : (Int × Int)) =>
 ai (decide (jY.2 < (x0.dI.length : Int)))
 ((idx x0.dI jY.2).bind λ HO =>
 (x1 HO).bind λ vB =>
 ai vB
 (some (.inl (i64 (jY.1 + 1), i64 (jY.2 + 1))))
 (some (.inl (jY.1, i64 (jY.2 + 1)))))
 (some (.inr jY.1))) (0, 0)).bind (λ (mQ : Int) =>
 ai (mQ == 0)
 (some 2)
 (ai (mQ == (x0.dI.length : Int))
 (some 1)
 (some 0)))
theorem aar (x0 : cR) {x1 fA : (bn → Option Bool)} (hx1 : ∀ y, ag (x1 y) (fA y)) : ag (WN x0 x1) (Co x0 fA) := by
 unfold WN Co
 with_reducible repeat' first | exact ag.refl _ | refine ag.loop λ _ => ?_ | refine ag.ai ?_ ?_ | exact hx1 _ | exact hy _ _ | refine ag.bind ?_ λ _ => ?_
def d101 (x0 : bn) (x1 : cR) (x2 : (List Int)) : {c // ag c (Cp x0 x1 x2)} := ⟨_, by
 unfold Cp
 with_reducible repeat' first | intro _ | apply (d102 _ _).2 | apply (d103 _ _).2 | apply (d104 _ _ _).2 | apply S0 | apply ag.ai | apply ag.elim | apply ag.dh | apply ag.bind | exact ag.refl _⟩
def d23 (x0 : av) (x1 : (List Int)) : {c // ag c (xB x0 x1)} := ⟨_, by
 unfold xB
 with_reducible repeat' first | intro _ | apply uJ | apply (d98 _ _).2 | apply aar | apply (d101 _ _ _).2 | apply ag.ai | apply ag.bind | exact ag.refl _⟩
abbrev I3 (x0 : av) (x1 : (List Int)) := (d23 x0 x1).1
theorem awU (x0 : av) (x1 : (List Int)) : ag (I3 x0 x1) (xB x0 x1) := (d23 x0 x1).2
def d125 (x0 : (List Int)) : {c // ag c (rE x0)} := ⟨_, by
 unfold rE
 with_reducible repeat' first | intro _ | apply ag.bind | exact ag.refl _⟩
abbrev WQ (x0 : (List Int)) := (d125 x0).1
theorem awv (x0 : (List Int)) : ag (WQ x0) (rE x0) := (d125 x0).2
def I0 {S : Type} (ys : (List Int) → S → Option (S × Bool)) : Nat → (List Int) → (List Bool) → av → S → Option (S × Bool)
 | 0, _, _, _, _ => none
 | k + 1, x0, x1, x2, s0 =>
  (Xq x2 x1).bind λ cy =>
  ai ((cy.length : Int) == 0)
  ((ys x0 s0).bind λ fC =>
  some (fC.1, fC.2))
  ((qB (O := (S ⊕ (S × Bool))) (λ (lQ : (S × Int)) =>
  ai (decide (lQ.2 < (cy.length : Int)))
  ((idx cy lQ.2).bind λ dH =>
  (WQ x0).bind λ k7 =>
  (eH k7 [dH]).bind λ jI =>
  (Ew x1 [dH]).bind λ dP =>
  (I0 ys k jI dP x2 lQ.1).bind λ tE =>
  ai (!tE.2)
  (some (.inr (.inr (tE.1, false))))
  (some (.inl (tE.1, i64 (lQ.2 + 1)))))
  (some (.inr (.inl lQ.1)))) (s0, 0)).bind (Sum.elim (λ (lP : S) =>
  some (lP, true))
   (λ q => some q)))
theorem aat {S : Type} {ys ys' : (List Int) → S → Option (S × Bool)} (h : ∀ y s, ag (ys y s) (ys' y s)) : ∀ k x0 x1 x2 s0, ag (I0 ys k x0 x1 x2 s0) (Ai ys' k x0 x1 x2 s0)
 | 0, _, _, _, _ => ag.none
 | k + 1, x0, x1, x2, s0 => by
  have ih := aat h k
  rw [I0, Ai]
  with_reducible repeat' first | exact ag.refl _ | refine ag.loop λ _ => ?_ | refine ag.ai ?_ ?_ | refine ag.elim (λ _ => ?_) (λ _ => ?_) _ | exact axe _ _ | exact S1 _ _ | exact awv _ | exact h _ _ | exact ih _ _ _ _ | refine ag.bind ?_ λ _ => ?_
def WO {S : Type} (ys : (List Int) → S → Option (S × Bool)) (x0 : av) (s0 : S) : Option S :=
 (Ew [false, false, false, false, false] x0.Out).bind λ fC =>
  (I0 ys 9 [] fC x0 s0).bind λ k6 =>
  some k6.1
theorem SY {S : Type} {ys ys' : (List Int) → S → Option (S × Bool)} (h : ∀ y s, ag (ys y s) (ys' y s)) (x0 : av) (s0 : S) : ag (WO ys x0 s0) (sN ys' x0 s0) := by
 unfold WO sN
 with_reducible repeat' first | exact ag.refl _ | exact S1 _ _ | refine aat (λ _ _ => ?_) _ _ _ _ _ | exact h _ _ | refine ag.bind ?_ λ _ => ?_
def d25 (x0 : av) : {c // ag c (xC x0)} := ⟨_, by
 unfold xC
 with_reducible repeat' first | intro _ | apply uJ | apply (d90 _).2 | apply Ku | apply (d102 _ _).2 | apply SY | apply S0 | apply ag.ai | apply ag.elim | apply ag.dh | apply ag.bind | exact ag.refl _⟩
abbrev I4 (x0 : av) := (d25 x0).1
theorem awV (x0 : av) : ag (I4 x0) (xC x0) := (d25 x0).2
def d27 (x0 : av) : {c // ag c (CG x0)} := ⟨_, by
 unfold CG
 with_reducible repeat' first | intro _ | apply uJ | apply (d90 _).2 | apply Ku | apply (d94 _ _).2 | apply SY | apply ag.ai | apply ag.elim | apply ag.dh | apply ag.bind | exact ag.refl _⟩
abbrev Xc (x0 : av) := (d27 x0).1
theorem awW (x0 : av) : ag (Xc x0) (CG x0) := (d27 x0).2
def d110 (x0 : ao) (x1 : (List Int)) (x2 : Int) : {c // ag c (GF x0 x1 x2)} := ⟨_, by
 unfold GF
 with_reducible repeat' first | intro _ | apply ag.ai | apply ag.bind | exact ag.refl _⟩
def d29 (x0 : av) : {c // ag c (CH x0)} := ⟨_, by
 unfold CH
 with_reducible repeat' first | intro _ | apply uJ | apply (d90 _).2 | apply Ku | apply (d94 _ _).2 | apply SY | apply (d110 _ _ _).2 | apply ag.ai | apply ag.elim | apply ag.dh | apply ag.bind | exact ag.refl _⟩
abbrev Xd (x0 : av) := (d29 x0).1
theorem awX (x0 : av) : ag (Xd x0) (CH x0) := (d29 x0).2
def d112 (x0 : av) : {c // ag c (w8 x0)} := ⟨_, by
 unfold w8
 with_reducible repeat' first | intro _ | apply SZ | apply ag.elim | apply ag.dh | apply ag.bind | exact ag.refl _⟩
def d176 (x0 : Int) : {c // ag c (uP x0)} := ⟨_, by
 unfold uP
 with_reducible repeat' first | intro _ | apply ag.bind | exact ag.refl _⟩
def d168 (x0 : Int) (x1 : Int) : {c // ag c (GL x0 x1)} := ⟨_, by
 unfold GL
 with_reducible repeat' first | intro _ | apply (d176 _).2 | apply ag.ai | apply ag.bind | exact ag.refl _⟩
def d153 (x0 : (List Int)) (x1 : (List Int)) : {c // ag c (GJ x0 x1)} := ⟨_, by
 unfold GJ
 with_reducible repeat' first | intro _ | apply (d168 _ _).2 | apply ag.loop | apply ag.ai | apply ag.elim | apply ag.bind | exact ag.refl _⟩
def d113 (x0 : (List Int)) (x1 : (List Int)) : {c // ag c (Cq x0 x1)} := ⟨_, by
 unfold Cq
 with_reducible repeat' first | intro _ | apply (d153 _ _).2 | apply ag.ai | apply ag.bind | exact ag.refl _⟩
abbrev agb (x0 : (List Int)) (x1 : (List Int)) := (d113 x0 x1).1
theorem aM4 (x0 : (List Int)) (x1 : (List Int)) : ag (agb x0 x1) (Cq x0 x1) := (d113 x0 x1).2
def d31 (x0 : av) : {c // ag c (CJ x0)} := ⟨_, by
 unfold CJ
 with_reducible repeat' first | intro _ | apply (d83 _).2 | apply (d112 _).2 | apply (d113 _ _).2 | apply ag.loop | apply ag.ai | apply ag.bind | exact ag.refl _⟩
abbrev Xe (x0 : av) := (d31 x0).1
theorem awY (x0 : av) : ag (Xe x0) (CJ x0) := (d31 x0).2
def d33 (x0 : av) : {c // ag c (xD x0)} := ⟨_, by
 unfold xD
 with_reducible repeat' first | intro _ | apply uJ | apply (d90 _).2 | apply ag.loop | apply ag.ai | apply ag.bind | exact ag.refl _⟩
abbrev Xf (x0 : av) := (d33 x0).1
theorem awZ (x0 : av) : ag (Xf x0) (xD x0) := (d33 x0).2
def d117 (x0 : (List cF)) : {c // ag c (yq x0)} := ⟨_, by
 unfold yq
 with_reducible repeat' first | intro _ | apply ag.bind | exact ag.refl _⟩
def d122 (x0 : (List cG)) : {c // ag c (xb x0)} := ⟨_, by
 unfold xb
 with_reducible repeat' first | intro _ | apply ag.bind | exact ag.refl _⟩
def d118 (x0 : av) : {c // ag c (w9 x0)} := ⟨_, by
 unfold w9
 with_reducible repeat' first | intro _ | apply (d83 _).2 | apply (d112 _).2 | apply (d117 _).2 | apply (d122 _).2 | apply (d125 _).2 | apply ag.loop | apply ag.ai | apply ag.bind | exact ag.refl _⟩
def d35 (x0 : av) (x1 : cF) : {c // ag c (CL x0 x1)} := ⟨_, by
 unfold CL
 with_reducible repeat' first | intro _ | apply (d83 _).2 | apply (d117 _).2 | apply (d118 _).2 | apply ag.ai | apply ag.bind | exact ag.refl _⟩
abbrev Xg (x0 : av) (x1 : cF) := (d35 x0 x1).1
theorem aw0 (x0 : av) (x1 : cF) : ag (Xg x0 x1) (CL x0 x1) := (d35 x0 x1).2
def d38 (x0 : av) (x1 : Int) (x2 : Reach) : {c // ag c (xE x0 x1 x2)} := ⟨_, by
 unfold xE
 with_reducible repeat' first | intro _ | apply (d83 _).2 | apply (d118 _).2 | apply (d120 _ _).2 | apply (d121 _ _ _ _).2 | apply (d122 _).2 | apply ag.ai | apply ag.bind | exact ag.refl _⟩
abbrev Xh (x0 : av) (x1 : Int) (x2 : Reach) := (d38 x0 x1 x2).1
theorem aw1 (x0 : av) (x1 : Int) (x2 : Reach) : ag (Xh x0 x1 x2) (xE x0 x1 x2) := (d38 x0 x1 x2).2
def d40 (x0 : av) (x1 : Int) : {c // ag c (Az x0 x1)} := ⟨_, by
 unfold Az
 with_reducible repeat' first | intro _ | apply (d83 _).2 | apply (d93 _ _).2 | apply (d99 _ _ _).2 | apply (d118 _).2 | apply (d125 _).2 | apply ag.ai | apply ag.bind | exact ag.refl _⟩
abbrev Nm (x0 : av) (x1 : Int) := (d40 x0 x1).1
theorem aw2 (x0 : av) (x1 : Int) : ag (Nm x0 x1) (Az x0 x1) := (d40 x0 x1).2
def d127 (x0 : av) (x1 : Int) : {c // ag c (Ae x0 x1)} := ⟨_, by
 unfold Ae
 with_reducible repeat' first | intro _ | apply (d120 _ _).2 | apply ag.ai | apply ag.bind | exact ag.refl _⟩
def d183 (x0 : Int) (x1 : Int) : {c // ag c (eJ x0 x1)} := ⟨_, by
 unfold eJ
 with_reducible repeat' first | intro _ | apply (d176 _).2 | apply ag.ai | apply ag.bind | exact ag.refl _⟩
abbrev W6 (x0 : Int) (x1 : Int) := (d183 x0 x1).1
theorem awM (x0 : Int) (x1 : Int) : ag (W6 x0 x1) (eJ x0 x1) := (d183 x0 x1).2
def d177 (x0 : (List Int)) (x1 : Int) (x2 : Int) : {c // ag c (xq x0 x1 x2)} := ⟨_, by
 unfold xq
 with_reducible repeat' first | intro _ | apply (d183 _ _).2 | apply ag.loop | apply ag.ai | apply ag.bind | exact ag.refl _⟩
abbrev WZ (x0 : (List Int)) (x1 : Int) (x2 : Int) := (d177 x0 x1 x2).1
theorem awG (x0 : (List Int)) (x1 : Int) (x2 : Int) : ag (WZ x0 x1 x2) (xq x0 x1 x2) := (d177 x0 x1 x2).2
def d189 (x0 : (List Int)) (x1 : Int) (x2 : Int) (x3 : Int) : {c // ag c (xz x0 x1 x2 x3)} := ⟨_, by
 unfold xz
 with_reducible repeat' first | intro _ | apply (d183 _ _).2 | apply ag.loop | apply ag.ai | apply ag.elim | apply ag.bind | exact ag.refl _⟩
def d178 (x0 : (List Int)) (x1 : Int) (x2 : Int) : {c // ag c (xu x0 x1 x2)} := ⟨_, by
 unfold xu
 with_reducible repeat' first | intro _ | apply (d189 _ _ _ _).2 | apply ag.loop | apply ag.ai | apply ag.bind | exact ag.refl _⟩
abbrev W0 (x0 : (List Int)) (x1 : Int) (x2 : Int) := (d178 x0 x1 x2).1
theorem awH (x0 : (List Int)) (x1 : Int) (x2 : Int) : ag (W0 x0 x1 x2) (xu x0 x1 x2) := (d178 x0 x1 x2).2
def d187 (x0 : Int) : {c // ag c (GN x0)} := ⟨_, by
 unfold GN
 with_reducible repeat' first | intro _ | apply ag.ai | apply ag.bind | exact ag.refl _⟩
def d170 (x0 : Int) : {c // ag c (xp x0)} := ⟨_, by
 unfold xp
 with_reducible repeat' first | intro _ | apply (d187 _).2 | apply ag.bind | exact ag.refl _⟩
abbrev Ng (x0 : Int) := (d170 x0).1
theorem awD (x0 : Int) : ag (Ng x0) (xp x0) := (d170 x0).2
def d190 (x0 : Int) : {c // ag c (Ap x0)} := ⟨_, by
 unfold Ap
 with_reducible repeat' first | intro _ | apply (d170 _).2 | apply ag.bind | exact ag.refl _⟩
abbrev Nj (x0 : Int) := (d190 x0).1
theorem awQ (x0 : Int) : ag (Nj x0) (Ap x0) := (d190 x0).2
def d191 (x0 : Int) : {c // ag c (Aq x0)} := ⟨_, by
 unfold Aq
 with_reducible repeat' first | intro _ | apply ag.bind | exact ag.refl _⟩
def d179 (x0 : (List Int)) (x1 : Int) (x2 : Int) : {c // ag c (uQ x0 x1 x2)} := ⟨_, by
 unfold uQ
 with_reducible repeat' first | intro _ | apply (d190 _).2 | apply (d191 _).2 | apply ag.loop | apply ag.ai | apply ag.bind | exact ag.refl _⟩
abbrev W1 (x0 : (List Int)) (x1 : Int) (x2 : Int) := (d179 x0 x1 x2).1
theorem awI (x0 : (List Int)) (x1 : Int) (x2 : Int) : ag (W1 x0 x1 x2) (uQ x0 x1 x2) := (d179 x0 x1 x2).2
def d194 (x0 : (List Int)) (x1 : Int) (x2 : Int) (x3 : Int) : {c // ag c (pD x0 x1 x2 x3)} := ⟨_, by
 unfold pD
 with_reducible repeat' first | intro _ | apply (d183 _ _).2 | apply ag.ai | apply ag.bind | exact ag.refl _⟩
def d193 (x0 : (List Int)) (x1 : Int) (x2 : Int) (x3 : Int) (x4 : Int) : {c // ag c (qG x0 x1 x2 x3 x4)} := ⟨_, by
 unfold qG
 with_reducible repeat' first | intro _ | apply (d194 _ _ _ _).2 | apply ag.bind | exact ag.refl _⟩
def d192 (x0 : (List Int)) (x1 : Int) (x2 : Int) : {c // ag c (pC x0 x1 x2)} := ⟨_, by
 unfold pC
 with_reducible repeat' first | intro _ | apply (d193 _ _ _ _ _).2 | apply ag.bind | exact ag.refl _⟩
def d180 (x0 : (List Int)) (x1 : Int) (x2 : Int) : {c // ag c (xw x0 x1 x2)} := ⟨_, by
 unfold xw
 with_reducible repeat' first | intro _ | apply (d192 _ _ _).2 | apply (d193 _ _ _ _ _).2 | apply ag.ai | apply ag.bind | exact ag.refl _⟩
abbrev W3 (x0 : (List Int)) (x1 : Int) (x2 : Int) := (d180 x0 x1 x2).1
theorem awJ (x0 : (List Int)) (x1 : Int) (x2 : Int) : ag (W3 x0 x1 x2) (xw x0 x1 x2) := (d180 x0 x1 x2).2
def d181 (x0 : (List Int)) (x1 : Int) (x2 : Int) : {c // ag c (uR x0 x1 x2)} := ⟨_, by
 unfold uR
 with_reducible repeat' first | intro _ | apply ag.loop | apply ag.ai | apply ag.bind | exact ag.refl _⟩
abbrev W4 (x0 : (List Int)) (x1 : Int) (x2 : Int) := (d181 x0 x1 x2).1
theorem awK (x0 : (List Int)) (x1 : Int) (x2 : Int) : ag (W4 x0 x1 x2) (uR x0 x1 x2) := (d181 x0 x1 x2).2
def d182 (x0 : (List Int)) (x1 : Int) (x2 : Int) : {c // ag c (sQ x0 x1 x2)} := ⟨_, by
 unfold sQ
 with_reducible repeat' first | intro _ | apply (d183 _ _).2 | apply ag.loop | apply ag.ai | apply ag.elim | apply ag.bind | exact ag.refl _⟩
abbrev W5 (x0 : (List Int)) (x1 : Int) (x2 : Int) := (d182 x0 x1 x2).1
theorem awL (x0 : (List Int)) (x1 : Int) (x2 : Int) : ag (W5 x0 x1 x2) (sQ x0 x1 x2) := (d182 x0 x1 x2).2
def d184 (x0 : (List Int)) (x1 : Int) (x2 : Int) (x3 : Int) : {c // ag c (xx x0 x1 x2 x3)} := ⟨_, by
 unfold xx
 with_reducible repeat' first | intro _ | apply (d183 _ _).2 | apply ag.loop | apply ag.ai | apply ag.bind | exact ag.refl _⟩
abbrev W7 (x0 : (List Int)) (x1 : Int) (x2 : Int) (x3 : Int) := (d184 x0 x1 x2 x3).1
theorem awN (x0 : (List Int)) (x1 : Int) (x2 : Int) (x3 : Int) : ag (W7 x0 x1 x2 x3) (xx x0 x1 x2 x3) := (d184 x0 x1 x2 x3).2
def d185 (x0 : (List Int)) (x1 : Int) (x2 : Int) (x3 : Int) : {c // ag c (xy x0 x1 x2 x3)} := ⟨_, by
 unfold xy
 with_reducible repeat' first | intro _ | apply (d183 _ _).2 | apply ag.loop | apply ag.ai | apply ag.bind | exact ag.refl _⟩
abbrev W8 (x0 : (List Int)) (x1 : Int) (x2 : Int) (x3 : Int) := (d185 x0 x1 x2 x3).1
theorem awO (x0 : (List Int)) (x1 : Int) (x2 : Int) (x3 : Int) : ag (W8 x0 x1 x2 x3) (xy x0 x1 x2 x3) := (d185 x0 x1 x2 x3).2
def I2 : Nat → (List Int) → Int → Int → Int → Option (List Int)
 | 0, _, _, _, _ => none
 | k + 1, x0, x1, x2, x3 =>
  (qB (O := (List Int)) (λ (aY : ((List Int) × Int × Int × Int × Bool × Bool)) =>
  ai (decide (i64 (aY.2.2.1 - aY.2.1) ≤ 12))
  ((WZ aY.1 aY.2.1 aY.2.2.1).bind λ L1 =>
  some (.inr L1))
  (ai (aY.2.2.2.1 == 0)
  ((W0 aY.1 aY.2.1 aY.2.2.1).bind λ L2 =>
  some (.inr L2))
  ((((ai (!aY.2.2.2.2.1)
  ((W1 aY.1 aY.2.1 aY.2.2.1).bind λ ru =>
  some (ru, i64 (aY.2.2.2.1 - 1)))
  (some (aY.1, aY.2.2.2.1))) : Option ((List Int) × Int))).bind (λ (fy : ((List Int) × Int)) =>
  (W3 fy.1 aY.2.1 aY.2.2.1).bind λ oR =>
  (((ai (oR.2 == 2)
  ((W4 fy.1 aY.2.1 aY.2.2.1).bind λ vA =>
  some (vA, i64 ((i64 (aY.2.2.1 - 1)) - (i64 (oR.1 - aY.2.1))), 1))
  (some (fy.1, oR.1, oR.2))) : Option ((List Int) × Int × Int))).bind (λ (gT : ((List Int) × Int × Int)) =>
  (((ai aY.2.2.2.2.1
  (ai aY.2.2.2.2.2
  (some (gT.2.2 == 1))
  (some false))
  (some false)) : Option Bool)).bind (λ (C5 : Bool) =>
  (((ai C5
  ((W5 gT.1 aY.2.1 aY.2.2.1).bind λ lY =>
  ai lY.2
  (some (.inr lY.1))
  (some (.inl lY.1)))
  (some (.inl gT.1))) : Option ((List Int) ⊕ (List Int)))).bind (Sum.elim (λ (nL : (List Int)) =>
  (((ai (decide (aY.2.1 > 0))
  ((idx nL (i64 (aY.2.1 - 1))).bind λ Bj =>
  (idx nL gT.2.1).bind λ Bl =>
  (W6 Bj Bl).bind λ DH =>
  some (!DH))
  (some false)) : Option Bool)).bind (λ (C6 : Bool) =>
  ai C6
  ((W7 nL aY.2.1 aY.2.2.1 gT.2.1).bind λ DI =>
  some (.inl (DI.1, DI.2, aY.2.2.1, fy.2, aY.2.2.2.2.1, aY.2.2.2.2.2)))
  ((W8 nL aY.2.1 aY.2.2.1 gT.2.1).bind λ e9 =>
  (kT (i64 (aY.2.2.1 - aY.2.1)) 8).bind λ DJ =>
  ai (decide (i64 (e9.2.1 - aY.2.1) < i64 (aY.2.2.1 - e9.2.1)))
  ((I2 k e9.1 aY.2.1 e9.2.1 fy.2).bind λ L5 =>
  some (.inl (L5, i64 (e9.2.1 + 1), aY.2.2.1, fy.2, decide (i64 (e9.2.1 - aY.2.1) ≥ DJ), e9.2.2)))
  ((I2 k e9.1 (i64 (e9.2.1 + 1)) aY.2.2.1 fy.2).bind λ L6 =>
  some (.inl (L6, aY.2.1, e9.2.1, fy.2, decide (i64 (aY.2.2.1 - e9.2.1) ≥ DJ), e9.2.2))))))
   (λ q => some (.inr q))))))))) (x0, x1, x2, x3, true, true)).bind (λ q => some q)
theorem aaw : ∀ k x0 x1 x2 x3, ag (I2 k x0 x1 x2 x3) (qE k x0 x1 x2 x3)
 | 0, _, _, _, _ => ag.none
 | k + 1, x0, x1, x2, x3 => by
  have ih := aaw k
  rw [I2, qE]
  with_reducible repeat' first | exact ag.refl _ | refine ag.loop λ _ => ?_ | refine ag.ai ?_ ?_ | refine ag.elim (λ _ => ?_) (λ _ => ?_) _ | exact awG _ _ _ | exact awH _ _ _ | exact awI _ _ _ | exact awJ _ _ _ | exact awK _ _ _ | exact awL _ _ _ | exact awM _ _ | exact awN _ _ _ _ | exact awO _ _ _ _ | exact ih _ _ _ _ | refine ag.bind ?_ λ _ => ?_
def d155 (x0 : (List Int)) : {c // ag c (xk x0)} := ⟨_, by
 unfold xk
 with_reducible repeat' first | intro _ | apply aaw | apply (d170 _).2 | apply ag.bind | exact ag.refl _⟩
abbrev WV (x0 : (List Int)) := (d155 x0).1
theorem awz (x0 : (List Int)) : ag (WV x0) (xk x0) := (d155 x0).2
def d156 (x0 : (List Int)) : {c // ag c (xl x0)} := ⟨_, by
 unfold xl
 with_reducible repeat' first | intro _ | apply ag.loop | apply ag.ai | apply ag.elim | apply ag.bind | exact ag.refl _⟩
abbrev WW (x0 : (List Int)) := (d156 x0).1
theorem awA (x0 : (List Int)) : ag (WW x0) (xl x0) := (d156 x0).2
def WR (x0 : cR) (x1 : (bn → Option Int)) : Option (List Int) :=
 (qB (O := (List Int)) (λ (mT : ((List Int) × Int)) =>
 ai (decide (mT.2 < (x0.dI.length : Int)))
 ((idx x0.dI mT.2).bind λ kA =>
 (x1 kA).bind λ fE =>
 (eH mT.1 [fE]).bind λ iF =>
 some (.inl (iF, i64 (mT.2 + 1))))
 (some (.inr mT.1))) ([], 0)).bind (λ (AH : (List Int)) =>
 (WV AH).bind λ k9 =>
 (WW k9).bind λ rA =>
 some rA)
theorem aas (x0 : cR) {x1 fA : (bn → Option Int)} (hx1 : ∀ y, ag (x1 y) (fA y)) : ag (WR x0 x1) (xe x0 fA) := by
 unfold WR xe
 with_reducible repeat' first | exact ag.refl _ | refine ag.loop λ _ => ?_ | refine ag.ai ?_ ?_ | exact awz _ | exact awA _ | exact hx1 _ | exact hy _ _ | refine ag.bind ?_ λ _ => ?_
def d129 (x0 : bn) (x1 : Int) : {c // ag c (Af x0 x1)} := ⟨_, by
 unfold Af
 with_reducible repeat' first | intro _ | apply ag.bind | exact ag.refl _⟩
def d43 (x0 : av) (x1 : Int) : {c // ag c (sR x0 x1)} := ⟨_, by
 unfold sR
 with_reducible repeat' first | intro _ | apply uJ | apply (d127 _ _).2 | apply aas | apply (d129 _ _).2 | apply ag.ai | apply ag.bind | exact ag.refl _⟩
abbrev Xi (x0 : av) (x1 : Int) := (d43 x0 x1).1
theorem aw3 (x0 : av) (x1 : Int) : ag (Xi x0 x1) (sR x0 x1) := (d43 x0 x1).2
def d44 (x0 : av) : {c // ag c (oJ x0)} := ⟨_, by
 unfold oJ
 with_reducible repeat' first | intro _ | apply (d83 _).2 | apply SZ | apply ag.ai | apply ag.elim | apply ag.dh | apply ag.bind | exact ag.refl _⟩
abbrev Nn (x0 : av) := (d44 x0).1
theorem aw4 (x0 : av) : ag (Nn x0) (oJ x0) := (d44 x0).2
def d72 (x0 : Int) (x1 : Int) : {c // ag c (uS x0 x1)} := ⟨_, by
 unfold uS
 with_reducible repeat' first | intro _ | apply ag.bind | exact ag.refl _⟩
abbrev Nq (x0 : Int) (x1 : Int) := (d72 x0 x1).1
theorem aay (x0 : Int) (x1 : Int) : ag (Nq x0 x1) (uS x0 x1) := (d72 x0 x1).2
def d45 (x0 : Int) : {c // ag c (pE x0)} := ⟨_, by
 unfold pE
 with_reducible repeat' first | intro _ | apply (d72 _ _).2 | apply ag.bind | exact ag.refl _⟩
abbrev I5 (x0 : Int) := (d45 x0).1
theorem aax (x0 : Int) : ag (I5 x0) (pE x0) := (d45 x0).2
def d159 (x0 : Int) : {c // ag c (Cx x0)} := ⟨_, by
 unfold Cx
 with_reducible repeat' first | intro _ | apply (d154 _ _ _).2 | apply ag.bind | exact ag.refl _⟩
def d131 (x0 : av) (x1 : gM) : {c // ag c (GH x0 x1)} := ⟨_, by
 unfold GH
 with_reducible repeat' first | intro _ | apply (d154 _ _ _).2 | apply aav | apply (d159 _).2 | apply ag.ai | apply ag.bind | exact ag.refl _⟩
def d50 (x0 : av) (x1 : gM) (x2 : (List Int)) : {c // ag c (CP x0 x1 x2)} := ⟨_, by
 unfold CP
 with_reducible repeat' first | intro _ | apply (d83 _).2 | apply (d93 _ _).2 | apply (d104 _ _ _).2 | apply (d131 _ _).2 | apply (d132 _ _).2 | apply ag.ai | apply ag.bind | exact ag.refl _⟩
abbrev Xj (x0 : av) (x1 : gM) (x2 : (List Int)) := (d50 x0 x1 x2).1
theorem aw5 (x0 : av) (x1 : gM) (x2 : (List Int)) : ag (Xj x0 x1 x2) (CP x0 x1 x2) := (d50 x0 x1 x2).2
def d53 (x0 : av) : {c // ag c (CQ x0)} := ⟨_, by
 unfold CQ
 with_reducible repeat' first | intro _ | apply (d83 _).2 | apply (d92 _ _).2 | apply (d93 _ _).2 | apply ag.ai | apply ag.bind | exact ag.refl _⟩
abbrev Xk (x0 : av) := (d53 x0).1
theorem aw6 (x0 : av) : ag (Xk x0) (CQ x0) := (d53 x0).2
def d160 (x0 : av) (x1 : (List Int)) : {c // ag c (pB x0 x1)} := ⟨_, by
 unfold pB
 with_reducible repeat' first | intro _ | apply (d132 _ _).2 | apply ag.bind | exact ag.refl _⟩
def d133 (x0 : (List Int)) : {c // ag c (Ct x0)} := ⟨_, by
 unfold Ct
 with_reducible repeat' first | intro _ | apply ag.bind | exact ag.refl _⟩
def d134 (x0 : bn) (x1 : cR) (x2 : (List Int)) : {c // ag c (Cu x0 x1 x2)} := ⟨_, by
 unfold Cu
 with_reducible repeat' first | intro _ | apply (d93 _ _).2 | apply (d103 _ _).2 | apply (d104 _ _ _).2 | apply ag.bind | exact ag.refl _⟩
def d56 (x0 : av) (x1 : (List Int)) : {c // ag c (AB x0 x1)} := ⟨_, by
 unfold AB
 with_reducible repeat' first | intro _ | apply uJ | apply aar | apply (d133 _).2 | apply (d134 _ _ _).2 | apply (d160 _ _).2 | apply ag.ai | apply ag.bind | exact ag.refl _⟩
abbrev Np (x0 : av) (x1 : (List Int)) := (d56 x0 x1).1
theorem aw7 (x0 : av) (x1 : (List Int)) : ag (Np x0 x1) (AB x0 x1) := (d56 x0 x1).2
def d60 (x0 : av) (x1 : cF) : {c // ag c (xF x0 x1)} := ⟨_, by
 unfold xF
 with_reducible repeat' first | intro _ | apply ag.bind | exact ag.refl _⟩
abbrev I6 (x0 : av) (x1 : cF) := (d60 x0 x1).1
theorem aw8 (x0 : av) (x1 : cF) : ag (I6 x0 x1) (xF x0 x1) := (d60 x0 x1).2
def d64 (x0 : av) (x1 : Int) : {c // ag c (m64 x0 x1)} := ⟨_, by
 unfold m64
 with_reducible repeat' first | intro _ | apply ag.bind | exact ag.refl _⟩
abbrev Xl (x0 : av) (x1 : Int) := (d64 x0 x1).1
theorem aw9 (x0 : av) (x1 : Int) : ag (Xl x0 x1) (m64 x0 x1) := (d64 x0 x1).2
def d137 (x0 : bn) (x1 : cR) (x2 : (List Int)) : {c // ag c (Cv x0 x1 x2)} := ⟨_, by
 unfold Cv
 with_reducible repeat' first | intro _ | apply (d93 _ _).2 | apply (d104 _ _ _).2 | apply ag.bind | exact ag.refl _⟩
def d71 (x0 : av) (x1 : (List Int)) : {c // ag c (CR x0 x1)} := ⟨_, by
 unfold CR
 with_reducible repeat' first | intro _ | apply uJ | apply aas | apply (d133 _).2 | apply (d137 _ _ _).2 | apply (d160 _ _).2 | apply ag.ai | apply ag.bind | exact ag.refl _⟩
abbrev Xm (x0 : av) (x1 : (List Int)) := (d71 x0 x1).1
theorem axa (x0 : av) (x1 : (List Int)) : ag (Xm x0 x1) (CR x0 x1) := (d71 x0 x1).2
def Nr  : Option av :=
 (Nq 20 21).bind λ dW =>
 (I5 30).bind λ gY =>
 (I5 10).bind λ eD =>
 some (⟨62, ⟨0, 0⟩, [(⟨⟨#[103, 117, 110]⟩, (-3), ⟨dW.ao, dW.ax⟩, []⟩ : cG), (⟨⟨#[99, 104, 101, 115, 116]⟩, 2, ⟨gY.ao, gY.ax⟩, []⟩ : cG), (⟨⟨#[97, 110, 99, 104, 111, 114]⟩, 1, ⟨eD.ao, eD.ax⟩, [0]⟩ : cG)], [], []⟩ : av)
theorem axc  : ag (Nr ) (GV ) := by
 unfold Nr GV
 with_reducible repeat' first | exact ag.refl _ | exact aax _ | exact aay _ _ | exact hy _ _ | refine ag.bind ?_ λ _ => ?_
def d55 (x0 : (List Int)) (x1 : (List Int)) : {c // ag c (AA x0 x1)} := ⟨_, by
 unfold AA
 with_reducible repeat' first | intro _ | apply ag.loop | apply ag.ai | apply ag.elim | apply ag.bind | exact ag.refl _⟩
def d22 (x0 : (List Int)) (x1 : (List Int)) : {c // ag c (xA x0 x1)} := ⟨_, by
 unfold xA
 with_reducible repeat' first | intro _ | apply (d55 _ _).2 | apply ag.ai | apply ag.bind | exact ag.refl _⟩
def d88 (x0 : (List Int)) (x1 : (List Int)) : {c // ag c (qH x0 x1)} := ⟨_, by
 unfold qH
 with_reducible repeat' first | intro _ | apply (d22 _ _).2 | apply ag.bind | exact ag.refl _⟩
abbrev yR (x0 : (List Int)) (x1 : (List Int)) := (d88 x0 x1).1
theorem axd (x0 : (List Int)) (x1 : (List Int)) : ag (yR x0 x1) (qH x0 x1) := (d88 x0 x1).2
def W9  : Option Bool :=
 (Nr).bind λ bZ =>
 (Xl bZ 2).bind λ vv =>
 (I6 vv (⟨1, 0⟩ : cF)).bind λ k5 =>
 (Xj bZ (⟨0, [21, 30, 10]⟩ : gM) [1]).bind λ A6 =>
 (Nn bZ).bind λ A7 =>
 (Xi bZ 0).bind λ A8 =>
 (Xm bZ [2]).bind λ yd =>
 (Np bZ [0]).bind λ A9 =>
 (Np bZ [1, 2]).bind λ Ba =>
 (Xk bZ).bind λ Bb =>
 (Xa bZ).bind λ Bc =>
 (Nn k5).bind λ Bd =>
 (((ai (A6.2 != 0)
 (some true)
 (ai (A7.2 != 0)
 (some true)
 (ai (A8.2 != 0)
 (some true)
 (ai (yd.2 != 0)
 (some true)
 (ai (A9.2 != 0)
 (some true)
 (ai (Ba.2 != 0)
 (some true)
 (ai (Bb.2 != 0)
 (some true)
 (ai (Bc.2 != 0)
 (some true)
 (some (Bd.2 != 0)))))))))) : Option Bool)).bind (λ (CY : Bool) =>
 ai CY
 (some false)
 ((((ai (A6.1 != (-53))
 (some true)
 (ai (A7.1 != 2)
 (some true)
 ((yR A8.1 [20, 21]).bind λ fF =>
 ai (!fF)
 (some true)
 ((Nq (-3) 0).bind λ HJ =>
 ai (!(BW yd.1 HJ == true))
 (some true)
 (ai (A9.1 != 1)
 (some true)
 (ai (Ba.1 != 0)
 (some true)
 ((yR Bb.1 [1, 2]).bind λ Bf =>
 ai (!Bf)
 (some true)
 ((yR Bc.1 [1, 2]).bind λ ri =>
 ai (!ri)
 (some true)
 (some (Bd.1 != 1)))))))))) : Option Bool)).bind (λ (C0 : Bool) =>
 ai C0
 (some false)
 ((I3 bZ [2, 0, 1]).bind λ pP =>
 (I3 bZ [2, 1, 0]).bind λ tB =>
 (I3 bZ [0, 1, 2]).bind λ vz =>
 (I4 bZ).bind λ nU =>
 (Xc bZ).bind λ tC =>
 (Xd bZ).bind λ oQ =>
 (I4 k5).bind λ rj =>
 (((ai (pP.2 != 0)
 (some true)
 (ai (tB.2 != 0)
 (some true)
 (ai (vz.2 != 7)
 (some true)
 (ai (nU.2 != 0)
 (some true)
 (ai (tC.2.2 != 0)
 (some true)
 (ai (oQ.2.2 != 0)
 (some true)
 (some (rj.2 != 0)))))))) : Option Bool)).bind (λ (iR : Bool) =>
 ai iR
 (some false)
 ((((ai (pP.1 != 1)
 (some true)
 (ai (tB.1 != 0)
 (some true)
 (ai (nU.1 != 1)
 (some true)
 (ai (!tC.2.1)
 (some true)
 ((yR tC.1 [2, 0, 1]).bind λ LV =>
 ai (!LV)
 (some true)
 ((yR oQ.1 [2, 0, 1]).bind λ LW =>
 ai (!LW)
 (some true)
 (ai (oQ.2.1 != 60)
 (some true)
 (some (rj.1 != 2))))))))) : Option Bool)).bind (λ (C3 : Bool) =>
 ai C3
 (some false)
 ((Xf bZ).bind λ yf =>
 (Nm bZ 0).bind λ LX =>
 (Nm bZ 2).bind λ tD =>
 (Xg tD.1 (⟨1, 2⟩ : cF)).bind λ LY =>
 (I6 bZ (⟨0, 1⟩ : cF)).bind λ DE =>
 (I6 DE (⟨0, 2⟩ : cF)).bind λ rm =>
 (Xe rm).bind λ Bg =>
 (I5 21).bind λ DF =>
 (Xh bZ 0 DF).bind λ Bh =>
 (I4 Bh.1).bind λ DG =>
 ai (yf.2.2 == 0)
 (ai (LX.2 == 7)
 (ai (tD.2 == 0)
 (ai (LY.2 == 9)
 (ai (Bg.2 == 0)
 (ai (Bh.2 == 0)
 (ai (DG.2 == 0)
 (ai (yf.1 == 0)
 (ai (yf.2.1 == 1)
 ((yR Bg.1 [0]).bind λ LZ =>
 ai LZ
 (some (DG.1 == 1))
 (some false))
 (some false))
 (some false))
 (some false))
 (some false))
 (some false))
 (some false))
 (some false))
 (some false))
 (some false)))))))))
theorem awP  : ag (W9 ) (qF ) := by
 unfold W9 qF
 with_reducible repeat' first | exact ag.refl _ | refine ag.ai ?_ ?_ | exact awR _ | exact awU _ _ | exact awV _ | exact awW _ | exact awX _ | exact awY _ | exact awZ _ | exact aw0 _ _ | exact aw1 _ _ _ | exact aw2 _ _ | exact aw3 _ _ | exact aw4 _ | exact aax _ | exact aw5 _ _ _ | exact aw6 _ | exact aw7 _ _ | exact aw8 _ _ | exact aw9 _ _ | exact axa _ _ | exact aay _ _ | exact axc | exact axd _ _ | exact hy _ _ | refine ag.bind ?_ λ _ => ?_
theorem aAO : qF = some true := awP _ (by decide +kernel)
end
end Go.Proofs.YtabamagholjdcaaGreatDoor
