/- The chapter's examples, by reckoning. Conditions: none. -/
import Derived.Test.YtabamagholjdcaaGreatDoorQAHuM
import Derived.Test.YtabamagholjdcaaGreatDoorQALgC
namespace Go.Proofs.YtabamagholjdcaaGreatDoor
open Go.Lg Go.Proofs
noncomputable section
set_option maxRecDepth 100000
set_option maxHeartbeats 4000000
def d104 (x0 : aq) (x1 : bu) (x2 : (List Bool)) : {c // ai c (oU x0 x1 x2)} := ⟨_, by
 unfold oU
 with_reducible repeat' first | intro _ | apply ai.loop | apply ai.ah | apply ai.bind | exact ai.refl _⟩
def d147 (x0 : cW) (x1 : Int) : {c // ai c (yx x0 x1)} := ⟨_, by
 unfold yx
 with_reducible repeat' first | intro _ | apply (d104 _ _ _).2 | apply ai.loop | apply ai.ah | apply ai.bind | exact ai.refl _⟩
abbrev Ya (x0 : cW) (x1 : Int) := (d147 x0 x1).1
theorem av2 (x0 : cW) (x1 : Int) : ai (Ya x0 x1) (yx x0 x1) := (d147 x0 x1).2
def Yx (x0 : cW) : Option fK :=
 (xZ .i64 1 (x0.book.az.length : Int)).bind λ many =>
 ((List.range many.toNat).mapM (λ (i : Nat) => Ya x0 (i : Int))).bind λ l =>
 if x0.nL = [] ∧ (l.map (·.1)).Nodup ∧ (∀ p ∈ l, p.1.length = 5) ∧ 0 ≤ many ∧ many ≤ 1048576 then some l else none
theorem K4 (x0 : cW) : ai (Yx x0) (v8 x0) := by
 unfold Yx v8
 with_reducible repeat' first | exact ai.refl _ | refine ai.mapM (λ _ => ?_) _ | exact av2 _ _ | refine ai.bind ?_ λ _ => ?_
def d121 (x0 : Reach) (x1 : Int) (x2 : Int) (x3 : Int) : {c // ai c (u6 x0 x1 x2 x3)} := ⟨_, by
 unfold u6
 with_reducible repeat' first | intro _ | apply ai.ah | apply ai.bind | exact ai.refl _⟩
def d154 (x0 : Int) (x1 : Int) (x2 : Int) : {c // ai c (kH x0 x1 x2)} := ⟨_, by
 unfold kH
 with_reducible repeat' first | intro _ | apply ai.ah | apply ai.bind | exact ai.refl _⟩
def d211 (x0 : aq) : {c // ai c (AP x0)} := ⟨_, by
 unfold AP
 with_reducible repeat' first | intro _ | apply (d121 _ _ _ _).2 | apply (d154 _ _ _).2 | apply ai.ah | apply ai.bind | exact ai.refl _⟩
def d132 (x0 : (List Int)) (x1 : Int) : {c // ai c (u7 x0 x1)} := ⟨_, by
 unfold u7
 with_reducible repeat' first | intro _ | apply (d154 _ _ _).2 | apply ai.loop | apply ai.ah | apply ai.elim | apply ai.bind | exact ai.refl _⟩
def d215 (x0 : ByteArray) : {c // ai c (AT x0)} := ⟨_, by
 unfold AT
 with_reducible repeat' first | intro _ | apply (d154 _ _ _).2 | apply ai.loop | apply ai.ah | apply ai.elim | apply ai.bind | exact ai.refl _⟩
def O8 (x0 : (List cG)) (x1 : (cG → Option Bool)) : Option Int :=
 (rK (O := (Unit ⊕ Int)) (λ (dV : Int) =>
 ah (decide (dV < (x0.length : Int)))
 ((idx x0 dV).bind λ fA =>
 (x1 fA).bind λ dX =>
 ah dX
 (some (.inr (.inr dV)))
 (some (.inl (i64 (dV + 1)))))
 (some (.inr (.inl ())))) 0).bind (Sum.elim (λ (_ : Unit) =>
 some (-1))
  (λ q => some q))
theorem awc (x0 : (List cG)) {x1 fy : (cG → Option Bool)} (hx1 : ∀ y, ai (x1 y) (fy y)) : ai (O8 x0 x1) (C2 x0 fy) := by
 unfold O8 C2
 with_reducible repeat' first | exact ai.refl _ | refine ai.loop λ _ => ?_ | refine ai.ah ?_ ?_ | refine ai.elim (λ _ => ?_) (λ _ => ?_) _ | exact hx1 _ | exact hy _ _ | refine ai.bind ?_ λ _ => ?_
def Yi (x0 : (List cG)) (x1 : (cG → Option Bool)) : Option Bool :=
 (O8 x0 x1).bind λ cA =>
 some (decide (cA ≥ 0))
theorem awb (x0 : (List cG)) {x1 fy : (cG → Option Bool)} (hx1 : ∀ y, ai (x1 y) (fy y)) : ai (Yi x0 x1) (AU x0 fy) := by
 unfold Yi AU
 with_reducible repeat' first | exact ai.refl _ | refine awc _ (λ _ => ?_) | exact hx1 _ | exact hy _ _ | refine ai.bind ?_ λ _ => ?_
def d217 (x0 : cG) (x1 : cG) : {c // ai c (AV x0 x1)} := ⟨_, by
 unfold AV
 with_reducible repeat' first | intro _ | apply ai.bind | exact ai.refl _⟩
def d212 (x0 : aq) : {c // ai c (AQ x0)} := ⟨_, by
 unfold AQ
 with_reducible repeat' first | intro _ | apply (d121 _ _ _ _).2 | apply (d132 _ _).2 | apply (d154 _ _ _).2 | apply (d215 _).2 | apply awb | apply (d217 _ _).2 | apply ai.loop | apply ai.ah | apply ai.elim | apply ai.bind | exact ai.refl _⟩
def d93 (x0 : (List Bool)) (x1 : (List Int)) : {c // ai c (iD x0 x1)} := ⟨_, by
 unfold iD
 with_reducible repeat' first | intro _ | apply ai.loop | apply ai.ah | apply ai.bind | exact ai.refl _⟩
abbrev E2 (x0 : (List Bool)) (x1 : (List Int)) := (d93 x0 x1).1
theorem TT (x0 : (List Bool)) (x1 : (List Int)) : ai (E2 x0 x1) (iD x0 x1) := (d93 x0 x1).2
def d120 (x0 : aq) (x1 : Int) : {c // ai c (sX x0 x1)} := ⟨_, by
 unfold sX
 with_reducible repeat' first | intro _ | apply (d154 _ _ _).2 | apply ai.bind | exact ai.refl _⟩
def O6 (x0 : (List Int)) (x1 : (Int → Option Bool)) : Option Int :=
 (rK (O := (Unit ⊕ Int)) (λ (dV : Int) =>
 ah (decide (dV < (x0.length : Int)))
 ((idx x0 dV).bind λ fA =>
 (x1 fA).bind λ dX =>
 ah dX
 (some (.inr (.inr dV)))
 (some (.inl (i64 (dV + 1)))))
 (some (.inr (.inl ())))) 0).bind (Sum.elim (λ (_ : Unit) =>
 some (-1))
  (λ q => some q))
theorem av7 (x0 : (List Int)) {x1 fy : (Int → Option Bool)} (hx1 : ∀ y, ai (x1 y) (fy y)) : ai (O6 x0 x1) (CY x0 fy) := by
 unfold O6 CY
 with_reducible repeat' first | exact ai.refl _ | refine ai.loop λ _ => ?_ | refine ai.ah ?_ ?_ | refine ai.elim (λ _ => ?_) (λ _ => ?_) _ | exact hx1 _ | exact hy _ _ | refine ai.bind ?_ λ _ => ?_
def Ye (x0 : (List Int)) (x1 : (Int → Option Bool)) : Option Bool :=
 (O6 x0 x1).bind λ cA =>
 some (decide (cA ≥ 0))
theorem abh (x0 : (List Int)) {x1 fy : (Int → Option Bool)} (hx1 : ∀ y, ai (x1 y) (fy y)) : ai (Ye x0 x1) (xJ x0 fy) := by
 unfold Ye xJ
 with_reducible repeat' first | exact ai.refl _ | refine av7 _ (λ _ => ?_) | exact hx1 _ | exact hy _ _ | refine ai.bind ?_ λ _ => ?_
def d188 (x0 : (List Int)) (x1 : Int) : {c // ai c (C1 x0 x1)} := ⟨_, by
 unfold C1
 with_reducible repeat' first | intro _ | apply ai.loop | apply ai.ah | apply ai.elim | apply ai.bind | exact ai.refl _⟩
def d175 (x0 : (List Int)) (x1 : Int) : {c // ai c (AN x0 x1)} := ⟨_, by
 unfold AN
 with_reducible repeat' first | intro _ | apply (d188 _ _).2 | apply ai.bind | exact ai.refl _⟩
def d166 (x0 : aq) (x1 : Int) : {c // ai c (AK x0 x1)} := ⟨_, by
 unfold AK
 with_reducible repeat' first | intro _ | apply (d175 _ _).2 | apply ai.loop | apply ai.ah | apply ai.bind | exact ai.refl _⟩
def d167 (x0 : Int) (x1 : (List Bool)) : {c // ai c (AL x0 x1)} := ⟨_, by
 unfold AL
 with_reducible repeat' first | intro _ | apply ai.bind | exact ai.refl _⟩
def d149 (x0 : aq) (x1 : (List Bool)) (x2 : Int) : {c // ai c (u9 x0 x1 x2)} := ⟨_, by
 unfold u9
 with_reducible repeat' first | intro _ | apply abh | apply (d166 _ _).2 | apply (d167 _ _).2 | apply ai.ah | apply ai.bind | exact ai.refl _⟩
def d99 (x0 : aq) (x1 : (List Bool)) (x2 : (List Int)) : {c // ai c (vf x0 x1 x2)} := ⟨_, by
 unfold vf
 with_reducible repeat' first | intro _ | apply (d93 _ _).2 | apply (d120 _ _).2 | apply (d149 _ _ _).2 | apply ai.loop | apply ai.ah | apply ai.elim | apply ai.bind | exact ai.refl _⟩
def d213 (x0 : aq) : {c // ai c (AR x0)} := ⟨_, by
 unfold AR
 with_reducible repeat' first | intro _ | apply (d99 _ _ _).2 | apply ai.bind | exact ai.refl _⟩
def d214 (x0 : aq) : {c // ai c (AS x0)} := ⟨_, by
 unfold AS
 with_reducible repeat' first | intro _ | apply (d154 _ _ _).2 | apply ai.loop | apply ai.ah | apply ai.elim | apply ai.bind | exact ai.refl _⟩
def d83 (x0 : aq) : {c // ai c (lA x0)} := ⟨_, by
 unfold lA
 with_reducible repeat' first | intro _ | apply (d211 _).2 | apply (d212 _).2 | apply (d213 _).2 | apply (d214 _).2 | apply ai.ah | apply ai.bind | exact ai.refl _⟩
abbrev Yv (x0 : aq) := (d83 x0).1
theorem awu (x0 : aq) : ai (Yv x0) (lA x0) := (d83 x0).2
def d103 (x0 : aq) (x1 : Int) : {c // ai c (vQ x0 x1)} := ⟨_, by
 unfold vQ
 with_reducible repeat' first | intro _ | apply ai.bind | exact ai.refl _⟩
def O7 (x0 : (List bW)) (x1 : (bW → Option Bool)) : Option Int :=
 (rK (O := (Unit ⊕ Int)) (λ (dV : Int) =>
 ah (decide (dV < (x0.length : Int)))
 ((idx x0 dV).bind λ fA =>
 (x1 fA).bind λ dX =>
 ah dX
 (some (.inr (.inr dV)))
 (some (.inl (i64 (dV + 1)))))
 (some (.inr (.inl ())))) 0).bind (Sum.elim (λ (_ : Unit) =>
 some (-1))
  (λ q => some q))
theorem av8 (x0 : (List bW)) {x1 fy : (bW → Option Bool)} (hx1 : ∀ y, ai (x1 y) (fy y)) : ai (O7 x0 x1) (D3 x0 fy) := by
 unfold O7 D3
 with_reducible repeat' first | exact ai.refl _ | refine ai.loop λ _ => ?_ | refine ai.ah ?_ ?_ | refine ai.elim (λ _ => ?_) (λ _ => ?_) _ | exact hx1 _ | exact hy _ _ | refine ai.bind ?_ λ _ => ?_
def Yf (x0 : (List bW)) (x1 : (bW → Option Bool)) : Option Bool :=
 (O7 x0 x1).bind λ cA =>
 some (decide (cA ≥ 0))
theorem av5 (x0 : (List bW)) {x1 fy : (bW → Option Bool)} (hx1 : ∀ y, ai (x1 y) (fy y)) : ai (Yf x0 x1) (BC x0 fy) := by
 unfold Yf BC
 with_reducible repeat' first | exact ai.refl _ | refine av8 _ (λ _ => ?_) | exact hx1 _ | exact hy _ _ | refine ai.bind ?_ λ _ => ?_
def d164 (x0 : Int) : {c // ai c (BD x0)} := ⟨_, by
 unfold BD
 with_reducible repeat' first | intro _ | apply ai.ah | apply ai.bind | exact ai.refl _⟩
def d163 (x0 : bW) (x1 : Int) (x2 : Int) : {c // ai c (yz x0 x1 x2)} := ⟨_, by
 unfold yz
 with_reducible repeat' first | intro _ | apply (d164 _).2 | apply ai.ah | apply ai.bind | exact ai.refl _⟩
def d143 (x0 : aq) (x1 : bu) : {c // ai c (yw x0 x1)} := ⟨_, by
 unfold yw
 with_reducible repeat' first | intro _ | apply (d93 _ _).2 | apply (d103 _ _).2 | apply (d104 _ _ _).2 | apply av5 | apply (d163 _ _ _).2 | apply ai.loop | apply ai.ah | apply ai.elim | apply ai.bind | exact ai.refl _⟩
abbrev X9 (x0 : aq) (x1 : bu) := (d143 x0 x1).1
theorem av0 (x0 : aq) (x1 : bu) : ai (X9 x0 x1) (yw x0 x1) := (d143 x0 x1).2
def JH {S : Type} (ys : bu → S → Option (S × Bool)) : Nat → bu → Int → aq → S → Option (S × Bool)
 | 0, _, _, _, _ => none
 | k + 1, x0, x1, x2, s0 =>
  ah (x1 == (x2.az.length : Int))
  (((((X9 x2 x0).bind λ eH =>
  ah (!eH)
  (some (s0, true))
  ((ys x0 s0).bind λ fJ =>
  some (fJ.1, fJ.2))) : Option (S × Bool))).bind (λ (lC : (S × Bool)) =>
  some (lC.1, lC.2)))
  ((idx x2.az x1).bind λ lI =>
  (rK (O := (S ⊕ (S × Bool))) (λ (dG : (S × Int × (List Int))) =>
  ah (decide (dG.2.1 ≤ lI.Weight.ax))
  ((idx dG.2.2 x1).bind λ _ =>
  (JH ys k (⟨x0.fB, dG.2.2.set x1.toNat dG.2.1⟩ : bu) (i64 (x1 + 1)) x2 dG.1).bind λ ju =>
  ah (!ju.2)
  (some (.inr (.inr (ju.1, false))))
  (some (.inl (ju.1, i64 (dG.2.1 + 1), dG.2.2.set x1.toNat dG.2.1))))
  (some (.inr (.inl dG.1)))) (s0, lI.Weight.an, x0.weights)).bind (Sum.elim (λ (jm : S) =>
  some (jm, true))
   (λ q => some q)))
theorem abg {S : Type} {ys ys' : bu → S → Option (S × Bool)} (h : ∀ y s, ai (ys y s) (ys' y s)) : ∀ k x0 x1 x2 s0, ai (JH ys k x0 x1 x2 s0) (sY ys' k x0 x1 x2 s0)
 | 0, _, _, _, _ => ai.none
 | k + 1, x0, x1, x2, s0 => by
  have ih := abg h k
  rw [JH, sY]
  with_reducible repeat' first | exact ai.refl _ | refine ai.loop λ _ => ?_ | refine ai.ah ?_ ?_ | refine ai.elim (λ _ => ?_) (λ _ => ?_) _ | exact av0 _ _ | exact h _ _ | exact ih _ _ _ _ | refine ai.bind ?_ λ _ => ?_
def O3 {S : Type} (ys : bu → S → Option (S × Bool)) (x0 : aq) (s0 : S) : Option S :=
 (rK (O := (S ⊕ S)) (λ (kJ : (S × Int)) =>
  ah (decide (kJ.2 ≤ x0.aa.ax))
  ((JH ys 9 (⟨kJ.2, [0, 0, 0, 0, 0]⟩ : bu) 0 x0 kJ.1).bind λ gP =>
  ah (!gP.2)
  (some (.inr (.inr gP.1)))
  (some (.inl (gP.1, i64 (kJ.2 + 1)))))
  (some (.inr (.inl kJ.1)))) (s0, x0.aa.an)).bind (Sum.elim (λ (Dd : S) =>
  some Dd)
   (λ q => some q))
theorem TR {S : Type} {ys ys' : bu → S → Option (S × Bool)} (h : ∀ y s, ai (ys y s) (ys' y s)) (x0 : aq) (s0 : S) : ai (O3 ys x0 s0) (pK ys' x0 s0) := by
 unfold O3 pK
 with_reducible repeat' first | exact ai.refl _ | refine ai.loop λ _ => ?_ | refine ai.ah ?_ ?_ | refine ai.elim (λ _ => ?_) (λ _ => ?_) _ | refine abg (λ _ _ => ?_) _ _ _ _ _ | exact h _ _ | refine ai.bind ?_ λ _ => ?_
def O5 (x1 : (bu → ((List bu) ⊕ Empty) → Option (((List bu) ⊕ Empty) × Bool)) → ((List bu) ⊕ Empty) → Option ((List bu) ⊕ Empty)) : Option (List bu) :=
 (x1 (c9 (λ (yl : bu) (iF : (List bu)) => (((cy iF [yl]).bind λ Iq =>
 some (.inl Iq)) : Option ((List bu) ⊕ Empty)))) (.inl [])).bind (Sum.elim (λ (iF : (List bu)) =>
 some iF)
  (λ (o : Empty) => o.elim))
theorem av6 {x1 fy : (bu → ((List bu) ⊕ Empty) → Option (((List bu) ⊕ Empty) × Bool)) → ((List bu) ⊕ Empty) → Option ((List bu) ⊕ Empty)} (hx1 : ∀ ys ys', (∀ y s, ai (ys y s) (ys' y s)) → ∀ s, ai (x1 ys s) (fy ys' s)) : ai (O5 x1) (Eg fy) := by
 unfold O5 Eg
 with_reducible repeat' first | exact ai.refl _ | refine ai.elim (λ _ => ?_) (λ _ => ?_) _ | refine ai.c9 (λ _ _ => ?_) _ _ | refine hx1 _ _ (λ _ _ => ?_) _ | exact hx1 | exact hy _ _ | refine ai.bind ?_ λ _ => ?_
def O4 (x0 : (bu → ((List bu) ⊕ Empty) → Option (((List bu) ⊕ Empty) × Bool)) → ((List bu) ⊕ Empty) → Option ((List bu) ⊕ Empty)) : Option (List bu) :=
 (O5 x0).bind λ cA =>
 some cA
theorem av1 {x0 x0' : (bu → ((List bu) ⊕ Empty) → Option (((List bu) ⊕ Empty) × Bool)) → ((List bu) ⊕ Empty) → Option ((List bu) ⊕ Empty)} (GB : ∀ ys ys', (∀ y s, ai (ys y s) (ys' y s)) → ∀ s, ai (x0 ys s) (x0' ys' s)) : ai (O4 x0) (CR x0') := by
 unfold O4 CR
 with_reducible repeat' first | exact ai.refl _ | refine av6 (λ _ _ hy _ => ?_) | refine GB _ _ (λ _ _ => ?_) _ | exact GB | exact hy _ _ | refine ai.bind ?_ λ _ => ?_
def Yw (x0 : aq) (x1 : (aq → Option Int)) : Option (cW × Int) :=
 (Yv x0).bind λ cJ =>
 ah (cJ != 0)
 (some ((⟨⟨0, ⟨0, 0⟩, [], [], []⟩, [], kT⟩ : cW), cJ))
 ((x1 x0).bind λ fC =>
 ah (fC != 0)
 (some ((⟨⟨0, ⟨0, 0⟩, [], [], []⟩, [], kT⟩ : cW), fC))
 ((O4 (λ y s => O3 y x0 s)).bind λ nP =>
 ah ((nP.length : Int) == 0)
 (some ((⟨⟨0, ⟨0, 0⟩, [], [], []⟩, [], kT⟩ : cW), 9))
 (some ((⟨⟨x0.aE, ⟨x0.aa.an, x0.aa.ax⟩, x0.az, x0.Out, x0.aO⟩, nP, []⟩ : cW), 0))))
theorem uZ (x0 : aq) {x1 fy : (aq → Option Int)} (hx1 : ∀ y, ai (x1 y) (fy y)) : ai (Yw x0 x1) (nC x0 fy) := by
 unfold Yw nC
 with_reducible repeat' first | exact ai.refl _ | refine ai.ah ?_ ?_ | exact awu _ | refine TR (λ _ _ => ?_) _ _ | refine av1 (λ _ _ hy _ => ?_) | exact hx1 _ | exact hy _ _ | refine ai.bind ?_ λ _ => ?_
def d90 (x0 : aq) : {c // ai c (mY x0)} := ⟨_, by
 unfold mY
 with_reducible repeat' first | intro _ | apply ai.bind | exact ai.refl _⟩
def d92 (x0 : aq) (x1 : (List Bool)) : {c // ai c (v9 x0 x1)} := ⟨_, by
 unfold v9
 with_reducible repeat' first | intro _ | apply (d149 _ _ _).2 | apply ai.loop | apply ai.ah | apply ai.bind | exact ai.refl _⟩
abbrev Yy (x0 : aq) (x1 : (List Bool)) := (d92 x0 x1).1
theorem awx (x0 : aq) (x1 : (List Bool)) : ai (Yy x0 x1) (v9 x0 x1) := (d92 x0 x1).2
def Yb {S : Type} (ys : (List Bool) → S → Option (S × Bool)) (x1 : aq) (x2 : (List Int)) (s0 : S) : Option S :=
 (E2 [false, false, false, false, false] x1.Out).bind λ MX =>
  (rK (O := (S ⊕ S)) (λ (jn : (S × Int × (List Bool))) =>
  ah (decide (jn.2.1 < (x2.length : Int)))
  ((idx x2 jn.2.1).bind λ fC =>
  (E2 jn.2.2 [fC]).bind λ fc =>
  (ys fc jn.1).bind λ eO =>
  ah (!eO.2)
  (some (.inr (.inr eO.1)))
  (some (.inl (eO.1, i64 (jn.2.1 + 1), fc))))
  (some (.inr (.inl jn.1)))) (s0, 0, MX)).bind (Sum.elim (λ (Db : S) =>
  some Db)
   (λ q => some q))
theorem TS {S : Type} {ys ys' : (List Bool) → S → Option (S × Bool)} (h : ∀ y s, ai (ys y s) (ys' y s)) (x1 : aq) (x2 : (List Int)) (s0 : S) : ai (Yb ys x1 x2 s0) (qO ys' x1 x2 s0) := by
 unfold Yb qO
 with_reducible repeat' first | exact ai.refl _ | refine ai.loop λ _ => ?_ | refine ai.ah ?_ ?_ | refine ai.elim (λ _ => ?_) (λ _ => ?_) _ | exact TT _ _ | exact h _ _ | refine ai.bind ?_ λ _ => ?_
def d102 (x0 : aq) (x1 : (List Int)) : {c // ai c (xF x0 x1)} := ⟨_, by
 unfold xF
 with_reducible repeat' first | intro _ | apply ai.bind | exact ai.refl _⟩
def d94 (x0 : cW) (x1 : (List Int)) : {c // ai c (xO x0 x1)} := ⟨_, by
 unfold xO
 with_reducible repeat' first | intro _ | apply (d102 _ _).2 | apply TS | apply ai.elim | apply ai.c9 | apply ai.bind | exact ai.refl _⟩
def d20 (x0 : aq) : {c // ai c (yA x0)} := ⟨_, by
 unfold yA
 with_reducible repeat' first | intro _ | apply uZ | apply (d90 _).2 | apply K4 | apply (d92 _ _).2 | apply (d93 _ _).2 | apply (d94 _ _).2 | apply ai.loop | apply ai.ah | apply ai.bind | exact ai.refl _⟩
abbrev Yh (x0 : aq) := (d20 x0).1
theorem awa (x0 : aq) : ai (Yh x0) (yA x0) := (d20 x0).2
def d98 (x0 : aq) (x1 : (List Int)) : {c // ai c (BG x0 x1)} := ⟨_, by
 unfold BG
 with_reducible repeat' first | intro _ | apply (d93 _ _).2 | apply (d99 _ _ _).2 | apply ai.ah | apply ai.bind | exact ai.refl _⟩
def X5 (x0 : cW) (x1 : (bu → Option Bool)) : Option Int :=
 (rK (O := Int) (λ (cu : (Int × Int)) =>
 ah (decide (cu.2 < (x0.dR.length : Int)))
 ((idx x0.dR cu.2).bind λ rG =>
 (x1 rG).bind λ iX =>
 ah iX
 (some (.inl (i64 (cu.1 + 1), i64 (cu.2 + 1))))
 (some (.inl (cu.1, i64 (cu.2 + 1)))))
 (some (.inr cu.1))) (0, 0)).bind (λ (eU : Int) =>
 ah (eU == 0)
 (some 2)
 (ah (eU == (x0.dR.length : Int))
 (some 1)
 (some 0)))
theorem abd (x0 : cW) {x1 fy : (bu → Option Bool)} (hx1 : ∀ y, ai (x1 y) (fy y)) : ai (X5 x0 x1) (By x0 fy) := by
 unfold X5 By
 with_reducible repeat' first | exact ai.refl _ | refine ai.loop λ _ => ?_ | refine ai.ah ?_ ?_ | exact hx1 _ | exact hy _ _ | refine ai.bind ?_ λ _ => ?_
def d101 (x0 : bu) (x1 : cW) (x2 : (List Int)) : {c // ai c (Bz x0 x1 x2)} := ⟨_, by
 unfold Bz
 with_reducible repeat' first | intro _ | apply (d102 _ _).2 | apply (d103 _ _).2 | apply (d104 _ _ _).2 | apply TS | apply ai.ah | apply ai.elim | apply ai.c9 | apply ai.bind | exact ai.refl _⟩
def d23 (x0 : aq) (x1 : (List Int)) : {c // ai c (tQ x0 x1)} := ⟨_, by
 unfold tQ
 with_reducible repeat' first | intro _ | apply uZ | apply (d98 _ _).2 | apply abd | apply (d101 _ _ _).2 | apply ai.ah | apply ai.bind | exact ai.refl _⟩
abbrev JI (x0 : aq) (x1 : (List Int)) := (d23 x0 x1).1
theorem awd (x0 : aq) (x1 : (List Int)) : ai (JI x0 x1) (tQ x0 x1) := (d23 x0 x1).2
def d125 (x0 : (List Int)) : {c // ai c (rH x0)} := ⟨_, by
 unfold rH
 with_reducible repeat' first | intro _ | apply ai.bind | exact ai.refl _⟩
abbrev X7 (x0 : (List Int)) := (d125 x0).1
theorem avZ (x0 : (List Int)) : ai (X7 x0) (rH x0) := (d125 x0).2
def JG {S : Type} (ys : (List Int) → S → Option (S × Bool)) : Nat → (List Int) → (List Bool) → aq → S → Option (S × Bool)
 | 0, _, _, _, _ => none
 | k + 1, x0, x1, x2, s0 =>
  (Yy x2 x1).bind λ cA =>
  ah ((cA.length : Int) == 0)
  ((ys x0 s0).bind λ fR =>
  some (fR.1, fR.2))
  ((rK (O := (S ⊕ (S × Bool))) (λ (lF : (S × Int)) =>
  ah (decide (lF.2 < (cA.length : Int)))
  ((idx cA lF.2).bind λ en =>
  (X7 x0).bind λ iI =>
  (cy iI [en]).bind λ eY =>
  (E2 x1 [en]).bind λ di =>
  (JG ys k eY di x2 lF.1).bind λ oR =>
  ah (!oR.2)
  (some (.inr (.inr (oR.1, false))))
  (some (.inl (oR.1, i64 (lF.2 + 1)))))
  (some (.inr (.inl lF.1)))) (s0, 0)).bind (Sum.elim (λ (lC : S) =>
  some (lC, true))
   (λ q => some q)))
theorem abf {S : Type} {ys ys' : (List Int) → S → Option (S × Bool)} (h : ∀ y s, ai (ys y s) (ys' y s)) : ∀ k x0 x1 x2 s0, ai (JG ys k x0 x1 x2 s0) (yy ys' k x0 x1 x2 s0)
 | 0, _, _, _, _ => ai.none
 | k + 1, x0, x1, x2, s0 => by
  have ih := abf h k
  rw [JG, yy]
  with_reducible repeat' first | exact ai.refl _ | refine ai.loop λ _ => ?_ | refine ai.ah ?_ ?_ | refine ai.elim (λ _ => ?_) (λ _ => ?_) _ | exact awx _ _ | exact TT _ _ | exact avZ _ | exact h _ _ | exact ih _ _ _ _ | refine ai.bind ?_ λ _ => ?_
def X6 {S : Type} (ys : (List Int) → S → Option (S × Bool)) (x0 : aq) (s0 : S) : Option S :=
 (E2 [false, false, false, false, false] x0.Out).bind λ fR =>
  (JG ys 9 [] fR x0 s0).bind λ jO =>
  some jO.1
theorem TQ {S : Type} {ys ys' : (List Int) → S → Option (S × Bool)} (h : ∀ y s, ai (ys y s) (ys' y s)) (x0 : aq) (s0 : S) : ai (X6 ys x0 s0) (rL ys' x0 s0) := by
 unfold X6 rL
 with_reducible repeat' first | exact ai.refl _ | exact TT _ _ | refine abf (λ _ _ => ?_) _ _ _ _ _ | exact h _ _ | refine ai.bind ?_ λ _ => ?_
def d25 (x0 : aq) : {c // ai c (tR x0)} := ⟨_, by
 unfold tR
 with_reducible repeat' first | intro _ | apply uZ | apply (d90 _).2 | apply K4 | apply (d102 _ _).2 | apply TQ | apply TS | apply ai.ah | apply ai.elim | apply ai.c9 | apply ai.bind | exact ai.refl _⟩
abbrev JJ (x0 : aq) := (d25 x0).1
theorem awe (x0 : aq) : ai (JJ x0) (tR x0) := (d25 x0).2
def d27 (x0 : aq) : {c // ai c (yB x0)} := ⟨_, by
 unfold yB
 with_reducible repeat' first | intro _ | apply uZ | apply (d90 _).2 | apply K4 | apply (d94 _ _).2 | apply TQ | apply ai.ah | apply ai.elim | apply ai.c9 | apply ai.bind | exact ai.refl _⟩
abbrev Yj (x0 : aq) := (d27 x0).1
theorem awf (x0 : aq) : ai (Yj x0) (yB x0) := (d27 x0).2
def d110 (x0 : an) (x1 : (List Int)) (x2 : Int) : {c // ai c (D2 x0 x1 x2)} := ⟨_, by
 unfold D2
 with_reducible repeat' first | intro _ | apply ai.ah | apply ai.bind | exact ai.refl _⟩
def d29 (x0 : aq) : {c // ai c (yC x0)} := ⟨_, by
 unfold yC
 with_reducible repeat' first | intro _ | apply uZ | apply (d90 _).2 | apply K4 | apply (d94 _ _).2 | apply TQ | apply (d110 _ _ _).2 | apply ai.ah | apply ai.elim | apply ai.c9 | apply ai.bind | exact ai.refl _⟩
abbrev Yk (x0 : aq) := (d29 x0).1
theorem awg (x0 : aq) : ai (Yk x0) (yC x0) := (d29 x0).2
def d112 (x0 : aq) : {c // ai c (xH x0)} := ⟨_, by
 unfold xH
 with_reducible repeat' first | intro _ | apply TR | apply ai.elim | apply ai.c9 | apply ai.bind | exact ai.refl _⟩
def d176 (x0 : Int) : {c // ai c (xK x0)} := ⟨_, by
 unfold xK
 with_reducible repeat' first | intro _ | apply ai.bind | exact ai.refl _⟩
def d168 (x0 : Int) (x1 : Int) : {c // ai c (Hh x0 x1)} := ⟨_, by
 unfold Hh
 with_reducible repeat' first | intro _ | apply (d176 _).2 | apply ai.ah | apply ai.bind | exact ai.refl _⟩
def d153 (x0 : (List Int)) (x1 : (List Int)) : {c // ai c (He x0 x1)} := ⟨_, by
 unfold He
 with_reducible repeat' first | intro _ | apply (d168 _ _).2 | apply ai.loop | apply ai.ah | apply ai.elim | apply ai.bind | exact ai.refl _⟩
def d113 (x0 : (List Int)) (x1 : (List Int)) : {c // ai c (BA x0 x1)} := ⟨_, by
 unfold BA
 with_reducible repeat' first | intro _ | apply (d153 _ _).2 | apply ai.ah | apply ai.bind | exact ai.refl _⟩
abbrev aei (x0 : (List Int)) (x1 : (List Int)) := (d113 x0 x1).1
theorem aCE (x0 : (List Int)) (x1 : (List Int)) : ai (aei x0 x1) (BA x0 x1) := (d113 x0 x1).2
def d31 (x0 : aq) : {c // ai c (tS x0)} := ⟨_, by
 unfold tS
 with_reducible repeat' first | intro _ | apply (d83 _).2 | apply (d112 _).2 | apply (d113 _ _).2 | apply ai.loop | apply ai.ah | apply ai.bind | exact ai.refl _⟩
abbrev Yl (x0 : aq) := (d31 x0).1
theorem awh (x0 : aq) : ai (Yl x0) (tS x0) := (d31 x0).2
def d33 (x0 : aq) : {c // ai c (yD x0)} := ⟨_, by
 unfold yD
 with_reducible repeat' first | intro _ | apply uZ | apply (d90 _).2 | apply ai.loop | apply ai.ah | apply ai.bind | exact ai.refl _⟩
abbrev Ym (x0 : aq) := (d33 x0).1
theorem awi (x0 : aq) : ai (Ym x0) (yD x0) := (d33 x0).2
def d117 (x0 : (List bW)) : {c // ai c (yq x0)} := ⟨_, by
 unfold yq
 with_reducible repeat' first | intro _ | apply ai.bind | exact ai.refl _⟩
def d122 (x0 : (List cG)) : {c // ai c (yu x0)} := ⟨_, by
 unfold yu
 with_reducible repeat' first | intro _ | apply ai.bind | exact ai.refl _⟩
def d118 (x0 : aq) : {c // ai c (yt x0)} := ⟨_, by
 unfold yt
 with_reducible repeat' first | intro _ | apply (d83 _).2 | apply (d112 _).2 | apply (d117 _).2 | apply (d122 _).2 | apply (d125 _).2 | apply ai.loop | apply ai.ah | apply ai.bind | exact ai.refl _⟩
def d35 (x0 : aq) (x1 : bW) : {c // ai c (yE x0 x1)} := ⟨_, by
 unfold yE
 with_reducible repeat' first | intro _ | apply (d83 _).2 | apply (d117 _).2 | apply (d118 _).2 | apply ai.ah | apply ai.bind | exact ai.refl _⟩
abbrev Yn (x0 : aq) (x1 : bW) := (d35 x0 x1).1
theorem awj (x0 : aq) (x1 : bW) : ai (Yn x0 x1) (yE x0 x1) := (d35 x0 x1).2
def d38 (x0 : aq) (x1 : Int) (x2 : Reach) : {c // ai c (yF x0 x1 x2)} := ⟨_, by
 unfold yF
 with_reducible repeat' first | intro _ | apply (d83 _).2 | apply (d118 _).2 | apply (d120 _ _).2 | apply (d121 _ _ _ _).2 | apply (d122 _).2 | apply ai.ah | apply ai.bind | exact ai.refl _⟩
abbrev Yo (x0 : aq) (x1 : Int) (x2 : Reach) := (d38 x0 x1 x2).1
theorem awk (x0 : aq) (x1 : Int) (x2 : Reach) : ai (Yo x0 x1 x2) (yF x0 x1 x2) := (d38 x0 x1 x2).2
def d40 (x0 : aq) (x1 : Int) : {c // ai c (vZ x0 x1)} := ⟨_, by
 unfold vZ
 with_reducible repeat' first | intro _ | apply (d83 _).2 | apply (d93 _ _).2 | apply (d99 _ _ _).2 | apply (d118 _).2 | apply (d125 _).2 | apply ai.ah | apply ai.bind | exact ai.refl _⟩
abbrev O9 (x0 : aq) (x1 : Int) := (d40 x0 x1).1
theorem awl (x0 : aq) (x1 : Int) : ai (O9 x0 x1) (vZ x0 x1) := (d40 x0 x1).2
def d127 (x0 : aq) (x1 : Int) : {c // ai c (CH x0 x1)} := ⟨_, by
 unfold CH
 with_reducible repeat' first | intro _ | apply (d120 _ _).2 | apply ai.ah | apply ai.bind | exact ai.refl _⟩
def d183 (x0 : Int) (x1 : Int) : {c // ai c (Ho x0 x1)} := ⟨_, by
 unfold Ho
 with_reducible repeat' first | intro _ | apply (d176 _).2 | apply ai.ah | apply ai.bind | exact ai.refl _⟩
def d177 (x0 : (List Int)) (x1 : Int) (x2 : Int) : {c // ai c (Hl x0 x1 x2)} := ⟨_, by
 unfold Hl
 with_reducible repeat' first | intro _ | apply (d183 _ _).2 | apply ai.loop | apply ai.ah | apply ai.bind | exact ai.refl _⟩
def d187 (x0 : Int) : {c // ai c (Hp x0)} := ⟨_, by
 unfold Hp
 with_reducible repeat' first | intro _ | apply ai.ah | apply ai.bind | exact ai.refl _⟩
def d170 (x0 : Int) : {c // ai c (Hj x0)} := ⟨_, by
 unfold Hj
 with_reducible repeat' first | intro _ | apply (d187 _).2 | apply ai.bind | exact ai.refl _⟩
def d169 (x0 : (List Int)) (x1 : Int) (x2 : Int) (x3 : Int) : {c // ai c (Hi x0 x1 x2 x3)} := ⟨_, by
 unfold Hi
 with_reducible repeat' first | intro _ | apply (d177 _ _ _).2 | apply ai.loop | apply ai.ah | apply ai.bind | exact ai.refl _⟩
def d155 (x0 : (List Int)) : {c // ai c (CU x0)} := ⟨_, by
 unfold CU
 with_reducible repeat' first | intro _ | apply (d169 _ _ _ _).2 | apply (d170 _).2 | apply ai.bind | exact ai.refl _⟩
abbrev Yc (x0 : (List Int)) := (d155 x0).1
theorem av3 (x0 : (List Int)) : ai (Yc x0) (CU x0) := (d155 x0).2
def d156 (x0 : (List Int)) : {c // ai c (CV x0)} := ⟨_, by
 unfold CV
 with_reducible repeat' first | intro _ | apply ai.loop | apply ai.ah | apply ai.bind | exact ai.refl _⟩
abbrev Yd (x0 : (List Int)) := (d156 x0).1
theorem av4 (x0 : (List Int)) : ai (Yd x0) (CV x0) := (d156 x0).2
def X8 (x0 : cW) (x1 : (bu → Option Int)) : Option (List Int) :=
 (rK (O := (List Int)) (λ (mO : ((List Int) × Int)) =>
 ah (decide (mO.2 < (x0.dR.length : Int)))
 ((idx x0.dR mO.2).bind λ iJ =>
 (x1 iJ).bind λ gC =>
 (cy mO.1 [gC]).bind λ jw =>
 some (.inl (jw, i64 (mO.2 + 1))))
 (some (.inr mO.1))) ([], 0)).bind (λ (A5 : (List Int)) =>
 (Yc A5).bind λ iY =>
 (Yd iY).bind λ nR =>
 some nR)
theorem abe (x0 : cW) {x1 fy : (bu → Option Int)} (hx1 : ∀ y, ai (x1 y) (fy y)) : ai (X8 x0 x1) (CJ x0 fy) := by
 unfold X8 CJ
 with_reducible repeat' first | exact ai.refl _ | refine ai.loop λ _ => ?_ | refine ai.ah ?_ ?_ | exact av3 _ | exact av4 _ | exact hx1 _ | exact hy _ _ | refine ai.bind ?_ λ _ => ?_
def d129 (x0 : bu) (x1 : Int) : {c // ai c (CL x0 x1)} := ⟨_, by
 unfold CL
 with_reducible repeat' first | intro _ | apply ai.bind | exact ai.refl _⟩
def d43 (x0 : aq) (x1 : Int) : {c // ai c (C3 x0 x1)} := ⟨_, by
 unfold C3
 with_reducible repeat' first | intro _ | apply uZ | apply (d127 _ _).2 | apply abe | apply (d129 _ _).2 | apply ai.ah | apply ai.bind | exact ai.refl _⟩
abbrev Yp (x0 : aq) (x1 : Int) := (d43 x0 x1).1
theorem awm (x0 : aq) (x1 : Int) : ai (Yp x0 x1) (C3 x0 x1) := (d43 x0 x1).2
def d44 (x0 : aq) : {c // ai c (oH x0)} := ⟨_, by
 unfold oH
 with_reducible repeat' first | intro _ | apply (d83 _).2 | apply TR | apply ai.ah | apply ai.elim | apply ai.c9 | apply ai.bind | exact ai.refl _⟩
abbrev Pa (x0 : aq) := (d44 x0).1
theorem awn (x0 : aq) : ai (Pa x0) (oH x0) := (d44 x0).2
def d72 (x0 : Int) (x1 : Int) : {c // ai c (xN x0 x1)} := ⟨_, by
 unfold xN
 with_reducible repeat' first | intro _ | apply ai.bind | exact ai.refl _⟩
abbrev Pc (x0 : Int) (x1 : Int) := (d72 x0 x1).1
theorem abj (x0 : Int) (x1 : Int) : ai (Pc x0 x1) (xN x0 x1) := (d72 x0 x1).2
def d45 (x0 : Int) : {c // ai c (xL x0)} := ⟨_, by
 unfold xL
 with_reducible repeat' first | intro _ | apply (d72 _ _).2 | apply ai.bind | exact ai.refl _⟩
abbrev JK (x0 : Int) := (d45 x0).1
theorem abi (x0 : Int) : ai (JK x0) (xL x0) := (d45 x0).2
def d159 (x0 : Int) : {c // ai c (BB x0)} := ⟨_, by
 unfold BB
 with_reducible repeat' first | intro _ | apply (d154 _ _ _).2 | apply ai.bind | exact ai.refl _⟩
def d131 (x0 : aq) (x1 : cB) : {c // ai c (Ef x0 x1)} := ⟨_, by
 unfold Ef
 with_reducible repeat' first | intro _ | apply (d154 _ _ _).2 | apply abh | apply (d159 _).2 | apply ai.ah | apply ai.bind | exact ai.refl _⟩
def d50 (x0 : aq) (x1 : cB) (x2 : (List Int)) : {c // ai c (rI x0 x1 x2)} := ⟨_, by
 unfold rI
 with_reducible repeat' first | intro _ | apply (d83 _).2 | apply (d93 _ _).2 | apply (d104 _ _ _).2 | apply (d131 _ _).2 | apply (d132 _ _).2 | apply ai.ah | apply ai.bind | exact ai.refl _⟩
abbrev Yq (x0 : aq) (x1 : cB) (x2 : (List Int)) := (d50 x0 x1 x2).1
theorem awo (x0 : aq) (x1 : cB) (x2 : (List Int)) : ai (Yq x0 x1 x2) (rI x0 x1 x2) := (d50 x0 x1 x2).2
def d53 (x0 : aq) : {c // ai c (C4 x0)} := ⟨_, by
 unfold C4
 with_reducible repeat' first | intro _ | apply (d83 _).2 | apply (d92 _ _).2 | apply (d93 _ _).2 | apply ai.ah | apply ai.bind | exact ai.refl _⟩
abbrev Yr (x0 : aq) := (d53 x0).1
theorem awp (x0 : aq) : ai (Yr x0) (C4 x0) := (d53 x0).2
def d160 (x0 : aq) (x1 : (List Int)) : {c // ai c (pL x0 x1)} := ⟨_, by
 unfold pL
 with_reducible repeat' first | intro _ | apply (d132 _ _).2 | apply ai.bind | exact ai.refl _⟩
def d133 (x0 : (List Int)) : {c // ai c (CN x0)} := ⟨_, by
 unfold CN
 with_reducible repeat' first | intro _ | apply ai.bind | exact ai.refl _⟩
def d134 (x0 : bu) (x1 : cW) (x2 : (List Int)) : {c // ai c (CO x0 x1 x2)} := ⟨_, by
 unfold CO
 with_reducible repeat' first | intro _ | apply (d93 _ _).2 | apply (d103 _ _).2 | apply (d104 _ _ _).2 | apply ai.bind | exact ai.refl _⟩
def d56 (x0 : aq) (x1 : (List Int)) : {c // ai c (AX x0 x1)} := ⟨_, by
 unfold AX
 with_reducible repeat' first | intro _ | apply uZ | apply abd | apply (d133 _).2 | apply (d134 _ _ _).2 | apply (d160 _ _).2 | apply ai.ah | apply ai.bind | exact ai.refl _⟩
abbrev Pb (x0 : aq) (x1 : (List Int)) := (d56 x0 x1).1
theorem awq (x0 : aq) (x1 : (List Int)) : ai (Pb x0 x1) (AX x0 x1) := (d56 x0 x1).2
def d60 (x0 : aq) (x1 : bW) : {c // ai c (tT x0 x1)} := ⟨_, by
 unfold tT
 with_reducible repeat' first | intro _ | apply ai.bind | exact ai.refl _⟩
abbrev JL (x0 : aq) (x1 : bW) := (d60 x0 x1).1
theorem awr (x0 : aq) (x1 : bW) : ai (JL x0 x1) (tT x0 x1) := (d60 x0 x1).2
def d64 (x0 : aq) (x1 : Int) : {c // ai c (m64 x0 x1)} := ⟨_, by
 unfold m64
 with_reducible repeat' first | intro _ | apply ai.bind | exact ai.refl _⟩
abbrev Ys (x0 : aq) (x1 : Int) := (d64 x0 x1).1
theorem aws (x0 : aq) (x1 : Int) : ai (Ys x0 x1) (m64 x0 x1) := (d64 x0 x1).2
def d137 (x0 : bu) (x1 : cW) (x2 : (List Int)) : {c // ai c (CP x0 x1 x2)} := ⟨_, by
 unfold CP
 with_reducible repeat' first | intro _ | apply (d93 _ _).2 | apply (d104 _ _ _).2 | apply ai.bind | exact ai.refl _⟩
def d71 (x0 : aq) (x1 : (List Int)) : {c // ai c (C5 x0 x1)} := ⟨_, by
 unfold C5
 with_reducible repeat' first | intro _ | apply uZ | apply abe | apply (d133 _).2 | apply (d137 _ _ _).2 | apply (d160 _ _).2 | apply ai.ah | apply ai.bind | exact ai.refl _⟩
abbrev Yu (x0 : aq) (x1 : (List Int)) := (d71 x0 x1).1
theorem awt (x0 : aq) (x1 : (List Int)) : ai (Yu x0 x1) (C5 x0 x1) := (d71 x0 x1).2
def Pd  : Option aq :=
 (Pc 20 21).bind λ ei =>
 (JK 30).bind λ iW =>
 (JK 10).bind λ eH =>
 some (⟨62, ⟨0, 0⟩, [(⟨⟨#[103, 117, 110]⟩, (-3), ⟨ei.an, ei.ax⟩, []⟩ : cG), (⟨⟨#[99, 104, 101, 115, 116]⟩, 2, ⟨iW.an, iW.ax⟩, []⟩ : cG), (⟨⟨#[97, 110, 99, 104, 111, 114]⟩, 1, ⟨eH.an, eH.ax⟩, [0]⟩ : cG)], [], []⟩ : aq)
theorem awv  : ai (Pd ) (Ht ) := by
 unfold Pd Ht
 with_reducible repeat' first | exact ai.refl _ | exact abi _ | exact abj _ _ | exact hy _ _ | refine ai.bind ?_ λ _ => ?_
def d55 (x0 : (List Int)) (x1 : (List Int)) : {c // ai c (xM x0 x1)} := ⟨_, by
 unfold xM
 with_reducible repeat' first | intro _ | apply ai.loop | apply ai.ah | apply ai.elim | apply ai.bind | exact ai.refl _⟩
def d22 (x0 : (List Int)) (x1 : (List Int)) : {c // ai c (pM x0 x1)} := ⟨_, by
 unfold pM
 with_reducible repeat' first | intro _ | apply (d55 _ _).2 | apply ai.ah | apply ai.bind | exact ai.refl _⟩
def d88 (x0 : (List Int)) (x1 : (List Int)) : {c // ai c (qR x0 x1)} := ⟨_, by
 unfold qR
 with_reducible repeat' first | intro _ | apply (d22 _ _).2 | apply ai.bind | exact ai.refl _⟩
abbrev zl (x0 : (List Int)) (x1 : (List Int)) := (d88 x0 x1).1
theorem aww (x0 : (List Int)) (x1 : (List Int)) : ai (zl x0 x1) (qR x0 x1) := (d88 x0 x1).2
def Yg  : Option Bool :=
 (Pd).bind λ bS =>
 (Ys bS 2).bind λ Il =>
 (JL Il (⟨1, 0⟩ : bW)).bind λ nN =>
 (Yq bS (⟨0, [21, 30, 10]⟩ : cB) [1]).bind λ Bd =>
 (Pa bS).bind λ tC =>
 (Yp bS 0).bind λ tD =>
 (Yu bS [2]).bind λ yg =>
 (Pb bS [0]).bind λ tW =>
 (Pb bS [1, 2]).bind λ Be =>
 (Yr bS).bind λ Bf =>
 (Yh bS).bind λ Bg =>
 (Pa nN).bind λ Bh =>
 (((ah (Bd.2 != 0)
 (some true)
 (ah (tC.2 != 0)
 (some true)
 (ah (tD.2 != 0)
 (some true)
 (ah (yg.2 != 0)
 (some true)
 (ah (tW.2 != 0)
 (some true)
 (ah (Be.2 != 0)
 (some true)
 (ah (Bf.2 != 0)
 (some true)
 (ah (Bg.2 != 0)
 (some true)
 (some (Bh.2 != 0)))))))))) : Option Bool)).bind (λ (C9 : Bool) =>
 ah C9
 (some false)
 ((((ah (Bd.1 != (-53))
 (some true)
 (ah (tC.1 != 2)
 (some true)
 ((zl tD.1 [20, 21]).bind λ ga =>
 ah (!ga)
 (some true)
 ((Pc (-3) 0).bind λ Ip =>
 ah (!(Ea yg.1 Ip == true))
 (some true)
 (ah (tW.1 != 1)
 (some true)
 (ah (Be.1 != 0)
 (some true)
 ((zl Bf.1 [1, 2]).bind λ M1 =>
 ah (!M1)
 (some true)
 ((zl Bg.1 [1, 2]).bind λ Bi =>
 ah (!Bi)
 (some true)
 (some (Bh.1 != 1)))))))))) : Option Bool)).bind (λ (Da : Bool) =>
 ah Da
 (some false)
 ((JI bS [2, 0, 1]).bind λ Bl =>
 (JI bS [2, 1, 0]).bind λ tF =>
 (JI bS [0, 1, 2]).bind λ M4 =>
 (JJ bS).bind λ rE =>
 (Yj bS).bind λ tG =>
 (Yk bS).bind λ tH =>
 (JJ nN).bind λ Bm =>
 (((ah (Bl.2 != 0)
 (some true)
 (ah (tF.2 != 0)
 (some true)
 (ah (M4.2 != 7)
 (some true)
 (ah (rE.2 != 0)
 (some true)
 (ah (tG.2.2 != 0)
 (some true)
 (ah (tH.2.2 != 0)
 (some true)
 (some (Bm.2 != 0)))))))) : Option Bool)).bind (λ (Dc : Bool) =>
 ah Dc
 (some false)
 ((((ah (Bl.1 != 1)
 (some true)
 (ah (tF.1 != 0)
 (some true)
 (ah (rE.1 != 1)
 (some true)
 (ah (!tG.2.1)
 (some true)
 ((zl tG.1 [2, 0, 1]).bind λ M5 =>
 ah (!M5)
 (some true)
 ((zl tH.1 [2, 0, 1]).bind λ M6 =>
 ah (!M6)
 (some true)
 (ah (tH.2.1 != 60)
 (some true)
 (some (Bm.1 != 2))))))))) : Option Bool)).bind (λ (De : Bool) =>
 ah De
 (some false)
 ((Ym bS).bind λ yh =>
 (O9 bS 0).bind λ M7 =>
 (O9 bS 2).bind λ tI =>
 (Yn tI.1 (⟨1, 2⟩ : bW)).bind λ M8 =>
 (JL bS (⟨0, 1⟩ : bW)).bind λ DO =>
 (JL DO (⟨0, 2⟩ : bW)).bind λ rF =>
 (Yl rF).bind λ Bn =>
 (JK 21).bind λ DQ =>
 (Yo bS 0 DQ).bind λ Bo =>
 (JJ Bo.1).bind λ DR =>
 ah (yh.2.2 == 0)
 (ah (M7.2 == 7)
 (ah (tI.2 == 0)
 (ah (M8.2 == 9)
 (ah (Bn.2 == 0)
 (ah (Bo.2 == 0)
 (ah (DR.2 == 0)
 (ah (yh.1 == 0)
 (ah (yh.2.1 == 1)
 ((zl Bn.1 [0]).bind λ M9 =>
 ah M9
 (some (DR.1 == 1))
 (some false))
 (some false))
 (some false))
 (some false))
 (some false))
 (some false))
 (some false))
 (some false))
 (some false))
 (some false)))))))))
theorem av9  : ai (Yg ) (nA ) := by
 unfold Yg nA
 with_reducible repeat' first | exact ai.refl _ | refine ai.ah ?_ ?_ | exact awa _ | exact awd _ _ | exact awe _ | exact awf _ | exact awg _ | exact awh _ | exact awi _ | exact awj _ _ | exact awk _ _ _ | exact awl _ _ | exact awm _ _ | exact awn _ | exact abi _ | exact awo _ _ _ | exact awp _ | exact awq _ _ | exact awr _ _ | exact aws _ _ | exact awt _ _ | exact abj _ _ | exact awv | exact aww _ _ | exact hy _ _ | refine ai.bind ?_ λ _ => ?_
def d52 (x0 : Int) : {c // ai c (yH x0)} := ⟨_, by
 unfold yH
 with_reducible repeat' first | intro _ | apply ai.loop | apply ai.ah | apply ai.bind | exact ai.refl _⟩
abbrev c52 (x0 : Int) := (d52 x0).1
theorem aCG (x0 : Int) : ai (c52 x0) (yH x0) := (d52 x0).2
def d67 (x0 : (List Int)) (x1 : (List Int)) : {c // ai c (yI x0 x1)} := ⟨_, by
 unfold yI
 with_reducible repeat' first | intro _ | apply (d55 _ _).2 | apply ai.ah | apply ai.bind | exact ai.refl _⟩
abbrev c67 (x0 : (List Int)) (x1 : (List Int)) := (d67 x0 x1).1
theorem aCH (x0 : (List Int)) (x1 : (List Int)) : ai (c67 x0 x1) (yI x0 x1) := (d67 x0 x1).2
def d49 (x0 : Int) (x1 : Int) : {c // ai c (yG x0 x1)} := ⟨_, by
 unfold yG
 with_reducible repeat' first | intro _ | apply ai.loop | apply ai.ah | apply ai.bind | exact ai.refl _⟩
abbrev c49 (x0 : Int) (x1 : Int) := (d49 x0 x1).1
theorem aCF (x0 : Int) (x1 : Int) : ai (c49 x0 x1) (yG x0 x1) := (d49 x0 x1).2
def d51 (x0 : (List Int)) : {c // ai c (BK x0)} := ⟨_, by
 unfold BK
 with_reducible repeat' first | intro _ | apply ai.loop | apply ai.ah | apply ai.bind | exact ai.refl _⟩
abbrev c51 (x0 : (List Int)) := (d51 x0).1
theorem aDA (x0 : (List Int)) : ai (c51 x0) (BK x0) := (d51 x0).2
def d68 (x0 : (List Int)) (x1 : Int) : {c // ai c (BE x0 x1)} := ⟨_, by
 unfold BE
 with_reducible repeat' first | intro _ | apply ai.loop | apply ai.ah | apply ai.bind | exact ai.refl _⟩
abbrev Yt (x0 : (List Int)) (x1 : Int) := (d68 x0 x1).1
theorem aCI (x0 : (List Int)) (x1 : Int) : ai (Yt x0 x1) (BE x0 x1) := (d68 x0 x1).2
theorem azk : nA = some true := av9 _ (by decide +kernel)
end
end Go.Proofs.YtabamagholjdcaaGreatDoor
