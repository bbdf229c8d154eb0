/- The chapter's examples, by reckoning. Conditions: none. -/
import Derived.Test.YtihapemckcdicaaGreatDoorQFStM
import Derived.Test.YtihapemckcdicaaGreatDoorQFLgC
namespace Go.Proofs.YtihapemckcdicaaGreatDoor
open Go.Lg Go.Proofs
noncomputable section
set_option maxRecDepth 100000
set_option maxHeartbeats 4000000
def d139(x0:Int)(x1:Int)(x2:Int):{c // af c (ko x0 x1 x2)}:=⟨_,by
 unfold ko
 with_reducible repeat' first | intro _ | apply af.ag | apply af.bind | exact af.refl _⟩
def ajn(x0:ByteArray):Option Bool:=JC x0
theorem ayB(x0:ByteArray):af (ajn x0) (JC x0):=af.refl _
def Lv(x0:b8)(x1:(bt→Option Bool)):Option Int :=
 (pT (O:=Int) (λ (jv:(Int × Int)) =>
 ag (decide (jv.2 < (x0.eV.length:Int)))
 ((idx x0.eV jv.2).bind λ uB =>
 (x1 uB).bind λ Ds =>
 ag Ds
 (some (.inl (i64 (jv.1+1),i64 (jv.2+1))))
 (some (.inl (jv.1,i64 (jv.2+1)))))
 (some (.inr jv.1))) (0,0)).bind (λ (xJ:Int) =>
 some xJ)
theorem M3(x0:b8){x1 fV:(bt→Option Bool)}(gN:∀ y,af (x1 y) (fV y)):af (Lv x0 x1) (rX x0 fV):=by
 unfold Lv rX
 with_reducible repeat' first | exact af.refl _ | refine af.loop λ _=>?_ | refine af.ag ?_ ?_ | exact gN _ | exact hy _ _ | refine af.bind ?_ λ _=>?_
def d104(x0:ao)(x1:Int):{c // af c (vA x0 x1)}:=⟨_,by
 unfold vA
 with_reducible repeat' first | intro _ | apply af.loop | apply af.ag | apply af.elim | apply af.bind | exact af.refl _⟩
def d111(x0:ao)(x1:bt)(x2:Int)(x3:Int):{c // af c (B1 x0 x1 x2 x3)}:=⟨_,by
 unfold B1
 with_reducible repeat' first | intro _ | apply (d104 _ _).2 | apply af.ag | apply af.bind | exact af.refl _⟩
def d172(x0:bt)(x1:b8)(x2:Int)(x3:Int):{c // af c (zD x0 x1 x2 x3)}:=⟨_,by
 unfold zD
 with_reducible repeat' first | intro _ | apply (d111 _ _ _ _).2 | apply af.bind | exact af.refl _⟩
abbrev ZY(x0:bt)(x1:b8)(x2:Int)(x3:Int):=(d172 x0 x1 x2 x3).1
theorem ays(x0:bt)(x1:b8)(x2:Int)(x3:Int):af (ZY x0 x1 x2 x3) (zD x0 x1 x2 x3):=(d172 x0 x1 x2 x3).2
def V1(x0:b8)(i k:Nat):Option Bool:=(Lv x0 (λ y=>ZY y x0 (k:Int) (i:Int))).bind λ n=>some (n == (x0.eV.length:Int))
theorem ayY(x0:b8)(i k:Nat):af (V1 x0 i k) (rT x0 i k):=by
 unfold V1 rT
 with_reducible repeat' first | exact af.refl _ | refine M3 _ (λ _=>?_) | exact ays _ _ _ _ | refine af.bind ?_ λ _=>?_
def ZO(x0:b8):Option (List Bool) :=
 if (0 < x0.book.aR.length∧x0.book.aR.length≤4)∧(0 < x0.book.aH.length∧x0.book.aH.length≤4) then
  (((List.range 16).mapM λ (p:Nat)=>if p / 4 < x0.book.aR.length∧p % 4 < x0.book.aH.length then V1 x0 (p / 4) (p % 4) else some false):Option (List Bool))
 else none
theorem Jc(x0:b8):af (ZO x0) (vB x0):=by
 unfold ZO vB
 split
 ·refine af.mapM (λ p=>?_) _
  split
  ·exact ayY _ _ _
  ·exact af.refl _
 ·exact af.none
def d265(x0:ao):{c // af c (E4 x0)}:=⟨_,by
 unfold E4
 with_reducible repeat' first | intro _ | apply (d139 _ _ _).2 | apply af.ag | apply af.bind | exact af.refl _⟩
def d266(x0:ao):{c // af c (Ck x0)}:=⟨_,by
 unfold Ck
 with_reducible repeat' first | intro _ | apply (d139 _ _ _).2 | apply af.loop | apply af.ag | apply af.elim | apply af.bind | exact af.refl _⟩
def QA(x0:(List Reach))(x1:(Reach→Option Bool)):Option Int :=
 (pT (O:=(Unit ⊕ Int)) (λ (cT:Int) =>
 ag (decide (cT < (x0.length:Int)))
 ((idx x0 cT).bind λ kA =>
 (x1 kA).bind λ kR =>
 ag kR
 (some (.inr (.inr cT)))
 (some (.inl (i64 (cT+1)))))
 (some (.inr (.inl ())))) 0).bind (Sum.elim (λ (_:Unit) =>
 some (-1))
  (λ q=>some q))
theorem ayD(x0:(List Reach)){x1 fV:(Reach→Option Bool)}(gN:∀ y,af (x1 y) (fV y)):af (QA x0 x1) (JD x0 fV):=by
 unfold QA JD
 with_reducible repeat' first | exact af.refl _ | refine af.loop λ _=>?_ | refine af.ag ?_ ?_ | refine af.elim (λ _=>?_) (λ _=>?_) _ | exact gN _ | exact hy _ _ | refine af.bind ?_ λ _=>?_
def Z4(x0:(List Reach))(x1:(Reach→Option Bool)):Option Bool :=
 (QA x0 x1).bind λ c9 =>
 some (decide (c9 ≥ 0))
theorem ayA(x0:(List Reach)){x1 fV:(Reach→Option Bool)}(gN:∀ y,af (x1 y) (fV y)):af (Z4 x0 x1) (E5 x0 fV):=by
 unfold Z4 E5
 with_reducible repeat' first | exact af.refl _ | refine ayD _ (λ _=>?_) | exact gN _ | exact hy _ _ | refine af.bind ?_ λ _=>?_
def d273(x0:Reach)(x1:Int)(x2:Int)(x3:Int):{c // af c (Cr x0 x1 x2 x3)}:=⟨_,by
 unfold Cr
 with_reducible repeat' first | intro _ | apply af.ag | apply af.bind | exact af.refl _⟩
def d272(x0:Reach):{c // af c (Cq x0)}:=⟨_,by
 unfold Cq
 with_reducible repeat' first | intro _ | apply (d273 _ _ _ _).2 | apply af.bind | exact af.refl _⟩
def d267(x0:ao):{c // af c (Cl x0)}:=⟨_,by
 unfold Cl
 with_reducible repeat' first | intro _ | apply (d139 _ _ _).2 | apply ayA | apply (d272 _).2 | apply af.ag | apply af.bind | exact af.refl _⟩
def QB(x0:(List eQ))(x1:(eQ→Option Bool)):Option Int :=
 (pT (O:=(Unit ⊕ Int)) (λ (cT:Int) =>
 ag (decide (cT < (x0.length:Int)))
 ((idx x0 cT).bind λ kA =>
 (x1 kA).bind λ kR =>
 ag kR
 (some (.inr (.inr cT)))
 (some (.inl (i64 (cT+1)))))
 (some (.inr (.inl ())))) 0).bind (Sum.elim (λ (_:Unit) =>
 some (-1))
  (λ q=>some q))
theorem ayE(x0:(List eQ)){x1 fV:(eQ→Option Bool)}(gN:∀ y,af (x1 y) (fV y)):af (QB x0 x1) (JE x0 fV):=by
 unfold QB JE
 with_reducible repeat' first | exact af.refl _ | refine af.loop λ _=>?_ | refine af.ag ?_ ?_ | refine af.elim (λ _=>?_) (λ _=>?_) _ | exact gN _ | exact hy _ _ | refine af.bind ?_ λ _=>?_
def Z5(x0:(List eQ))(x1:(eQ→Option Bool)):Option Bool :=
 (QB x0 x1).bind λ c9 =>
 some (decide (c9 ≥ 0))
theorem ayC(x0:(List eQ)){x1 fV:(eQ→Option Bool)}(gN:∀ y,af (x1 y) (fV y)):af (Z5 x0 x1) (E6 x0 fV):=by
 unfold Z5 E6
 with_reducible repeat' first | exact af.refl _ | refine ayE _ (λ _=>?_) | exact gN _ | exact hy _ _ | refine af.bind ?_ λ _=>?_
def d276(x0:eQ)(x1:eQ):{c // af c (Cs x0 x1)}:=⟨_,by
 unfold Cs
 with_reducible repeat' first | intro _ | apply af.bind | exact af.refl _⟩
def d268(x0:ao):{c // af c (Cm x0)}:=⟨_,by
 unfold Cm
 with_reducible repeat' first | intro _ | apply (d139 _ _ _).2 | apply ayB | apply ayC | apply (d276 _ _).2 | apply af.loop | apply af.ag | apply af.elim | apply af.bind | exact af.refl _⟩
def d107(x0:Int)(x1:Int):{c // af c (o7 x0 x1)}:=⟨_,by
 unfold o7
 with_reducible repeat' first | intro _ | apply (d139 _ _ _).2 | apply af.ag | apply af.bind | exact af.refl _⟩
abbrev ZL(x0:Int)(x1:Int):=(d107 x0 x1).1
theorem ayd(x0:Int)(x1:Int):af (ZL x0 x1) (o7 x0 x1):=(d107 x0 x1).2
def d269(x0:ao):{c // af c (Co x0)}:=⟨_,by
 unfold Co
 with_reducible repeat' first | intro _ | apply (d107 _ _).2 | apply (d139 _ _ _).2 | apply af.loop | apply af.ag | apply af.elim | apply af.bind | exact af.refl _⟩
def d270(x0:ao):{c // af c (Cp x0)}:=⟨_,by
 unfold Cp
 with_reducible repeat' first | intro _ | apply (d107 _ _).2 | apply (d139 _ _ _).2 | apply af.loop | apply af.ag | apply af.elim | apply af.bind | exact af.refl _⟩
def d82(x0:ao):{c // af c (o8 x0)}:=⟨_,by
 unfold o8
 with_reducible repeat' first | intro _ | apply (d265 _).2 | apply (d266 _).2 | apply (d267 _).2 | apply (d268 _).2 | apply (d269 _).2 | apply (d270 _).2 | apply af.ag | apply af.bind | exact af.refl _⟩
abbrev QL(x0:ao):=(d82 x0).1
theorem acN(x0:ao):af (QL x0) (o8 x0):=(d82 x0).2
def Qv (x1:(bt→((List bt) ⊕ Empty)→Option (((List bt) ⊕ Empty) × Bool))→((List bt) ⊕ Empty)→Option ((List bt) ⊕ Empty)):Option (List bt) :=
 (x1 (gm (λ (rz:bt) (jZ:(List bt))=>(((eJ jZ [rz]).bind λ ib =>
 some (.inl ib)):Option ((List bt) ⊕ Empty)))) (.inl [])).bind (Sum.elim (λ (jZ:(List bt)) =>
 some jZ)
  (λ (o:Empty)=>o.elim))
theorem ayo{x1 fV:(bt→((List bt) ⊕ Empty)→Option (((List bt) ⊕ Empty) × Bool))→((List bt) ⊕ Empty)→Option ((List bt) ⊕ Empty)}(gN:∀ ys kB,(∀ y s,af (ys y s) (kB y s))→∀ s,af (x1 ys s) (fV kB s)):af (Qv x1) (EU fV):=by
 unfold Qv EU
 with_reducible repeat' first | exact af.refl _ | refine af.elim (λ _=>?_) (λ _=>?_) _ | refine af.gm (λ _ _=>?_) _ _ | refine gN _ _ (λ _ _=>?_) _ | exact gN | exact hy _ _ | refine af.bind ?_ λ _=>?_
def LB (x0:(bt→((List bt) ⊕ Empty)→Option (((List bt) ⊕ Empty) × Bool))→((List bt) ⊕ Empty)→Option ((List bt) ⊕ Empty)):Option (List bt) :=
 (Qv x0).bind λ c9 =>
 some c9
theorem V9{x0 Ai:(bt→((List bt) ⊕ Empty)→Option (((List bt) ⊕ Empty) × Bool))→((List bt) ⊕ Empty)→Option ((List bt) ⊕ Empty)}(BH:∀ ys kB,(∀ y s,af (ys y s) (kB y s))→∀ s,af (x0 ys s) (Ai kB s)):af (LB x0) (xz Ai):=by
 unfold LB xz
 with_reducible repeat' first | exact af.refl _ | refine ayo (λ _ _ hy _=>?_) | refine BH _ _ (λ _ _=>?_) _ | exact BH | exact hy _ _ | refine af.bind ?_ λ _=>?_
def Qz(x0:(List cz))(x1:(cz→Option Bool)):Option Int :=
 (pT (O:=(Unit ⊕ Int)) (λ (cT:Int) =>
 ag (decide (cT < (x0.length:Int)))
 ((idx x0 cT).bind λ kA =>
 (x1 kA).bind λ kR =>
 ag kR
 (some (.inr (.inr cT)))
 (some (.inl (i64 (cT+1)))))
 (some (.inr (.inl ())))) 0).bind (Sum.elim (λ (_:Unit) =>
 some (-1))
  (λ q=>some q))
theorem ayv(x0:(List cz)){x1 fV:(cz→Option Bool)}(gN:∀ y,af (x1 y) (fV y)):af (Qz x0 x1) (Jy x0 fV):=by
 unfold Qz Jy
 with_reducible repeat' first | exact af.refl _ | refine af.loop λ _=>?_ | refine af.ag ?_ ?_ | refine af.elim (λ _=>?_) (λ _=>?_) _ | exact gN _ | exact hy _ _ | refine af.bind ?_ λ _=>?_
def ZZ(x0:(List cz))(x1:(cz→Option Bool)):Option Bool :=
 (Qz x0 x1).bind λ c9 =>
 some (decide (c9 ≥ 0))
theorem ayu(x0:(List cz)){x1 fV:(cz→Option Bool)}(gN:∀ y,af (x1 y) (fV y)):af (ZZ x0 x1) (EY x0 fV):=by
 unfold ZZ EY
 with_reducible repeat' first | exact af.refl _ | refine ayv _ (λ _=>?_) | exact gN _ | exact hy _ _ | refine af.bind ?_ λ _=>?_
def d187(x0:cz)(x1:bt):{c // af c (Ch x0 x1)}:=⟨_,by
 unfold Ch
 with_reducible repeat' first | intro _ | apply af.bind | exact af.refl _⟩
def d162(x0:ao)(x1:bt):{c // af c (zC x0 x1)}:=⟨_,by
 unfold zC
 with_reducible repeat' first | intro _ | apply ayu | apply (d187 _ _).2 | apply af.bind | exact af.refl _⟩
abbrev ZU(x0:ao)(x1:bt):=(d162 x0 x1).1
theorem ayp(x0:ao)(x1:bt):af (ZU x0 x1) (zC x0 x1):=(d162 x0 x1).2
def Lw{S:Type}(ys:bt→S→Option (S × Bool)):Nat→Int→ao→bt→S→Option (S × (bt × Bool))
 | 0,_,_,_,_=>none
 | k+1,x0,x1,x2,s0 =>
  ag (x0 == (x1.aO.length:Int))
  (((((ZU x1 x2).bind λ eK =>
  ag (!eK)
  (some (s0,true))
  ((ys x2 s0).bind λ iz =>
  some (iz.1,iz.2))):Option (S × Bool))).bind (λ (xF:(S × Bool)) =>
  some (xF.1,(x2,xF.2))))
  ((idx x1.aO x0).bind λ bT =>
  (pT (O:=((S × (List Int)) ⊕ (S × (bt × Bool)))) (λ (bS:(S × Int × (List Int))) =>
  (idx x1.aO x0).bind λ eT =>
  ag (decide (bS.2.1≤eT.dh))
  ((idx bS.2.2 x0).bind λ _ =>
  (Lw ys k (i64 (x0+1)) x1 (⟨bS.2.2.set x0.toNat bS.2.1⟩:bt) bS.1).bind λ ic =>
  ag (!ic.2.2)
  (some (.inr (.inr (ic.1,(ic.2.1,false)))))
  (some (.inl (ic.1,i64 (bS.2.1+1),ic.2.1.deep))))
  (some (.inr (.inl (bS.1,bS.2.2))))) (s0,bT.cj,x2.deep)).bind (Sum.elim (λ (nL:(S × (List Int))) =>
  some (nL.1,((⟨nL.2⟩:bt),true)))
   (λ q=>some q)))
theorem acJ{S:Type}{ys kB:bt→S→Option (S × Bool)}(h:∀ y s,af (ys y s) (kB y s)):∀ k x0 x1 x2 s0,af (Lw ys k x0 x1 x2 s0) (qK kB k x0 x1 x2 s0)
 | 0,_,_,_,_=>af.none
 | k+1,x0,x1,x2,s0=>by
  have ih:=acJ h k
  rw [Lw,qK]
  with_reducible repeat' first | exact af.refl _ | refine af.loop λ _=>?_ | refine af.ag ?_ ?_ | refine af.elim (λ _=>?_) (λ _=>?_) _ | exact ayp _ _ | exact h _ _ | exact ih _ _ _ _ | refine af.bind ?_ λ _=>?_
def LC{S:Type}(ys:bt→S→Option (S × Bool))(x0:ao)(s0:S):Option S :=
 (Lw ys 9 0 x0 (⟨[0,0,0]⟩:bt) s0).bind λ rv =>
  some rv.1
theorem M5{S:Type}{ys kB:bt→S→Option (S × Bool)}(h:∀ y s,af (ys y s) (kB y s))(x0:ao)(s0:S):af (LC ys x0 s0) (o9 kB x0 s0):=by
 unfold LC o9
 with_reducible repeat' first | exact af.refl _ | refine acJ (λ _ _=>?_) _ _ _ _ _ | exact h _ _ | refine af.bind ?_ λ _=>?_
def d23(x0:ao):{c // af c (E2 x0)}:=⟨_,by
 unfold E2
 with_reducible repeat' first | intro _ | apply (d82 _).2 | apply V9 | apply M5 | apply af.ag | apply af.bind | exact af.refl _ | exact ‹∀ _ _,af _ _› _ _⟩
abbrev Z1(x0:ao):=(d23 x0).1
theorem ayx(x0:ao):af (Z1 x0) (E2 x0):=(d23 x0).2
def c94(x0:ao)(x1:(ao→Option Int)):Option (b8 × Int) :=
 (QL x0).bind λ hZ =>
 ag (hZ != 0)
 (some ((⟨⟨0,[],[],[],[],[]⟩,[]⟩:b8),hZ))
 ((x1 x0).bind λ fl =>
 ag (fl != 0)
 (some ((⟨⟨0,[],[],[],[],[]⟩,[]⟩:b8),fl))
 ((LB (λ y s=>LC y x0 s)).bind λ jB =>
 ag ((jB.length:Int) == 0)
 (some ((⟨⟨0,[],[],[],[],[]⟩,[]⟩:b8),9))
 (some ((⟨⟨x0.Rest,x0.Rows,x0.aO,x0.aH,x0.aR,x0.aN⟩,jB⟩:b8),0))))
theorem xq(x0:ao){x1 fV:(ao→Option Int)}(gN:∀ y,af (x1 y) (fV y)):af (c94 x0 x1) (ou x0 fV):=by
 unfold c94 ou
 with_reducible repeat' first | exact af.refl _ | refine af.ag ?_ ?_ | exact acN _ | refine V9 (λ _ _ hy _=>?_) | refine M5 (λ _ _=>?_) _ _ | exact gN _ | exact hy _ _ | refine af.bind ?_ λ _=>?_
def d163(x0:ao)(x1:Int):{c // af c (rY x0 x1)}:=⟨_,by
 unfold rY
 with_reducible repeat' first | intro _ | apply (d107 _ _).2 | apply af.bind | exact af.refl _⟩
def d95(x0:Int):{c // af c (Ff x0)}:=⟨_,by
 unfold Ff
 with_reducible repeat' first | intro _ | apply af.bind | exact af.refl _⟩
def d235(x0:Int):{c // af c (zE x0)}:=⟨_,by
 unfold zE
 with_reducible repeat' first | intro _ | apply af.bind | exact af.refl _⟩
def d221(x0:Int)(x1:Int):{c // af c (JA x0 x1)}:=⟨_,by
 unfold JA
 with_reducible repeat' first | intro _ | apply (d235 _).2 | apply af.ag | apply af.bind | exact af.refl _⟩
def d215(x0:(List Int))(x1:Int)(x2:Int):{c // af c (Jz x0 x1 x2)}:=⟨_,by
 unfold Jz
 with_reducible repeat' first | intro _ | apply (d221 _ _).2 | apply af.loop | apply af.ag | apply af.bind | exact af.refl _⟩
def d225(x0:Int):{c // af c (JB x0)}:=⟨_,by
 unfold JB
 with_reducible repeat' first | intro _ | apply af.ag | apply af.bind | exact af.refl _⟩
def d189(x0:Int):{c // af c (EZ x0)}:=⟨_,by
 unfold EZ
 with_reducible repeat' first | intro _ | apply (d225 _).2 | apply af.bind | exact af.refl _⟩
abbrev ajm(x0:Int):=(d189 x0).1
theorem aML(x0:Int):af (ajm x0) (EZ x0):=(d189 x0).2
def d188(x0:(List Int))(x1:Int)(x2:Int)(x3:Int):{c // af c (Jv x0 x1 x2 x3)}:=⟨_,by
 unfold Jv
 with_reducible repeat' first | intro _ | apply (d215 _ _ _).2 | apply af.loop | apply af.ag | apply af.bind | exact af.refl _⟩
def d164(x0:(List Int)):{c // af c (EW x0)}:=⟨_,by
 unfold EW
 with_reducible repeat' first | intro _ | apply (d188 _ _ _ _).2 | apply (d189 _).2 | apply af.bind | exact af.refl _⟩
abbrev ZV(x0:(List Int)):=(d164 x0).1
theorem ayq(x0:(List Int)):af (ZV x0) (EW x0):=(d164 x0).2
def d165(x0:(List Int)):{c // af c (EX x0)}:=⟨_,by
 unfold EX
 with_reducible repeat' first | intro _ | apply af.loop | apply af.ag | apply af.elim | apply af.bind | exact af.refl _⟩
abbrev ZW(x0:(List Int)):=(d165 x0).1
theorem ayr(x0:(List Int)):af (ZW x0) (EX x0):=(d165 x0).2
def c96(x0:b8)(x1:(bt→Option Int)):Option (List Int) :=
 (pT (O:=(List Int)) (λ (pk:((List Int) × Int)) =>
 ag (decide (pk.2 < (x0.eV.length:Int)))
 ((idx x0.eV pk.2).bind λ mQ =>
 (x1 mQ).bind λ yx =>
 (eJ pk.1 [yx]).bind λ oC =>
 some (.inl (oC,i64 (pk.2+1))))
 (some (.inr pk.1))) ([],0)).bind (λ (sb:(List Int)) =>
 (ZV sb).bind λ oD =>
 (ZW oD).bind λ kT =>
 some kT)
theorem acO(x0:b8){x1 fV:(bt→Option Int)}(gN:∀ y,af (x1 y) (fV y)):af (c96 x0 x1) (Fg x0 fV):=by
 unfold c96 Fg
 with_reducible repeat' first | exact af.refl _ | refine af.loop λ _=>?_ | refine af.ag ?_ ?_ | exact ayq _ | exact ayr _ | exact gN _ | exact hy _ _ | refine af.bind ?_ λ _=>?_
def d97(x0:bt)(x1:Int):{c // af c (Fh x0 x1)}:=⟨_,by
 unfold Fh
 with_reducible repeat' first | intro _ | apply af.bind | exact af.refl _⟩
def d25(x0:ao)(x1:Int):{c // af c (E3 x0 x1)}:=⟨_,by
 unfold E3
 with_reducible repeat' first | intro _ | apply xq | apply (d95 _).2 | apply acO | apply (d97 _ _).2 | apply (d163 _ _).2 | apply af.ag | apply af.bind | exact af.refl _⟩
abbrev Z2(x0:ao)(x1:Int):=(d25 x0 x1).1
theorem ayy(x0:ao)(x1:Int):af (Z2 x0 x1) (E3 x0 x1):=(d25 x0 x1).2
def d103(x0:bt)(x1:b8)(x2:Int):{c // af c (EK x0 x1 x2)}:=⟨_,by
 unfold EK
 with_reducible repeat' first | intro _ | apply (d104 _ _).2 | apply af.bind | exact af.refl _⟩
def d28(x0:ao)(x1:Int):{c // af c (E7 x0 x1)}:=⟨_,by
 unfold E7
 with_reducible repeat' first | intro _ | apply xq | apply (d95 _).2 | apply acO | apply (d103 _ _ _).2 | apply (d163 _ _).2 | apply af.ag | apply af.bind | exact af.refl _⟩
abbrev Z6(x0:ao)(x1:Int):=(d28 x0 x1).1
theorem ayF(x0:ao)(x1:Int):af (Z6 x0 x1) (E7 x0 x1):=(d28 x0 x1).2
def d106(x0:ao)(x1:Int)(x2:Int):{c // af c (EL x0 x1 x2)}:=⟨_,by
 unfold EL
 with_reducible repeat' first | intro _ | apply (d107 _ _).2 | apply af.bind | exact af.refl _⟩
def d108(x0:b8)(x1:Int):{c // af c (B0 x0 x1)}:=⟨_,by
 unfold B0
 with_reducible repeat' first | intro _ | apply af.ag | apply af.bind | exact af.refl _⟩
abbrev ZM(x0:b8)(x1:Int):=(d108 x0 x1).1
theorem aye(x0:b8)(x1:Int):af (ZM x0 x1) (B0 x0 x1):=(d108 x0 x1).2
def d110(x0:bt)(x1:b8)(x2:Int)(x3:Int):{c // af c (EM x0 x1 x2 x3)}:=⟨_,by
 unfold EM
 with_reducible repeat' first | intro _ | apply (d111 _ _ _ _).2 | apply af.bind | exact af.refl _⟩
def d30(x0:ao)(x1:Int)(x2:Int):{c // af c (zF x0 x1 x2)}:=⟨_,by
 unfold zF
 with_reducible repeat' first | intro _ | apply xq | apply (d106 _ _ _).2 | apply (d108 _ _).2 | apply M3 | apply (d110 _ _ _ _).2 | apply af.ag | apply af.bind | exact af.refl _⟩
abbrev Ly(x0:ao)(x1:Int)(x2:Int):=(d30 x0 x1 x2).1
theorem ayG(x0:ao)(x1:Int)(x2:Int):af (Ly x0 x1 x2) (zF x0 x1 x2):=(d30 x0 x1 x2).2
def d132(x0:(List Int)):{c // af c (B6 x0)}:=⟨_,by
 unfold B6
 with_reducible repeat' first | intro _ | apply af.loop | apply af.ag | apply af.bind | exact af.refl _⟩
abbrev ZS(x0:(List Int)):=(d132 x0).1
theorem ayl(x0:(List Int)):af (ZS x0) (B6 x0):=(d132 x0).2
def Qr(x0:ao)(x1:(List (List Int))):Option ((List Bool) × Int) :=
 ag ((x1.length:Int) != (x0.aR.length:Int))
 (some ([false,false,false,false,false,false,false,false,false,false,false,false,false,false,false,false],2))
 ((pT (O:=((List Bool) ⊕ ((List Bool) × Int))) (λ (gn:(Int × (List Bool))) =>
 ag (decide (gn.1 < (x1.length:Int)))
 ((idx x1 gn.1).bind λ py =>
 (idx x0.aR gn.1).bind λ Ph =>
 ag ((py.length:Int) != Ph.aH)
 (some (.inr (.inr ([false,false,false,false,false,false,false,false,false,false,false,false,false,false,false,false],2))))
 ((pT (O:=(Unit ⊕ ((List Bool) × Int))) (λ (pg:Int) =>
 ag (decide (pg < (py.length:Int)))
 ((idx py pg).bind λ Dp =>
 (ZL Dp (x0.aH.length:Int)).bind λ Gd =>
 ag (Gd != 0)
 (some (.inr (.inr ([false,false,false,false,false,false,false,false,false,false,false,false,false,false,false,false],Gd))))
 ((((ag (decide (pg > 0))
 ((idx py (i64 (pg - 1))).bind λ Pj =>
 some (decide (Dp≤Pj)))
 (some false)):Option Bool)).bind (λ (FK:Bool) =>
 ag FK
 (some (.inr (.inr ([false,false,false,false,false,false,false,false,false,false,false,false,false,false,false,false],7))))
 (some (.inl (i64 (pg+1)))))))
 (some (.inr (.inl ())))) 0).bind (Sum.elim (λ (_:Unit) =>
 (ZS py).bind λ Pk =>
 (ja 4 gn.2 gn.1).bind λ _ =>
 some (.inl (i64 (gn.1+1),FU 4 gn.2 gn.1 Pk)))
  (λ q=>some (.inr (.inr q))))))
 (some (.inr (.inl gn.2)))) (0,[false,false,false,false,false,false,false,false,false,false,false,false,false,false,false,false])).bind (Sum.elim (λ (CG:(List Bool)) =>
 some (CG,0))
  (λ q=>some q)))
theorem ayh(x0:ao)(x1:(List (List Int))):af (Qr x0 x1) (Jk x0 x1):=by
 unfold Qr Jk
 with_reducible repeat' first | exact af.refl _ | refine af.loop λ _=>?_ | refine af.ag ?_ ?_ | refine af.elim (λ _=>?_) (λ _=>?_) _ | exact ayd _ _ | exact ayl _ | exact hy _ _ | refine af.bind ?_ λ _=>?_
def Qq(x0:ao)(x1:(List (List Int)))(_:(List Bool)):Option ((List Bool) × Int) :=
 (Qr x0 x1).bind λ eZ =>
 some (eZ.1,eZ.2)
theorem ayg(x0:ao)(x1:(List (List Int)))(x2:(List Bool)):af (Qq x0 x1 x2) (Jj x0 x1 x2):=by
 unfold Qq Jj
 with_reducible repeat' first | exact af.refl _ | exact ayh _ _ | exact hy _ _ | refine af.bind ?_ λ _=>?_
def d149(x0:ao)(x1:Int)(x2:Int):{c // af c (ER x0 x1 x2)}:=⟨_,by
 unfold ER
 with_reducible repeat' first | intro _ | apply af.ag | apply af.bind | exact af.refl _⟩
def d117(x0:ao)(x1:(List Bool))(x2:Int):{c // af c (B2 x0 x1 x2)}:=⟨_,by
 unfold B2
 with_reducible repeat' first | intro _ | apply (d149 _ _ _).2 | apply af.loop | apply af.ag | apply af.elim | apply af.bind | exact af.refl _⟩
abbrev Qs(x0:ao)(x1:(List Bool))(x2:Int):=(d117 x0 x1 x2).1
theorem V7(x0:ao)(x1:(List Bool))(x2:Int):af (Qs x0 x1 x2) (B2 x0 x1 x2):=(d117 x0 x1 x2).2
def d118(x0:bt)(x1:ao)(x2:(List Bool))(x3:b8):{c // af c (B3 x0 x1 x2 x3)}:=⟨_,by
 unfold B3
 with_reducible repeat' first | intro _ | apply (d111 _ _ _ _).2 | apply af.loop | apply af.ag | apply af.elim | apply af.bind | exact af.refl _⟩
abbrev ZN(x0:bt)(x1:ao)(x2:(List Bool))(x3:b8):=(d118 x0 x1 x2 x3).1
theorem ayi(x0:bt)(x1:ao)(x2:(List Bool))(x3:b8):af (ZN x0 x1 x2 x3) (B3 x0 x1 x2 x3):=(d118 x0 x1 x2 x3).2
def Qp(x0:ao)(vU:(List (List Int)))(rp:(List Bool)):Option ((List Bool) × b8 × Int) :=
 (QL x0).bind λ hZ =>
 ag (hZ != 0)
 (some (rp,(⟨⟨0,[],[],[],[],[]⟩,[]⟩:b8),hZ))
 ((Qq x0 vU rp).bind λ fl =>
 ag (fl.2 != 0)
 (some (fl.1,(⟨⟨0,[],[],[],[],[]⟩,[]⟩:b8),fl.2))
 ((LB (λ y s=>LC y x0 s)).bind λ jB =>
 ag ((jB.length:Int) == 0)
 (some (fl.1,(⟨⟨0,[],[],[],[],[]⟩,[]⟩:b8),9))
 (some (fl.1,(⟨⟨x0.Rest,x0.Rows,x0.aO,x0.aH,x0.aR,x0.aN⟩,jB⟩:b8),0))))
theorem ayf(x0:ao)(vU:(List (List Int)))(rp:(List Bool)):af (Qp x0 vU rp) (Ji x0 vU rp):=by
 unfold Qp Ji
 with_reducible repeat' first | exact af.refl _ | refine af.ag ?_ ?_ | exact acN _ | refine V9 (λ _ _ hy _=>?_) | refine M5 (λ _ _=>?_) _ _ | exact ayg _ _ _ | exact hy _ _ | refine af.bind ?_ λ _=>?_
def Lz(x0:ao)(x1:(List (List Int))):Option (Int × Int) :=
 (Qp x0 x1 [false,false,false,false,false,false,false,false,false,false,false,false,false,false,false,false]).bind λ eT =>
 ag (eT.2.2 != 0)
 (some (0,eT.2.2))
 ((pT (O:=(Unit ⊕ (Int × Int))) (λ (ug:Int) =>
 ag (decide (ug < (x0.aR.length:Int)))
 ((Qs eT.2.1.book eT.1 ug).bind λ kS =>
 ag (!kS)
 (some (.inr (.inr (2,0))))
 (some (.inl (i64 (ug+1)))))
 (some (.inr (.inl ())))) 0).bind (Sum.elim (λ (_:Unit) =>
 (Lv eT.2.1 (λ y=>ZN y x0 eT.1 eT.2.1)).bind λ mQ =>
 (ZM eT.2.1 mQ).bind λ Pq =>
 some (Pq,0))
  (λ q=>some q)))
theorem ayH(x0:ao)(x1:(List (List Int))):af (Lz x0 x1) (m32 x0 x1):=by
 unfold Lz m32
 with_reducible repeat' first | exact af.refl _ | refine af.loop λ _=>?_ | refine af.ag ?_ ?_ | refine af.elim (λ _=>?_) (λ _=>?_) _ | exact aye _ _ | refine M3 _ (λ _=>?_) | exact V7 _ _ _ | exact ayi _ _ _ _ | exact ayf _ _ _ | exact hy _ _ | refine af.bind ?_ λ _=>?_
def d121(x0:ao):{c // af c (nb x0)}:=⟨_,by
 unfold nb
 with_reducible repeat' first | intro _ | apply af.bind | exact af.refl _⟩
def yP{S:Type}(ys:(List Bool)→S→Option (S × Bool)):Nat→((List Bool)→Int→b8→Int→(List Bool)→(List Bool)→S→Option (S × Bool)) × ((List Bool)→Int→Int→Int→b8→Int→(List Bool)→(List Bool)→S→Option (S × Bool))
 | 0=>(λ _ _ _ _ _ _ _=>none,λ _ _ _ _ _ _ _ _ _=>none)
 | k+1=>(λ x0 x1 xX xO xG xA s0 =>
  ag (x1 == (xX.book.aR.length:Int))
  ((ys x0 s0).bind λ mM =>
  some (mM.1,mM.2))
  ((nh .i64 xO x1).bind λ eK =>
  (gh .and .i64 eK 1).bind λ gI =>
  ag (gI == 1)
  (((yP ys k).1 x0 (i64 (x1+1)) xX xO xG xA s0).bind λ jd =>
  some (jd.1,jd.2))
  ((idx xX.book.aR x1).bind λ fD =>
  ((yP ys k).2 x0 x1 0 fD.aH xX xO xG xA s0).bind λ du =>
  some (du.1,du.2))),
  λ x0 x1 x2 x3 xX xO xG xA s0 =>
  ag (x3 == 0)
  (((((Qs xX.book x0 x1).bind λ gI =>
  ag (!gI)
  (some (s0,true))
  (((yP ys k).1 x0 (i64 (x1+1)) xX xO xG xA s0).bind λ bT =>
  some (bT.1,bT.2))):Option (S × Bool))).bind (λ (xH:(S × Bool)) =>
  some (xH.1,xH.2)))
  ((pT (O:=(S ⊕ (S × Bool))) (λ (bS:(S × Int × (List Bool))) =>
  ag (decide (bS.2.1 < (xX.book.aH.length:Int)))
  (((((idx xG bS.2.1).bind λ Pr =>
  ag (!Pr)
  (some true)
  ((ja 4 xA x1).bind λ v7 =>
  (idx v7 bS.2.1).bind λ Ps =>
  some (!Ps))):Option Bool)).bind (λ (FM:Bool) =>
  ag FM
  (some (.inl (bS.1,i64 (bS.2.1+1),bS.2.2)))
  ((ja 4 bS.2.2 x1).bind λ oE =>
  (idx oE bS.2.1).bind λ _ =>
  ((yP ys k).2 (pn 4 bS.2.2 x1 bS.2.1 true) x1 (i64 (bS.2.1+1)) (i64 (x3 - 1)) xX xO xG xA bS.1).bind λ pz =>
  ag (!pz.2)
  (some (.inr (.inr (pz.1,false))))
  ((ja 4 (pn 4 bS.2.2 x1 bS.2.1 true) x1).bind λ yt =>
  (idx yt bS.2.1).bind λ _ =>
  some (.inl (pz.1,i64 (bS.2.1+1),pn 4 (pn 4 bS.2.2 x1 bS.2.1 true) x1 bS.2.1 false))))))
  (some (.inr (.inl bS.1)))) (s0,x2,x0)).bind (Sum.elim (λ (nL:S) =>
  some (nL,true))
   (λ q=>some q))))
theorem acK{S:Type}{ys kB:(List Bool)→S→Option (S × Bool)}(h:∀ y s,af (ys y s) (kB y s)):∀ k,(∀ x0 x1 x2 x3 x4 x5 s0,af ((yP ys k).1 x0 x1 x2 x3 x4 x5 s0) ((pU kB k).1 x0 x1 x2 x3 x4 x5 s0))∧(∀ x0 x1 x2 x3 x4 x5 x6 x7 s0,af ((yP ys k).2 x0 x1 x2 x3 x4 x5 x6 x7 s0) ((pU kB k).2 x0 x1 x2 x3 x4 x5 x6 x7 s0))
 | 0=>⟨λ _ _ _ _ _ _ _=>af.none,λ _ _ _ _ _ _ _ _ _=>af.none⟩
 | k+1=>by
  have ih:=acK h k
  have ih1:=ih.1
  have ih2:=ih.2
  rw [yP,pU]
  constructor
  ·intro x0 x1 x2 x3 x4 x5 s0
   dsimp only
   with_reducible repeat' first | exact af.refl _ | refine af.loop λ _=>?_ | refine af.ag ?_ ?_ | refine af.elim (λ _=>?_) (λ _=>?_) _ | exact V7 _ _ _ | exact h _ _ | exact ih1 _ _ _ _ _ _ _ | exact ih2 _ _ _ _ _ _ _ _ _ | refine af.bind ?_ λ _=>?_
  ·intro x0 x1 x2 x3 x4 x5 x6 x7 s0
   dsimp only
   repeat' (first | with_reducible exact af.refl _ | with_reducible refine af.loop λ _=>?_ | with_reducible refine af.ag ?_ ?_ | with_reducible refine af.elim (λ _=>?_) (λ _=>?_) _ | with_reducible refine af.gm (λ _ _=>?_) _ _ | with_reducible exact V7 _ _ _ | with_reducible exact h _ _ | with_reducible exact ih1 _ _ _ _ _ _ _ | with_reducible exact ih2 _ _ _ _ _ _ _ _ _ | with_reducible refine af.bind ?_ λ _=>?_)
def ZX{S:Type}(ys:(List Bool)→S→Option (S × Bool))(x1:b8)(x2:Int)(x3:(List Bool))(x4:(List Bool))(s0:S):Option S :=
 ((yP ys 40).1 [false,false,false,false,false,false,false,false,false,false,false,false,false,false,false,false] 0 x1 x2 x3 x4 s0).bind λ Ao =>
  some Ao.1
theorem M4{S:Type}{ys kB:(List Bool)→S→Option (S × Bool)}(h:∀ y s,af (ys y s) (kB y s))(x1:b8)(x2:Int)(x3:(List Bool))(x4:(List Bool))(s0:S):af (ZX ys x1 x2 x3 x4 s0) (rZ kB x1 x2 x3 x4 s0):=by
 unfold ZX rZ
 with_reducible repeat' first | exact af.refl _ | refine (acK (λ _ _=>?_) 40).1 _ _ _ _ _ _ _ | exact h _ _ | refine af.bind ?_ λ _=>?_
def d122(x0:b8)(x1:(List Bool))(x2:(List Bool))(x3:Int):{c // af c (zz x0 x1 x2 x3)}:=⟨_,by
 unfold zz
 with_reducible repeat' first | intro _ | apply af.bind | exact af.refl _⟩
def d124(x0:ao):{c // af c (xt x0)}:=⟨_,by
 unfold xt
 with_reducible repeat' first | intro _ | apply af.loop | apply af.ag | apply af.bind | exact af.refl _⟩
def d34(x0:ao):{c // af c (Ct x0)}:=⟨_,by
 unfold Ct
 with_reducible repeat' first | intro _ | apply xq | apply (d121 _).2 | apply (d122 _ _ _ _).2 | apply Jc | apply (d124 _).2 | apply M4 | apply af.ag | apply af.elim | apply af.gm | apply af.bind | exact af.refl _⟩
abbrev QE(x0:ao):=(d34 x0).1
theorem ayI(x0:ao):af (QE x0) (Ct x0):=(d34 x0).2
def d126(x0:ao)(x1:(List Bool)):{c // af c (EN x0 x1)}:=⟨_,by
 unfold EN
 with_reducible repeat' first | intro _ | apply af.loop | apply af.ag | apply af.bind | exact af.refl _⟩
def d36(x0:ao):{c // af c (E8 x0)}:=⟨_,by
 unfold E8
 with_reducible repeat' first | intro _ | apply xq | apply (d121 _).2 | apply (d122 _ _ _ _).2 | apply Jc | apply (d124 _).2 | apply (d126 _ _).2 | apply M4 | apply af.ag | apply af.elim | apply af.gm | apply af.bind | exact af.refl _⟩
abbrev Z7(x0:ao):=(d36 x0).1
theorem ayJ(x0:ao):af (Z7 x0) (E8 x0):=(d36 x0).2
def Qw (x1:((List Bool)→((List (List Bool)) ⊕ Empty)→Option (((List (List Bool)) ⊕ Empty) × Bool))→((List (List Bool)) ⊕ Empty)→Option ((List (List Bool)) ⊕ Empty)):Option (List (List Bool)) :=
 (x1 (gm (λ (rz:(List Bool)) (jZ:(List (List Bool)))=>(((eJ jZ [rz]).bind λ ib =>
 some (.inl ib)):Option ((List (List Bool)) ⊕ Empty)))) (.inl [])).bind (Sum.elim (λ (jZ:(List (List Bool))) =>
 some jZ)
  (λ (o:Empty)=>o.elim))
theorem ayt{x1 fV:((List Bool)→((List (List Bool)) ⊕ Empty)→Option (((List (List Bool)) ⊕ Empty) × Bool))→((List (List Bool)) ⊕ Empty)→Option ((List (List Bool)) ⊕ Empty)}(gN:∀ ys kB,(∀ y s,af (ys y s) (kB y s))→∀ s,af (x1 ys s) (fV kB s)):af (Qw x1) (Js fV):=by
 unfold Qw Js
 with_reducible repeat' first | exact af.refl _ | refine af.elim (λ _=>?_) (λ _=>?_) _ | refine af.gm (λ _ _=>?_) _ _ | refine gN _ _ (λ _ _=>?_) _ | exact gN | exact hy _ _ | refine af.bind ?_ λ _=>?_
def ZP (x0:((List Bool)→((List (List Bool)) ⊕ Empty)→Option (((List (List Bool)) ⊕ Empty) × Bool))→((List (List Bool)) ⊕ Empty)→Option ((List (List Bool)) ⊕ Empty)):Option (List (List Bool)) :=
 (Qw x0).bind λ c9 =>
 some c9
theorem ayj{x0 Ai:((List Bool)→((List (List Bool)) ⊕ Empty)→Option (((List (List Bool)) ⊕ Empty) × Bool))→((List (List Bool)) ⊕ Empty)→Option ((List (List Bool)) ⊕ Empty)}(BH:∀ ys kB,(∀ y s,af (ys y s) (kB y s))→∀ s,af (x0 ys s) (Ai kB s)):af (ZP x0) (Jl Ai):=by
 unfold ZP Jl
 with_reducible repeat' first | exact af.refl _ | refine ayt (λ _ _ hy _=>?_) | refine BH _ _ (λ _ _=>?_) _ | exact BH | exact hy _ _ | refine af.bind ?_ λ _=>?_
def ZQ(x0:((List Bool)→Option Int))(x1:(List (List Bool))):Option (List Bool) :=
 (idx x1 0).bind λ mO =>
 (oN x1 1 (x1.length:Int)).bind λ qc =>
 (pT (O:=(List Bool)) (λ (ma:(Int × (List Bool))) =>
 ag (decide (ma.1 < (qc.length:Int)))
 ((idx qc ma.1).bind λ yy =>
 (x0 yy).bind λ oD =>
 (x0 ma.2).bind λ kT =>
 ag (decide (oD < kT))
 (some (.inl (i64 (ma.1+1),yy)))
 (some (.inl (i64 (ma.1+1),ma.2))))
 (some (.inr ma.2))) (0,mO)).bind (λ (CH:(List Bool)) =>
 some CH)
theorem ayk{x0 Ai:((List Bool)→Option Int)}(BH:∀ y,af (x0 y) (Ai y))(x1:(List (List Bool))):af (ZQ x0 x1) (Jm Ai x1):=by
 unfold ZQ Jm
 with_reducible repeat' first | exact af.refl _ | refine af.loop λ _=>?_ | refine af.ag ?_ ?_ | exact BH _ | exact hy _ _ | refine af.bind ?_ λ _=>?_
def d129(x0:ao)(x1:(List Bool)):{c // af c (B5 x0 x1)}:=⟨_,by
 unfold B5
 with_reducible repeat' first | intro _ | apply af.loop | apply af.ag | apply af.bind | exact af.refl _⟩
def d39(x0:ao):{c // af c (E9 x0)}:=⟨_,by
 unfold E9
 with_reducible repeat' first | intro _ | apply xq | apply (d121 _).2 | apply (d122 _ _ _ _).2 | apply Jc | apply (d124 _).2 | apply (d126 _ _).2 | apply ayj | apply ayk | apply (d129 _ _).2 | apply M4 | apply af.ag | apply af.bind | exact af.refl _ | exact ‹∀ _ _,af _ _› _ _⟩
abbrev Z8(x0:ao):=(d39 x0).1
theorem ayL(x0:ao):af (Z8 x0) (E9 x0):=(d39 x0).2
def d133(x0:Int):{c // af c (xv x0)}:=⟨_,by
 unfold xv
 with_reducible repeat' first | intro _ | apply af.loop | apply af.ag | apply af.bind | exact af.refl _⟩
abbrev Qt(x0:Int):=(d133 x0).1
theorem acI(x0:Int):af (Qt x0) (xv x0):=(d133 x0).2
def d211(x0:Int)(x1:Int):{c // af c (Jx x0 x1)}:=⟨_,by
 unfold Jx
 with_reducible repeat' first | intro _ | apply (d235 _).2 | apply af.ag | apply af.bind | exact af.refl _⟩
def d178(x0:(List Int))(x1:(List Int)):{c // af c (Cc x0 x1)}:=⟨_,by
 unfold Cc
 with_reducible repeat' first | intro _ | apply (d211 _ _).2 | apply af.loop | apply af.ag | apply af.elim | apply af.bind | exact af.refl _⟩
abbrev Lx(x0:(List Int))(x1:(List Int)):=(d178 x0 x1).1
theorem acL(x0:(List Int))(x1:(List Int)):af (Lx x0 x1) (Cc x0 x1):=(d178 x0 x1).2
def ZR(x0:Int)(x1:(Int→Option Bool)):Option ((List Int) × Bool) :=
 (FX .i64 1 x0).bind λ oC =>
 (pT (O:=((List Int) × Bool)) (λ (fq:((List Int) × Bool × Int)) =>
 ag (decide (fq.2.2 < oC))
 ((Qt fq.2.2).bind λ pr =>
 (((ag (!fq.2.1)
 ((x1 fq.2.2).bind λ nV =>
 some nV)
 (ag (decide ((pr.length:Int) < (fq.1.length:Int)))
 ((x1 fq.2.2).bind λ Aj =>
 some Aj)
 (ag ((pr.length:Int) == (fq.1.length:Int))
 ((Lx pr fq.1).bind λ Da =>
 ag (decide (Da < 0))
 ((x1 fq.2.2).bind λ O9 =>
 some O9)
 (some false))
 (some false)))):Option Bool)).bind (λ (Fz:Bool) =>
 ag Fz
 (some (.inl (pr,true,i64 (fq.2.2+1))))
 (some (.inl (fq.1,fq.2.1,i64 (fq.2.2+1))))))
 (some (.inr (fq.1,fq.2.1)))) ([],false,0)).bind (λ (xK:((List Int) × Bool)) =>
 some (xK.1,xK.2))
theorem V8(x0:Int){x1 fV:(Int→Option Bool)}(gN:∀ y,af (x1 y) (fV y)):af (ZR x0 x1) (xu x0 fV):=by
 unfold ZR xu
 with_reducible repeat' first | exact af.refl _ | refine af.loop λ _=>?_ | refine af.ag ?_ ?_ | exact acI _ | exact acL _ _ | exact gN _ | exact hy _ _ | refine af.bind ?_ λ _=>?_
def d134(x0:b8)(x1:(List Bool))(x2:(List Bool))(x3:Int):{c // af c (B7 x0 x1 x2 x3)}:=⟨_,by
 unfold B7
 with_reducible repeat' first | intro _ | apply (d122 _ _ _ _).2 | apply M4 | apply af.elim | apply af.gm | apply af.bind | exact af.refl _⟩
def d131(x0:Int)(x1:b8)(x2:(List Bool))(x3:(List Bool)):{c // af c (EO x0 x1 x2 x3)}:=⟨_,by
 unfold EO
 with_reducible repeat' first | intro _ | apply (d132 _).2 | apply (d133 _).2 | apply (d134 _ _ _ _).2 | apply af.ag | apply af.bind | exact af.refl _⟩
def d41(x0:ao):{c // af c (Fa x0)}:=⟨_,by
 unfold Fa
 with_reducible repeat' first | intro _ | apply xq | apply (d121 _).2 | apply Jc | apply (d124 _).2 | apply V8 | apply (d131 _ _ _ _).2 | apply af.ag | apply af.bind | exact af.refl _⟩
abbrev Z9(x0:ao):=(d41 x0).1
theorem ayM(x0:ao):af (Z9 x0) (Fa x0):=(d41 x0).2
def d138(x0:Int)(x1:b8)(x2:(List Bool))(x3:(List Bool)):{c // af c (EP x0 x1 x2 x3)}:=⟨_,by
 unfold EP
 with_reducible repeat' first | intro _ | apply (d134 _ _ _ _).2 | apply af.bind | exact af.refl _⟩
def d43(x0:ao):{c // af c (Cu x0)}:=⟨_,by
 unfold Cu
 with_reducible repeat' first | intro _ | apply xq | apply (d121 _).2 | apply Jc | apply (d124 _).2 | apply V8 | apply (d138 _ _ _ _).2 | apply af.ag | apply af.bind | exact af.refl _⟩
abbrev QG(x0:ao):=(d43 x0).1
theorem ayN(x0:ao):af (QG x0) (Cu x0):=(d43 x0).2
def d46(x0:ao)(x1:cz):{c // af c (vC x0 x1)}:=⟨_,by
 unfold vC
 with_reducible repeat' first | intro _ | apply af.bind | exact af.refl _⟩
abbrev QH(x0:ao)(x1:cz):=(d46 x0 x1).1
theorem ayO(x0:ao)(x1:cz):af (QH x0 x1) (vC x0 x1):=(d46 x0 x1).2
def d48(x0:ao)(x1:Int):{c // af c (Cv x0 x1)}:=⟨_,by
 unfold Cv
 with_reducible repeat' first | intro _ | apply (d82 _).2 | apply (d104 _ _).2 | apply (d139 _ _ _).2 | apply af.ag | apply af.bind | exact af.refl _⟩
abbrev QI(x0:ao)(x1:Int):=(d48 x0 x1).1
theorem ayP(x0:ao)(x1:Int):af (QI x0 x1) (Cv x0 x1):=(d48 x0 x1).2
def d49(x0:Int)(x1:Int):{c // af c (Cw x0 x1)}:=⟨_,by
 unfold Cw
 with_reducible repeat' first | intro _ | apply af.bind | exact af.refl _⟩
abbrev QK(x0:Int)(x1:Int):=(d49 x0 x1).1
theorem acM(x0:Int)(x1:Int):af (QK x0 x1) (Cw x0 x1):=(d49 x0 x1).2
def d151(x0:(List cz)):{c // af c (xw x0)}:=⟨_,by
 unfold xw
 with_reducible repeat' first | intro _ | apply af.bind | exact af.refl _⟩
def d179(x0:(List da)):{c // af c (Cd x0)}:=⟨_,by
 unfold Cd
 with_reducible repeat' first | intro _ | apply af.bind | exact af.refl _⟩
def d180(x0:(List Reach)):{c // af c (Ce x0)}:=⟨_,by
 unfold Ce
 with_reducible repeat' first | intro _ | apply af.bind | exact af.refl _⟩
def d181(x0:(List eQ)):{c // af c (Cf x0)}:=⟨_,by
 unfold Cf
 with_reducible repeat' first | intro _ | apply af.bind | exact af.refl _⟩
def d182(x0:(List ll)):{c // af c (Cg x0)}:=⟨_,by
 unfold Cg
 with_reducible repeat' first | intro _ | apply af.bind | exact af.refl _⟩
def d140(x0:ao):{c // af c (zA x0)}:=⟨_,by
 unfold zA
 with_reducible repeat' first | intro _ | apply (d151 _).2 | apply (d179 _).2 | apply (d180 _).2 | apply (d181 _).2 | apply (d182 _).2 | apply af.bind | exact af.refl _⟩
def d50(x0:ao)(x1:Int)(x2:Int):{c // af c (qL x0 x1 x2)}:=⟨_,by
 unfold qL
 with_reducible repeat' first | intro _ | apply (d82 _).2 | apply (d104 _ _).2 | apply (d139 _ _ _).2 | apply (d140 _).2 | apply af.loop | apply af.ag | apply af.bind | exact af.refl _⟩
abbrev c50(x0:ao)(x1:Int)(x2:Int):=(d50 x0 x1 x2).1
theorem ayQ(x0:ao)(x1:Int)(x2:Int):af (c50 x0 x1 x2) (qL x0 x1 x2):=(d50 x0 x1 x2).2
def d144(x0:ao)(x1:Int):{c // af c (Ca x0 x1)}:=⟨_,by
 unfold Ca
 with_reducible repeat' first | intro _ | apply (d133 _).2 | apply af.loop | apply af.ag | apply af.bind | exact af.refl _⟩
def d145(x0:ao):{c // af c (Cb x0)}:=⟨_,by
 unfold Cb
 with_reducible repeat' first | intro _ | apply M5 | apply af.elim | apply af.gm | apply af.bind | exact af.refl _⟩
def d143(x0:Int)(x1:ao):{c // af c (B9 x0 x1)}:=⟨_,by
 unfold B9
 with_reducible repeat' first | intro _ | apply (d144 _ _).2 | apply (d145 _).2 | apply af.bind | exact af.refl _⟩
def d54(x0:ao):{c // af c (tP x0)}:=⟨_,by
 unfold tP
 with_reducible repeat' first | intro _ | apply (d82 _).2 | apply V8 | apply (d143 _ _).2 | apply af.ag | apply af.bind | exact af.refl _⟩
abbrev c54(x0:ao):=(d54 x0).1
theorem ayR(x0:ao):af (c54 x0) (tP x0):=(d54 x0).2
def d146(x0:bt)(x1:Int)(x2:Int):{c // af c (zB x0 x1 x2)}:=⟨_,by
 unfold zB
 with_reducible repeat' first | intro _ | apply af.bind | exact af.refl _⟩
def d59(x0:ao):{c // af c (tQ x0)}:=⟨_,by
 unfold tQ
 with_reducible repeat' first | intro _ | apply xq | apply M3 | apply (d121 _).2 | apply (d146 _ _ _).2 | apply af.loop | apply af.ag | apply af.bind | exact af.refl _⟩
abbrev c59(x0:ao):=(d59 x0).1
theorem ayT(x0:ao):af (c59 x0) (tQ x0):=(d59 x0).2
def d66(x0:ao)(x1:Int)(x2:Int):{c // af c (Fc x0 x1 x2)}:=⟨_,by
 unfold Fc
 with_reducible repeat' first | intro _ | apply (d82 _).2 | apply (d107 _ _).2 | apply (d149 _ _ _).2 | apply af.ag | apply af.bind | exact af.refl _⟩
abbrev c66(x0:ao)(x1:Int)(x2:Int):=(d66 x0 x1 x2).1
theorem ayU(x0:ao)(x1:Int)(x2:Int):af (c66 x0 x1 x2) (Fc x0 x1 x2):=(d66 x0 x1 x2).2
def d159(x0:Int):{c // af c (ET x0)}:=⟨_,by
 unfold ET
 with_reducible repeat' first | intro _ | apply af.bind | exact af.refl _⟩
abbrev ZT(x0:Int):=(d159 x0).1
theorem ayn(x0:Int):af (ZT x0) (ET x0):=(d159 x0).2
def QM  : Option ao :=
 (QK 9 11).bind λ bT =>
 (ZT 15).bind λ qb =>
 some (⟨10,[(⟨10,40⟩:da),(⟨20,20⟩:da)],[bT,qb],[(⟨⟨#[97,110,110]⟩,20⟩:eQ),(⟨⟨#[98,111]⟩,12⟩:eQ)],[(⟨0,0,20,2⟩:ll),(⟨1,30,15,1⟩:ll),(⟨0,60,30,1⟩:ll)],[]⟩:ao)
theorem ayV  : af (QM ) (JM ):=by
 unfold QM JM
 with_reducible repeat' first | exact af.refl _ | exact acM _ _ | exact ayn _ | exact hy _ _ | refine af.bind ?_ λ _=>?_
def d102(x0:(List Int))(x1:(List Int)):{c // af c (xr x0 x1)}:=⟨_,by
 unfold xr
 with_reducible repeat' first | intro _ | apply af.loop | apply af.ag | apply af.elim | apply af.bind | exact af.refl _⟩
def d27(x0:(List Int))(x1:(List Int)):{c // af c (tO x0 x1)}:=⟨_,by
 unfold tO
 with_reducible repeat' first | intro _ | apply (d102 _ _).2 | apply af.ag | apply af.bind | exact af.refl _⟩
abbrev Z3(x0:(List Int))(x1:(List Int)):=(d27 x0 x1).1
theorem ayz(x0:(List Int))(x1:(List Int)):af (Z3 x0 x1) (tO x0 x1):=(d27 x0 x1).2
def d89(x0:(List Int))(x1:(List Int)):{c // af c (xy x0 x1)}:=⟨_,by
 unfold xy
 with_reducible repeat' first | intro _ | apply (d27 _ _).2 | apply af.bind | exact af.refl _⟩
abbrev G6(x0:(List Int))(x1:(List Int)):=(d89 x0 x1).1
theorem ayW(x0:(List Int))(x1:(List Int)):af (G6 x0 x1) (xy x0 x1):=(d89 x0 x1).2
def QF(x0:(List (List Int)))(x1:(List (List Int))):Option Bool :=
 ag ((x0.length:Int) != (x1.length:Int))
 (some false)
 ((pT (O:=(Unit ⊕ Bool)) (λ (ss:Int) =>
 ag (decide (ss < (x0.length:Int)))
 ((idx x0 ss).bind λ Aq =>
 (idx x1 ss).bind λ mP =>
 (Z3 Aq mP).bind λ kS =>
 ag (!kS)
 (some (.inr (.inr false)))
 (some (.inl (i64 (ss+1)))))
 (some (.inr (.inl ())))) 0).bind (Sum.elim (λ (_:Unit) =>
 some true)
  (λ q=>some q)))
theorem ayK(x0:(List (List Int)))(x1:(List (List Int))):af (QF x0 x1) (JF x0 x1):=by
 unfold QF JF
 with_reducible repeat' first | exact af.refl _ | refine af.loop λ _=>?_ | refine af.ag ?_ ?_ | refine af.elim (λ _=>?_) (λ _=>?_) _ | exact ayz _ _ | exact hy _ _ | refine af.bind ?_ λ _=>?_
def LA(x0:(List (List Int)))(x1:(List (List Int))):Option Bool :=
 (QF x0 x1).bind λ c9 =>
 some c9
theorem ayX(x0:(List (List Int)))(x1:(List (List Int))):af (LA x0 x1) (Fe x0 x1):=by
 unfold LA Fe
 with_reducible repeat' first | exact af.refl _ | exact ayK _ _ | exact hy _ _ | refine af.bind ?_ λ _=>?_
def Z0  : Option Bool :=
 (QM).bind λ eM =>
 (QH eM (⟨0,10,true⟩:cz)).bind λ iy =>
 (QI eM 10).bind λ De =>
 (QI eM 21).bind λ Df =>
 (Z1 eM).bind λ Dg =>
 (Z2 iy 0).bind λ Dh =>
 (Z6 eM 0).bind λ rq =>
 (Ly eM 1 0).bind λ vV =>
 (Ly eM 1 1).bind λ Am =>
 (Ly eM 1 2).bind λ yw =>
 (c66 eM 0 1).bind λ An =>
 (Lz eM ([[0,1],[0],[1]])).bind λ Di =>
 (Lz iy ([[0,1],[0],[1]])).bind λ Dj =>
 (((ag (De.2 != 0)
 (some true)
 (ag (Df.2 != 0)
 (some true)
 (ag (Dg.2 != 0)
 (some true)
 (ag (Dh.2 != 0)
 (some true)
 (ag (rq.2 != 0)
 (some true)
 (ag (vV.2 != 0)
 (some true)
 (ag (Am.2 != 0)
 (some true)
 (ag (yw.2 != 0)
 (some true)
 (ag (An.2 != 0)
 (some true)
 (ag (Di.2 != 0)
 (some true)
 (some (Dj.2 != 0)))))))))))):Option Bool)).bind (λ (FG:Bool) =>
 ag FG
 (some false)
 ((((ag (De.1 != 40)
 (some true)
 (ag (Df.1 != 0)
 (some true)
 (ag (Dg.1 != 3)
 (some true)
 ((G6 Dh.1 [9,10]).bind λ Pg =>
 ag (!Pg)
 (some true)
 ((QK 20 40).bind λ Ap =>
 ag (!(Hi rq.1 Ap == true))
 (some true)
 (ag (vV.1 != 1)
 (some true)
 (ag (Am.1 != 2)
 (some true)
 (ag (yw.1 != 0)
 (some true)
 (ag (!An.1)
 (some true)
 (ag (Di.1 != 0)
 (some true)
 (some (Dj.1 != 1)))))))))))):Option Bool)).bind (λ (FH:Bool) =>
 ag FH
 (some false)
 ((QE eM).bind λ Dk =>
 (QE iy).bind λ Dl =>
 (Z7 iy).bind λ vW =>
 (Z8 iy).bind λ ry =>
 (Z9 iy).bind λ vX =>
 (QG eM).bind λ Dm =>
 (c59 eM).bind λ oB =>
 (c50 iy 12 15).bind λ px =>
 (QG px.1).bind λ Gc =>
 (QH iy (⟨0,8,true⟩:cz)).bind λ Kw =>
 (c54 Kw).bind λ Dn =>
 (((ag (Dk.2 != 0)
 (some true)
 (ag (Dl.2 != 0)
 (some true)
 (ag (vW.2.2 != 0)
 (some true)
 (ag (ry.2.2.2 != 0)
 (some true)
 (ag (vX.2.2 != 0)
 (some true)
 (ag (Dm.2 != 0)
 (some true)
 (ag (oB.2.2.2 != 0)
 (some true)
 (ag (px.2 != 0)
 (some true)
 (ag (Gc.2 != 0)
 (some true)
 (some (Dn.2 != 0))))))))))):Option Bool)).bind (λ (FI:Bool) =>
 ag FI
 (some false)
 ((((ag (Dk.1 != 0)
 (some true)
 (ag (Dl.1 != 2)
 (some true)
 (ag (!vW.2.1)
 (some true)
 ((LA vW.1 ([[0,1],[0],[0]])).bind λ Pl =>
 ag (!Pl)
 (some true)
 (ag (!ry.2.2.1)
 (some true)
 (ag (ry.2.1 != 50)
 (some true)
 ((LA ry.1 ([[0,1],[0],[1]])).bind λ Dq =>
 ag (!Dq)
 (some true)
 (ag (!vX.2.1)
 (some true)
 ((G6 vX.1 [0,1]).bind λ Pn =>
 ag (!Pn)
 (some true)
 ((G6 Dm.1 [2]).bind λ Po =>
 some (!Po))))))))))):Option Bool)).bind (λ (FJ:Bool) =>
 ag FJ
 (some false)
 (ag (oB.1 == 0)
 (ag (oB.2.1 == 9)
 (ag (oB.2.2.1 == 2)
 (ag ((Gc.1.length:Int) == 0)
 ((G6 Dn.1 [1]).bind λ Pp =>
 ag Pp
 (ag ((px.1.Rows.length:Int) == 3)
 ((idx px.1.Rows 1).bind λ Ge =>
 ag (AT Ge (⟨12,15⟩:da) == true)
 ((idx px.1.Rows 2).bind λ Kx =>
 some (AT Kx (⟨20,15⟩:da) == true))
 (some false))
 (some false))
 (some false))
 (some false))
 (some false))
 (some false))
 (some false)))))))))
theorem ayw  : af (Z0 ) (Cj ):=by
 unfold Z0 Cj
 with_reducible repeat' first | exact af.refl _ | refine af.ag ?_ ?_ | exact ayx _ | exact ayy _ _ | exact ayF _ _ | exact ayG _ _ _ | exact ayH _ _ | exact ayI _ | exact ayJ _ | exact ayL _ | exact ayM _ | exact ayN _ | exact ayO _ _ | exact ayP _ _ | exact acM _ _ | exact ayQ _ _ _ | exact ayR _ | exact ayT _ | exact ayU _ _ _ | exact ayV | exact ayW _ _ | exact ayX _ _ | exact hy _ _ | refine af.bind ?_ λ _=>?_
def d135(x0:Int)(x1:Int):{c // af c (B8 x0 x1)}:=⟨_,by
 unfold B8
 with_reducible repeat' first | intro _ | apply af.loop | apply af.ag | apply af.bind | exact af.refl _⟩
abbrev Qu(x0:Int)(x1:Int):=(d135 x0 x1).1
theorem aym(x0:Int)(x1:Int):af (Qu x0 x1) (B8 x0 x1):=(d135 x0 x1).2
def d58(x0:(List Int))(x1:(List Int)):{c // af c (zH x0 x1)}:=⟨_,by
 unfold zH
 with_reducible repeat' first | intro _ | apply (d102 _ _).2 | apply af.ag | apply af.bind | exact af.refl _⟩
abbrev c58(x0:(List Int))(x1:(List Int)):=(d58 x0 x1).1
theorem ayS(x0:(List Int))(x1:(List Int)):af (c58 x0 x1) (zH x0 x1):=(d58 x0 x1).2
theorem aDa:Cj=some true:=ayw _ (by decide +kernel)
end
end Go.Proofs.YtihapemckcdicaaGreatDoor
