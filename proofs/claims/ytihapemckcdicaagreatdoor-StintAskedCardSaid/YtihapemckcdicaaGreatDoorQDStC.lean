/- The chapter's examples, by reckoning. Conditions: none. -/
import Derived.Test.YtihapemckcdicaaGreatDoorQDStM
import Derived.Test.YtihapemckcdicaaGreatDoorQDLgC
namespace Go.Proofs.YtihapemckcdicaaGreatDoor
open Go.Lg Go.Proofs
noncomputable section
set_option maxRecDepth 100000
set_option maxHeartbeats 4000000
def d139(x0:Int)(x1:Int)(x2:Int):{c // af c (jE x0 x1 x2)}:=⟨_,by
 unfold jE
 with_reducible repeat' first | intro _ | apply af.ag | apply af.bind | exact af.refl _⟩
def agl(x0:ByteArray):Option Bool:=Lf x0
theorem asP(x0:ByteArray):af (agl x0) (Lf x0):=af.refl _
def Oh(x0:b9)(x1:(br→Option Bool)):Option Int :=
 (po (O:=Int) (λ (iW:(Int × Int)) =>
 ag (decide (iW.2 < (x0.eS.length:Int)))
 ((idx x0.eS iW.2).bind λ mA =>
 (x1 mA).bind λ qE =>
 ag qE
 (some (.inl (i64 (iW.1+1),i64 (iW.2+1))))
 (some (.inl (iW.1,i64 (iW.2+1)))))
 (some (.inr iW.1))) (0,0)).bind (λ (wy:Int) =>
 some wy)
theorem KY(x0:b9){x1 fM:(br→Option Bool)}(gv:∀ y,af (x1 y) (fM y)):af (Oh x0 x1) (uH x0 fM):=by
 unfold Oh uH
 with_reducible repeat' first | exact af.refl _ | refine af.loop λ _=>?_ | refine af.ag ?_ ?_ | exact gv _ | exact hy _ _ | refine af.bind ?_ λ _=>?_
def d104(x0:au)(x1:Int):{c // af c (xj x0 x1)}:=⟨_,by
 unfold xj
 with_reducible repeat' first | intro _ | apply af.loop | apply af.ag | apply af.elim | apply af.bind | exact af.refl _⟩
def d111(x0:au)(x1:br)(x2:Int)(x3:Int):{c // af c (AK x0 x1 x2 x3)}:=⟨_,by
 unfold AK
 with_reducible repeat' first | intro _ | apply (d104 _ _).2 | apply af.ag | apply af.bind | exact af.refl _⟩
def d172(x0:br)(x1:b9)(x2:Int)(x3:Int):{c // af c (yz x0 x1 x2 x3)}:=⟨_,by
 unfold yz
 with_reducible repeat' first | intro _ | apply (d111 _ _ _ _).2 | apply af.bind | exact af.refl _⟩
abbrev agk(x0:br)(x1:b9)(x2:Int)(x3:Int):=(d172 x0 x1 x2 x3).1
theorem asG(x0:br)(x1:b9)(x2:Int)(x3:Int):af (agk x0 x1 x2 x3) (yz x0 x1 x2 x3):=(d172 x0 x1 x2 x3).2
def ZI(x0:b9)(i k:Nat):Option Bool:=(Oh x0 (λ y=>agk y x0 (k:Int) (i:Int))).bind λ n=>some (n == (x0.eS.length:Int))
def W6(x0:b9):Option (List Bool) :=
 if (0 < x0.book.aN.length∧x0.book.aN.length≤4)∧(0 < x0.book.aH.length∧x0.book.aH.length≤4) then
  (((List.range 16).mapM λ (p:Nat)=>if p / 4 < x0.book.aN.length∧p % 4 < x0.book.aH.length then ZI x0 (p / 4) (p % 4) else some false):Option (List Bool))
 else none
theorem atb(x0:b9)(i k:Nat):af (ZI x0 i k) (qX x0 i k):=by
 unfold ZI qX
 with_reducible repeat' first | exact af.refl _ | refine af.ag ?_ ?_ | refine af.fB (λ _ _=>?_) _ _ | refine KY _ (λ _=>?_) | exact asG _ _ _ _ | refine af.bind ?_ λ _=>?_
theorem Hj(x0:b9):af (W6 x0) (uI x0):=by
 unfold W6 uI
 split
 ·refine af.mapM (λ p=>?_) _
  split
  ·exact atb _ _ _
  ·exact af.refl _
 ·exact af.none
def d265(x0:au):{c // af c (Dq x0)}:=⟨_,by
 unfold Dq
 with_reducible repeat' first | intro _ | apply (d139 _ _ _).2 | apply af.ag | apply af.bind | exact af.refl _⟩
def d266(x0:au):{c // af c (AS x0)}:=⟨_,by
 unfold AS
 with_reducible repeat' first | intro _ | apply (d139 _ _ _).2 | apply af.loop | apply af.ag | apply af.elim | apply af.bind | exact af.refl _⟩
def Ov(x0:(List Reach))(x1:(Reach→Option Bool)):Option Int :=
 (po (O:=(Unit ⊕ Int)) (λ (cZ:Int) =>
 ag (decide (cZ < (x0.length:Int)))
 ((idx x0 cZ).bind λ jZ =>
 (x1 jZ).bind λ kH =>
 ag kH
 (some (.inr (.inr cZ)))
 (some (.inl (i64 (cZ+1)))))
 (some (.inr (.inl ())))) 0).bind (Sum.elim (λ (_:Unit) =>
 some (-1))
  (λ q=>some q))
theorem asR(x0:(List Reach)){x1 fM:(Reach→Option Bool)}(gv:∀ y,af (x1 y) (fM y)):af (Ov x0 x1) (HL x0 fM):=by
 unfold Ov HL
 with_reducible repeat' first | exact af.refl _ | refine af.loop λ _=>?_ | refine af.ag ?_ ?_ | refine af.elim (λ _=>?_) (λ _=>?_) _ | exact gv _ | exact hy _ _ | refine af.bind ?_ λ _=>?_
def Xl(x0:(List Reach))(x1:(Reach→Option Bool)):Option Bool :=
 (Ov x0 x1).bind λ cG =>
 some (decide (cG ≥ 0))
theorem asO(x0:(List Reach)){x1 fM:(Reach→Option Bool)}(gv:∀ y,af (x1 y) (fM y)):af (Xl x0 x1) (Dr x0 fM):=by
 unfold Xl Dr
 with_reducible repeat' first | exact af.refl _ | refine asR _ (λ _=>?_) | exact gv _ | exact hy _ _ | refine af.bind ?_ λ _=>?_
def d273(x0:Reach)(x1:Int)(x2:Int)(x3:Int):{c // af c (AZ x0 x1 x2 x3)}:=⟨_,by
 unfold AZ
 with_reducible repeat' first | intro _ | apply af.ag | apply af.bind | exact af.refl _⟩
def d272(x0:Reach):{c // af c (AY x0)}:=⟨_,by
 unfold AY
 with_reducible repeat' first | intro _ | apply (d273 _ _ _ _).2 | apply af.bind | exact af.refl _⟩
def d267(x0:au):{c // af c (AT x0)}:=⟨_,by
 unfold AT
 with_reducible repeat' first | intro _ | apply (d139 _ _ _).2 | apply asO | apply (d272 _).2 | apply af.ag | apply af.bind | exact af.refl _⟩
def Ow(x0:(List eQ))(x1:(eQ→Option Bool)):Option Int :=
 (po (O:=(Unit ⊕ Int)) (λ (cZ:Int) =>
 ag (decide (cZ < (x0.length:Int)))
 ((idx x0 cZ).bind λ jZ =>
 (x1 jZ).bind λ kH =>
 ag kH
 (some (.inr (.inr cZ)))
 (some (.inl (i64 (cZ+1)))))
 (some (.inr (.inl ())))) 0).bind (Sum.elim (λ (_:Unit) =>
 some (-1))
  (λ q=>some q))
theorem asS(x0:(List eQ)){x1 fM:(eQ→Option Bool)}(gv:∀ y,af (x1 y) (fM y)):af (Ow x0 x1) (HM x0 fM):=by
 unfold Ow HM
 with_reducible repeat' first | exact af.refl _ | refine af.loop λ _=>?_ | refine af.ag ?_ ?_ | refine af.elim (λ _=>?_) (λ _=>?_) _ | exact gv _ | exact hy _ _ | refine af.bind ?_ λ _=>?_
def Xm(x0:(List eQ))(x1:(eQ→Option Bool)):Option Bool :=
 (Ow x0 x1).bind λ cG =>
 some (decide (cG ≥ 0))
theorem asQ(x0:(List eQ)){x1 fM:(eQ→Option Bool)}(gv:∀ y,af (x1 y) (fM y)):af (Xm x0 x1) (Ds x0 fM):=by
 unfold Xm Ds
 with_reducible repeat' first | exact af.refl _ | refine asS _ (λ _=>?_) | exact gv _ | exact hy _ _ | refine af.bind ?_ λ _=>?_
def d276(x0:eQ)(x1:eQ):{c // af c (A0 x0 x1)}:=⟨_,by
 unfold A0
 with_reducible repeat' first | intro _ | apply af.bind | exact af.refl _⟩
def d268(x0:au):{c // af c (AU x0)}:=⟨_,by
 unfold AU
 with_reducible repeat' first | intro _ | apply (d139 _ _ _).2 | apply asP | apply asQ | apply (d276 _ _).2 | apply af.loop | apply af.ag | apply af.elim | apply af.bind | exact af.refl _⟩
def d107(x0:Int)(x1:Int):{c // af c (oB x0 x1)}:=⟨_,by
 unfold oB
 with_reducible repeat' first | intro _ | apply (d139 _ _ _).2 | apply af.ag | apply af.bind | exact af.refl _⟩
abbrev W3(x0:Int)(x1:Int):=(d107 x0 x1).1
theorem ass(x0:Int)(x1:Int):af (W3 x0 x1) (oB x0 x1):=(d107 x0 x1).2
def d269(x0:au):{c // af c (AV x0)}:=⟨_,by
 unfold AV
 with_reducible repeat' first | intro _ | apply (d107 _ _).2 | apply (d139 _ _ _).2 | apply af.loop | apply af.ag | apply af.elim | apply af.bind | exact af.refl _⟩
def d270(x0:au):{c // af c (AX x0)}:=⟨_,by
 unfold AX
 with_reducible repeat' first | intro _ | apply (d107 _ _).2 | apply (d139 _ _ _).2 | apply af.loop | apply af.ag | apply af.elim | apply af.bind | exact af.refl _⟩
def d82(x0:au):{c // af c (nR x0)}:=⟨_,by
 unfold nR
 with_reducible repeat' first | intro _ | apply (d265 _).2 | apply (d266 _).2 | apply (d267 _).2 | apply (d268 _).2 | apply (d269 _).2 | apply (d270 _).2 | apply af.ag | apply af.bind | exact af.refl _⟩
abbrev OG(x0:au):=(d82 x0).1
theorem ZT(x0:au):af (OG x0) (nR x0):=(d82 x0).2
def On (x1:(br→((List br) ⊕ Empty)→Option (((List br) ⊕ Empty) × Bool))→((List br) ⊕ Empty)→Option ((List br) ⊕ Empty)):Option (List br) :=
 (x1 (fB (λ (qy:br) (jJ:(List br))=>(((gb jJ [qy]).bind λ gy =>
 some (.inl gy)):Option ((List br) ⊕ Empty)))) (.inl [])).bind (Sum.elim (λ (jJ:(List br)) =>
 some jJ)
  (λ (o:Empty)=>o.elim))
theorem asC{x1 fM:(br→((List br) ⊕ Empty)→Option (((List br) ⊕ Empty) × Bool))→((List br) ⊕ Empty)→Option ((List br) ⊕ Empty)}(gv:∀ ys j0,(∀ y s,af (ys y s) (j0 y s))→∀ s,af (x1 ys s) (fM j0 s)):af (On x1) (Ev fM):=by
 unfold On Ev
 with_reducible repeat' first | exact af.refl _ | refine af.elim (λ _=>?_) (λ _=>?_) _ | refine af.fB (λ _ _=>?_) _ _ | refine gv _ _ (λ _ _=>?_) _ | exact gv | exact hy _ _ | refine af.bind ?_ λ _=>?_
def JD (x0:(br→((List br) ⊕ Empty)→Option (((List br) ⊕ Empty) × Bool))→((List br) ⊕ Empty)→Option ((List br) ⊕ Empty)):Option (List br) :=
 (On x0).bind λ cG =>
 some cG
theorem SY{x0 yX:(br→((List br) ⊕ Empty)→Option (((List br) ⊕ Empty) × Bool))→((List br) ⊕ Empty)→Option ((List br) ⊕ Empty)}(Ap:∀ ys j0,(∀ y s,af (ys y s) (j0 y s))→∀ s,af (x0 ys s) (yX j0 s)):af (JD x0) (xu yX):=by
 unfold JD xu
 with_reducible repeat' first | exact af.refl _ | refine asC (λ _ _ hy _=>?_) | refine Ap _ _ (λ _ _=>?_) _ | exact Ap | exact hy _ _ | refine af.bind ?_ λ _=>?_
def Ou(x0:(List c9))(x1:(c9→Option Bool)):Option Int :=
 (po (O:=(Unit ⊕ Int)) (λ (cZ:Int) =>
 ag (decide (cZ < (x0.length:Int)))
 ((idx x0 cZ).bind λ jZ =>
 (x1 jZ).bind λ kH =>
 ag kH
 (some (.inr (.inr cZ)))
 (some (.inl (i64 (cZ+1)))))
 (some (.inr (.inl ())))) 0).bind (Sum.elim (λ (_:Unit) =>
 some (-1))
  (λ q=>some q))
theorem asJ(x0:(List c9)){x1 fM:(c9→Option Bool)}(gv:∀ y,af (x1 y) (fM y)):af (Ou x0 x1) (HH x0 fM):=by
 unfold Ou HH
 with_reducible repeat' first | exact af.refl _ | refine af.loop λ _=>?_ | refine af.ag ?_ ?_ | refine af.elim (λ _=>?_) (λ _=>?_) _ | exact gv _ | exact hy _ _ | refine af.bind ?_ λ _=>?_
def Xg(x0:(List c9))(x1:(c9→Option Bool)):Option Bool :=
 (Ou x0 x1).bind λ cG =>
 some (decide (cG ≥ 0))
theorem asI(x0:(List c9)){x1 fM:(c9→Option Bool)}(gv:∀ y,af (x1 y) (fM y)):af (Xg x0 x1) (Dl x0 fM):=by
 unfold Xg Dl
 with_reducible repeat' first | exact af.refl _ | refine asJ _ (λ _=>?_) | exact gv _ | exact hy _ _ | refine af.bind ?_ λ _=>?_
def d187(x0:c9)(x1:br):{c // af c (AQ x0 x1)}:=⟨_,by
 unfold AQ
 with_reducible repeat' first | intro _ | apply af.bind | exact af.refl _⟩
def d162(x0:au)(x1:br):{c // af c (yy x0 x1)}:=⟨_,by
 unfold yy
 with_reducible repeat' first | intro _ | apply asI | apply (d187 _ _).2 | apply af.bind | exact af.refl _⟩
abbrev Xc(x0:au)(x1:br):=(d162 x0 x1).1
theorem asD(x0:au)(x1:br):af (Xc x0 x1) (yy x0 x1):=(d162 x0 x1).2
def Jz{S:Type}(ys:br→S→Option (S × Bool)):Nat→Int→au→br→S→Option (S × (br × Bool))
 | 0,_,_,_,_=>none
 | k+1,x0,x1,x2,s0 =>
  ag (x0 == (x1.aQ.length:Int))
  (((((Xc x1 x2).bind λ dE =>
  ag (!dE)
  (some (s0,true))
  ((ys x2 s0).bind λ gZ =>
  some (gZ.1,gZ.2))):Option (S × Bool))).bind (λ (wo:(S × Bool)) =>
  some (wo.1,(x2,wo.2))))
  ((idx x1.aQ x0).bind λ bP =>
  (po (O:=((S × (List Int)) ⊕ (S × (br × Bool)))) (λ (bR:(S × Int × (List Int))) =>
  (idx x1.aQ x0).bind λ eN =>
  ag (decide (bR.2.1≤eN.dm))
  ((idx bR.2.2 x0).bind λ _ =>
  (Jz ys k (i64 (x0+1)) x1 (⟨bR.2.2.set x0.toNat bR.2.1⟩:br) bR.1).bind λ gI =>
  ag (!gI.2.2)
  (some (.inr (.inr (gI.1,(gI.2.1,false)))))
  (some (.inl (gI.1,i64 (bR.2.1+1),gI.2.1.deep))))
  (some (.inr (.inl (bR.1,bR.2.2))))) (s0,bP.cH,x2.deep)).bind (Sum.elim (λ (m6:(S × (List Int))) =>
  some (m6.1,((⟨m6.2⟩:br),true)))
   (λ q=>some q)))
theorem ZQ{S:Type}{ys j0:br→S→Option (S × Bool)}(h:∀ y s,af (ys y s) (j0 y s)):∀ k x0 x1 x2 s0,af (Jz ys k x0 x1 x2 s0) (qe j0 k x0 x1 x2 s0)
 | 0,_,_,_,_=>af.none
 | k+1,x0,x1,x2,s0=>by
  have ih:=ZQ h k
  rw [Jz,qe]
  with_reducible repeat' first | exact af.refl _ | refine af.loop λ _=>?_ | refine af.ag ?_ ?_ | refine af.elim (λ _=>?_) (λ _=>?_) _ | exact asD _ _ | exact h _ _ | exact ih _ _ _ _ | refine af.bind ?_ λ _=>?_
def JE{S:Type}(ys:br→S→Option (S × Bool))(x0:au)(s0:S):Option S :=
 (Jz ys 9 0 x0 (⟨[0,0,0]⟩:br) s0).bind λ lP =>
  some lP.1
theorem K0{S:Type}{ys j0:br→S→Option (S × Bool)}(h:∀ y s,af (ys y s) (j0 y s))(x0:au)(s0:S):af (JE ys x0 s0) (nq j0 x0 s0):=by
 unfold JE nq
 with_reducible repeat' first | exact af.refl _ | refine ZQ (λ _ _=>?_) _ _ _ _ _ | exact h _ _ | refine af.bind ?_ λ _=>?_
def d23(x0:au):{c // af c (oV x0)}:=⟨_,by
 unfold oV
 with_reducible repeat' first | intro _ | apply (d82 _).2 | apply SY | apply K0 | apply af.ag | apply af.bind | exact af.refl _ | exact ‹∀ _ _,af _ _› _ _⟩
abbrev Xi(x0:au):=(d23 x0).1
theorem asL(x0:au):af (Xi x0) (oV x0):=(d23 x0).2
def Xv(x0:au)(x1:(au→Option Int)):Option (b9 × Int) :=
 (OG x0).bind λ fF =>
 ag (fF != 0)
 (some ((⟨⟨0,[],[],[],[],[]⟩,[]⟩:b9),fF))
 ((x1 x0).bind λ fu =>
 ag (fu != 0)
 (some ((⟨⟨0,[],[],[],[],[]⟩,[]⟩:b9),fu))
 ((JD (λ y s=>JE y x0 s)).bind λ jb =>
 ag ((jb.length:Int) == 0)
 (some ((⟨⟨0,[],[],[],[],[]⟩,[]⟩:b9),9))
 (some ((⟨⟨x0.Rest,x0.Rows,x0.aQ,x0.aH,x0.aN,x0.aY⟩,jb⟩:b9),0))))
theorem v9(x0:au){x1 fM:(au→Option Int)}(gv:∀ y,af (x1 y) (fM y)):af (Xv x0 x1) (pE x0 fM):=by
 unfold Xv pE
 with_reducible repeat' first | exact af.refl _ | refine af.ag ?_ ?_ | exact ZT _ | refine SY (λ _ _ hy _=>?_) | refine K0 (λ _ _=>?_) _ _ | exact gv _ | exact hy _ _ | refine af.bind ?_ λ _=>?_
def d163(x0:au)(x1:Int):{c // af c (q8 x0 x1)}:=⟨_,by
 unfold q8
 with_reducible repeat' first | intro _ | apply (d107 _ _).2 | apply af.bind | exact af.refl _⟩
def d95(x0:Int):{c // af c (DC x0)}:=⟨_,by
 unfold DC
 with_reducible repeat' first | intro _ | apply af.bind | exact af.refl _⟩
def d235(x0:Int):{c // af c (yA x0)}:=⟨_,by
 unfold yA
 with_reducible repeat' first | intro _ | apply af.bind | exact af.refl _⟩
def d221(x0:Int)(x1:Int):{c // af c (HJ x0 x1)}:=⟨_,by
 unfold HJ
 with_reducible repeat' first | intro _ | apply (d235 _).2 | apply af.ag | apply af.bind | exact af.refl _⟩
def d215(x0:(List Int))(x1:Int)(x2:Int):{c // af c (HI x0 x1 x2)}:=⟨_,by
 unfold HI
 with_reducible repeat' first | intro _ | apply (d221 _ _).2 | apply af.loop | apply af.ag | apply af.bind | exact af.refl _⟩
def d225(x0:Int):{c // af c (HK x0)}:=⟨_,by
 unfold HK
 with_reducible repeat' first | intro _ | apply af.ag | apply af.bind | exact af.refl _⟩
def d189(x0:Int):{c // af c (HF x0)}:=⟨_,by
 unfold HF
 with_reducible repeat' first | intro _ | apply (d225 _).2 | apply af.bind | exact af.refl _⟩
def d188(x0:(List Int))(x1:Int)(x2:Int)(x3:Int):{c // af c (HE x0 x1 x2 x3)}:=⟨_,by
 unfold HE
 with_reducible repeat' first | intro _ | apply (d215 _ _ _).2 | apply af.loop | apply af.ag | apply af.bind | exact af.refl _⟩
def d164(x0:(List Int)):{c // af c (Df x0)}:=⟨_,by
 unfold Df
 with_reducible repeat' first | intro _ | apply (d188 _ _ _ _).2 | apply (d189 _).2 | apply af.bind | exact af.refl _⟩
abbrev Xd(x0:(List Int)):=(d164 x0).1
theorem asE(x0:(List Int)):af (Xd x0) (Df x0):=(d164 x0).2
def d165(x0:(List Int)):{c // af c (Dg x0)}:=⟨_,by
 unfold Dg
 with_reducible repeat' first | intro _ | apply af.loop | apply af.ag | apply af.elim | apply af.bind | exact af.refl _⟩
abbrev Xe(x0:(List Int)):=(d165 x0).1
theorem asF(x0:(List Int)):af (Xe x0) (Dg x0):=(d165 x0).2
def Xw(x0:b9)(x1:(br→Option Int)):Option (List Int) :=
 (po (O:=(List Int)) (λ (oK:((List Int) × Int)) =>
 ag (decide (oK.2 < (x0.eS.length:Int)))
 ((idx x0.eS oK.2).bind λ mr =>
 (x1 mr).bind λ xg =>
 (gb oK.1 [xg]).bind λ oT =>
 some (.inl (oT,i64 (oK.2+1))))
 (some (.inr oK.1))) ([],0)).bind (λ (ri:(List Int)) =>
 (Xd ri).bind λ tp =>
 (Xe tp).bind λ nm =>
 some nm)
theorem ZU(x0:b9){x1 fM:(br→Option Int)}(gv:∀ y,af (x1 y) (fM y)):af (Xw x0 x1) (DD x0 fM):=by
 unfold Xw DD
 with_reducible repeat' first | exact af.refl _ | refine af.loop λ _=>?_ | refine af.ag ?_ ?_ | exact asE _ | exact asF _ | exact gv _ | exact hy _ _ | refine af.bind ?_ λ _=>?_
def d97(x0:br)(x1:Int):{c // af c (DF x0 x1)}:=⟨_,by
 unfold DF
 with_reducible repeat' first | intro _ | apply af.bind | exact af.refl _⟩
def d25(x0:au)(x1:Int):{c // af c (Dp x0 x1)}:=⟨_,by
 unfold Dp
 with_reducible repeat' first | intro _ | apply v9 | apply (d95 _).2 | apply ZU | apply (d97 _ _).2 | apply (d163 _ _).2 | apply af.ag | apply af.bind | exact af.refl _⟩
abbrev Xj(x0:au)(x1:Int):=(d25 x0 x1).1
theorem asM(x0:au)(x1:Int):af (Xj x0 x1) (Dp x0 x1):=(d25 x0 x1).2
def d103(x0:br)(x1:b9)(x2:Int):{c // af c (C5 x0 x1 x2)}:=⟨_,by
 unfold C5
 with_reducible repeat' first | intro _ | apply (d104 _ _).2 | apply af.bind | exact af.refl _⟩
def d28(x0:au)(x1:Int):{c // af c (Dt x0 x1)}:=⟨_,by
 unfold Dt
 with_reducible repeat' first | intro _ | apply v9 | apply (d95 _).2 | apply ZU | apply (d103 _ _ _).2 | apply (d163 _ _).2 | apply af.ag | apply af.bind | exact af.refl _⟩
abbrev Xn(x0:au)(x1:Int):=(d28 x0 x1).1
theorem asT(x0:au)(x1:Int):af (Xn x0 x1) (Dt x0 x1):=(d28 x0 x1).2
def d106(x0:au)(x1:Int)(x2:Int):{c // af c (C6 x0 x1 x2)}:=⟨_,by
 unfold C6
 with_reducible repeat' first | intro _ | apply (d107 _ _).2 | apply af.bind | exact af.refl _⟩
def d108(x0:b9)(x1:Int):{c // af c (AJ x0 x1)}:=⟨_,by
 unfold AJ
 with_reducible repeat' first | intro _ | apply af.ag | apply af.bind | exact af.refl _⟩
abbrev W4(x0:b9)(x1:Int):=(d108 x0 x1).1
theorem ast(x0:b9)(x1:Int):af (W4 x0 x1) (AJ x0 x1):=(d108 x0 x1).2
def d110(x0:br)(x1:b9)(x2:Int)(x3:Int):{c // af c (C7 x0 x1 x2 x3)}:=⟨_,by
 unfold C7
 with_reducible repeat' first | intro _ | apply (d111 _ _ _ _).2 | apply af.bind | exact af.refl _⟩
def d30(x0:au)(x1:Int)(x2:Int):{c // af c (yB x0 x1 x2)}:=⟨_,by
 unfold yB
 with_reducible repeat' first | intro _ | apply v9 | apply (d106 _ _ _).2 | apply (d108 _ _).2 | apply KY | apply (d110 _ _ _ _).2 | apply af.ag | apply af.bind | exact af.refl _⟩
abbrev JA(x0:au)(x1:Int)(x2:Int):=(d30 x0 x1 x2).1
theorem asU(x0:au)(x1:Int)(x2:Int):af (JA x0 x1 x2) (yB x0 x1 x2):=(d30 x0 x1 x2).2
def d132(x0:(List Int)):{c // af c (AO x0)}:=⟨_,by
 unfold AO
 with_reducible repeat' first | intro _ | apply af.loop | apply af.ag | apply af.bind | exact af.refl _⟩
abbrev Xa(x0:(List Int)):=(d132 x0).1
theorem asA(x0:(List Int)):af (Xa x0) (AO x0):=(d132 x0).2
def Ol(x0:au)(x1:(List (List Int))):Option ((List Bool) × Int) :=
 ag ((x1.length:Int) != (x0.aN.length:Int))
 (some ([false,false,false,false,false,false,false,false,false,false,false,false,false,false,false,false],2))
 ((po (O:=((List Bool) ⊕ ((List Bool) × Int))) (λ (fY:(Int × (List Bool))) =>
 ag (decide (fY.1 < (x1.length:Int)))
 ((idx x1 fY.1).bind λ oR =>
 (idx x0.aN fY.1).bind λ MJ =>
 ag ((oR.length:Int) != MJ.aH)
 (some (.inr (.inr ([false,false,false,false,false,false,false,false,false,false,false,false,false,false,false,false],2))))
 ((po (O:=(Unit ⊕ ((List Bool) × Int))) (λ (oJ:Int) =>
 ag (decide (oJ < (oR.length:Int)))
 ((idx oR oJ).bind λ BO =>
 (W3 BO (x0.aH.length:Int)).bind λ El =>
 ag (El != 0)
 (some (.inr (.inr ([false,false,false,false,false,false,false,false,false,false,false,false,false,false,false,false],El))))
 ((((ag (decide (oJ > 0))
 ((idx oR (i64 (oJ - 1))).bind λ MK =>
 some (decide (BO≤MK)))
 (some false)):Option Bool)).bind (λ (DX:Bool) =>
 ag DX
 (some (.inr (.inr ([false,false,false,false,false,false,false,false,false,false,false,false,false,false,false,false],7))))
 (some (.inl (i64 (oJ+1)))))))
 (some (.inr (.inl ())))) 0).bind (Sum.elim (λ (_:Unit) =>
 (Xa oR).bind λ ML =>
 (iD 4 fY.2 fY.1).bind λ _ =>
 some (.inl (i64 (fY.1+1),D6 4 fY.2 fY.1 ML)))
  (λ q=>some (.inr (.inr q))))))
 (some (.inr (.inl fY.2)))) (0,[false,false,false,false,false,false,false,false,false,false,false,false,false,false,false,false])).bind (Sum.elim (λ (Bg:(List Bool)) =>
 some (Bg,0))
  (λ q=>some q)))
theorem asw(x0:au)(x1:(List (List Int))):af (Ol x0 x1) (Hu x0 x1):=by
 unfold Ol Hu
 with_reducible repeat' first | exact af.refl _ | refine af.loop λ _=>?_ | refine af.ag ?_ ?_ | refine af.elim (λ _=>?_) (λ _=>?_) _ | exact ass _ _ | exact asA _ | exact hy _ _ | refine af.bind ?_ λ _=>?_
def Oj(x0:au)(x1:(List (List Int)))(_:(List Bool)):Option ((List Bool) × Int) :=
 (Ol x0 x1).bind λ eG =>
 some (eG.1,eG.2)
theorem asv(x0:au)(x1:(List (List Int)))(x2:(List Bool)):af (Oj x0 x1 x2) (Ht x0 x1 x2):=by
 unfold Oj Ht
 with_reducible repeat' first | exact af.refl _ | exact asw _ _ | exact hy _ _ | refine af.bind ?_ λ _=>?_
def d149(x0:au)(x1:Int)(x2:Int):{c // af c (BV x0 x1 x2)}:=⟨_,by
 unfold BV
 with_reducible repeat' first | intro _ | apply af.ag | apply af.bind | exact af.refl _⟩
def d117(x0:au)(x1:(List Bool))(x2:Int):{c // af c (AL x0 x1 x2)}:=⟨_,by
 unfold AL
 with_reducible repeat' first | intro _ | apply (d149 _ _ _).2 | apply af.loop | apply af.ag | apply af.elim | apply af.bind | exact af.refl _⟩
abbrev Om(x0:au)(x1:(List Bool))(x2:Int):=(d117 x0 x1 x2).1
theorem SW(x0:au)(x1:(List Bool))(x2:Int):af (Om x0 x1 x2) (AL x0 x1 x2):=(d117 x0 x1 x2).2
def d118(x0:br)(x1:au)(x2:(List Bool))(x3:b9):{c // af c (AM x0 x1 x2 x3)}:=⟨_,by
 unfold AM
 with_reducible repeat' first | intro _ | apply (d111 _ _ _ _).2 | apply af.loop | apply af.ag | apply af.elim | apply af.bind | exact af.refl _⟩
abbrev W5(x0:br)(x1:au)(x2:(List Bool))(x3:b9):=(d118 x0 x1 x2 x3).1
theorem asx(x0:br)(x1:au)(x2:(List Bool))(x3:b9):af (W5 x0 x1 x2 x3) (AM x0 x1 x2 x3):=(d118 x0 x1 x2 x3).2
def Oi(x0:au)(uV:(List (List Int)))(qu:(List Bool)):Option ((List Bool) × b9 × Int) :=
 (OG x0).bind λ fF =>
 ag (fF != 0)
 (some (qu,(⟨⟨0,[],[],[],[],[]⟩,[]⟩:b9),fF))
 ((Oj x0 uV qu).bind λ fu =>
 ag (fu.2 != 0)
 (some (fu.1,(⟨⟨0,[],[],[],[],[]⟩,[]⟩:b9),fu.2))
 ((JD (λ y s=>JE y x0 s)).bind λ jb =>
 ag ((jb.length:Int) == 0)
 (some (fu.1,(⟨⟨0,[],[],[],[],[]⟩,[]⟩:b9),9))
 (some (fu.1,(⟨⟨x0.Rest,x0.Rows,x0.aQ,x0.aH,x0.aN,x0.aY⟩,jb⟩:b9),0))))
theorem asu(x0:au)(uV:(List (List Int)))(qu:(List Bool)):af (Oi x0 uV qu) (Hr x0 uV qu):=by
 unfold Oi Hr
 with_reducible repeat' first | exact af.refl _ | refine af.ag ?_ ?_ | exact ZT _ | refine SY (λ _ _ hy _=>?_) | refine K0 (λ _ _=>?_) _ _ | exact asv _ _ _ | exact hy _ _ | refine af.bind ?_ λ _=>?_
def JB(x0:au)(x1:(List (List Int))):Option (Int × Int) :=
 (Oi x0 x1 [false,false,false,false,false,false,false,false,false,false,false,false,false,false,false,false]).bind λ eN =>
 ag (eN.2.2 != 0)
 (some (0,eN.2.2))
 ((po (O:=(Unit ⊕ (Int × Int))) (λ (s5:Int) =>
 ag (decide (s5 < (x0.aN.length:Int)))
 ((Om eN.2.1.book eN.1 s5).bind λ lQ =>
 ag (!lQ)
 (some (.inr (.inr (2,0))))
 (some (.inl (i64 (s5+1)))))
 (some (.inr (.inl ())))) 0).bind (Sum.elim (λ (_:Unit) =>
 (Oh eN.2.1 (λ y=>W5 y x0 eN.1 eN.2.1)).bind λ mr =>
 (W4 eN.2.1 mr).bind λ MS =>
 some (MS,0))
  (λ q=>some q)))
theorem asV(x0:au)(x1:(List (List Int))):af (JB x0 x1) (m32 x0 x1):=by
 unfold JB m32
 with_reducible repeat' first | exact af.refl _ | refine af.loop λ _=>?_ | refine af.ag ?_ ?_ | refine af.elim (λ _=>?_) (λ _=>?_) _ | exact ast _ _ | refine KY _ (λ _=>?_) | exact SW _ _ _ | exact asx _ _ _ _ | exact asu _ _ _ | exact hy _ _ | refine af.bind ?_ λ _=>?_
def d121(x0:au):{c // af c (nQ x0)}:=⟨_,by
 unfold nQ
 with_reducible repeat' first | intro _ | apply af.bind | exact af.refl _⟩
def xL{S:Type}(ys:(List Bool)→S→Option (S × Bool)):Nat→((List Bool)→Int→b9→Int→(List Bool)→(List Bool)→S→Option (S × Bool)) × ((List Bool)→Int→Int→Int→b9→Int→(List Bool)→(List Bool)→S→Option (S × Bool))
 | 0=>(λ _ _ _ _ _ _ _=>none,λ _ _ _ _ _ _ _ _ _=>none)
 | k+1=>(λ x0 x1 xX xO xG xA s0 =>
  ag (x1 == (xX.book.aN.length:Int))
  ((ys x0 s0).bind λ fE =>
  some (fE.1,fE.2))
  ((lR .i64 xO x1).bind λ dE =>
  (fN .and .i64 dE 1).bind λ iG =>
  ag (iG == 1)
  (((xL ys k).1 x0 (i64 (x1+1)) xX xO xG xA s0).bind λ iH =>
  some (iH.1,iH.2))
  ((idx xX.book.aN x1).bind λ fG =>
  ((xL ys k).2 x0 x1 0 fG.aH xX xO xG xA s0).bind λ eu =>
  some (eu.1,eu.2))),
  λ x0 x1 x2 x3 xX xO xG xA s0 =>
  ag (x3 == 0)
  (((((Om xX.book x0 x1).bind λ iG =>
  ag (!iG)
  (some (s0,true))
  (((xL ys k).1 x0 (i64 (x1+1)) xX xO xG xA s0).bind λ bP =>
  some (bP.1,bP.2))):Option (S × Bool))).bind (λ (wu:(S × Bool)) =>
  some (wu.1,wu.2)))
  ((po (O:=(S ⊕ (S × Bool))) (λ (bR:(S × Int × (List Bool))) =>
  ag (decide (bR.2.1 < (xX.book.aH.length:Int)))
  (((((idx xG bR.2.1).bind λ MU =>
  ag (!MU)
  (some true)
  ((iD 4 xA x1).bind λ u7 =>
  (idx u7 bR.2.1).bind λ BQ =>
  some (!BQ))):Option Bool)).bind (λ (DZ:Bool) =>
  ag DZ
  (some (.inl (bR.1,i64 (bR.2.1+1),bR.2.2)))
  ((iD 4 bR.2.2 x1).bind λ MV =>
  (idx MV bR.2.1).bind λ _ =>
  ((xL ys k).2 (oL 4 bR.2.2 x1 bR.2.1 true) x1 (i64 (bR.2.1+1)) (i64 (x3 - 1)) xX xO xG xA bR.1).bind λ nY =>
  ag (!nY.2)
  (some (.inr (.inr (nY.1,false))))
  ((iD 4 (oL 4 bR.2.2 x1 bR.2.1 true) x1).bind λ xa =>
  (idx xa bR.2.1).bind λ _ =>
  some (.inl (nY.1,i64 (bR.2.1+1),oL 4 (oL 4 bR.2.2 x1 bR.2.1 true) x1 bR.2.1 false))))))
  (some (.inr (.inl bR.1)))) (s0,x2,x0)).bind (Sum.elim (λ (m6:S) =>
  some (m6,true))
   (λ q=>some q))))
theorem ZR{S:Type}{ys j0:(List Bool)→S→Option (S × Bool)}(h:∀ y s,af (ys y s) (j0 y s)):∀ k,(∀ x0 x1 x2 x3 x4 x5 s0,af ((xL ys k).1 x0 x1 x2 x3 x4 x5 s0) ((pq j0 k).1 x0 x1 x2 x3 x4 x5 s0))∧(∀ x0 x1 x2 x3 x4 x5 x6 x7 s0,af ((xL ys k).2 x0 x1 x2 x3 x4 x5 x6 x7 s0) ((pq j0 k).2 x0 x1 x2 x3 x4 x5 x6 x7 s0))
 | 0=>⟨λ _ _ _ _ _ _ _=>af.none,λ _ _ _ _ _ _ _ _ _=>af.none⟩
 | k+1=>by
  have ih:=ZR h k
  have ZF:=ih.1
  have ZG:=ih.2
  rw [xL,pq]
  constructor
  ·intro x0 x1 x2 x3 x4 x5 s0
   dsimp only
   with_reducible repeat' first | exact af.refl _ | refine af.loop λ _=>?_ | refine af.ag ?_ ?_ | refine af.elim (λ _=>?_) (λ _=>?_) _ | exact SW _ _ _ | exact h _ _ | exact ZF _ _ _ _ _ _ _ | exact ZG _ _ _ _ _ _ _ _ _ | refine af.bind ?_ λ _=>?_
  ·intro x0 x1 x2 x3 x4 x5 x6 x7 s0
   dsimp only
   repeat' (first | with_reducible exact af.refl _ | with_reducible refine af.loop λ _=>?_ | with_reducible refine af.ag ?_ ?_ | with_reducible refine af.elim (λ _=>?_) (λ _=>?_) _ | with_reducible refine af.fB (λ _ _=>?_) _ _ | with_reducible exact SW _ _ _ | with_reducible exact h _ _ | with_reducible exact ZF _ _ _ _ _ _ _ | with_reducible exact ZG _ _ _ _ _ _ _ _ _ | with_reducible refine af.bind ?_ λ _=>?_)
def Xf{S:Type}(ys:(List Bool)→S→Option (S × Bool))(x1:b9)(x2:Int)(x3:(List Bool))(x4:(List Bool))(s0:S):Option S :=
 ((xL ys 40).1 [false,false,false,false,false,false,false,false,false,false,false,false,false,false,false,false] 0 x1 x2 x3 x4 s0).bind λ yZ =>
  some yZ.1
theorem KZ{S:Type}{ys j0:(List Bool)→S→Option (S × Bool)}(h:∀ y s,af (ys y s) (j0 y s))(x1:b9)(x2:Int)(x3:(List Bool))(x4:(List Bool))(s0:S):af (Xf ys x1 x2 x3 x4 s0) (q9 j0 x1 x2 x3 x4 s0):=by
 unfold Xf q9
 with_reducible repeat' first | exact af.refl _ | refine (ZR (λ _ _=>?_) 40).1 _ _ _ _ _ _ _ | exact h _ _ | refine af.bind ?_ λ _=>?_
def d122(x0:b9)(x1:(List Bool))(x2:(List Bool))(x3:Int):{c // af c (yx x0 x1 x2 x3)}:=⟨_,by
 unfold yx
 with_reducible repeat' first | intro _ | apply af.bind | exact af.refl _⟩
def d124(x0:au):{c // af c (wb x0)}:=⟨_,by
 unfold wb
 with_reducible repeat' first | intro _ | apply af.loop | apply af.ag | apply af.bind | exact af.refl _⟩
def d34(x0:au):{c // af c (A1 x0)}:=⟨_,by
 unfold A1
 with_reducible repeat' first | intro _ | apply v9 | apply (d121 _).2 | apply (d122 _ _ _ _).2 | apply Hj | apply (d124 _).2 | apply KZ | apply af.ag | apply af.elim | apply af.fB | apply af.bind | exact af.refl _⟩
abbrev OA(x0:au):=(d34 x0).1
theorem asW(x0:au):af (OA x0) (A1 x0):=(d34 x0).2
def d126(x0:au)(x1:(List Bool)):{c // af c (C9 x0 x1)}:=⟨_,by
 unfold C9
 with_reducible repeat' first | intro _ | apply af.loop | apply af.ag | apply af.bind | exact af.refl _⟩
def d36(x0:au):{c // af c (Du x0)}:=⟨_,by
 unfold Du
 with_reducible repeat' first | intro _ | apply v9 | apply (d121 _).2 | apply (d122 _ _ _ _).2 | apply Hj | apply (d124 _).2 | apply (d126 _ _).2 | apply KZ | apply af.ag | apply af.elim | apply af.fB | apply af.bind | exact af.refl _⟩
abbrev Xo(x0:au):=(d36 x0).1
theorem asX(x0:au):af (Xo x0) (Du x0):=(d36 x0).2
def Oo (x1:((List Bool)→((List (List Bool)) ⊕ Empty)→Option (((List (List Bool)) ⊕ Empty) × Bool))→((List (List Bool)) ⊕ Empty)→Option ((List (List Bool)) ⊕ Empty)):Option (List (List Bool)) :=
 (x1 (fB (λ (qy:(List Bool)) (jJ:(List (List Bool)))=>(((gb jJ [qy]).bind λ gy =>
 some (.inl gy)):Option ((List (List Bool)) ⊕ Empty)))) (.inl [])).bind (Sum.elim (λ (jJ:(List (List Bool))) =>
 some jJ)
  (λ (o:Empty)=>o.elim))
theorem asH{x1 fM:((List Bool)→((List (List Bool)) ⊕ Empty)→Option (((List (List Bool)) ⊕ Empty) × Bool))→((List (List Bool)) ⊕ Empty)→Option ((List (List Bool)) ⊕ Empty)}(gv:∀ ys j0,(∀ y s,af (ys y s) (j0 y s))→∀ s,af (x1 ys s) (fM j0 s)):af (Oo x1) (HB fM):=by
 unfold Oo HB
 with_reducible repeat' first | exact af.refl _ | refine af.elim (λ _=>?_) (λ _=>?_) _ | refine af.fB (λ _ _=>?_) _ _ | refine gv _ _ (λ _ _=>?_) _ | exact gv | exact hy _ _ | refine af.bind ?_ λ _=>?_
def W7 (x0:((List Bool)→((List (List Bool)) ⊕ Empty)→Option (((List (List Bool)) ⊕ Empty) × Bool))→((List (List Bool)) ⊕ Empty)→Option ((List (List Bool)) ⊕ Empty)):Option (List (List Bool)) :=
 (Oo x0).bind λ cG =>
 some cG
theorem asy{x0 yX:((List Bool)→((List (List Bool)) ⊕ Empty)→Option (((List (List Bool)) ⊕ Empty) × Bool))→((List (List Bool)) ⊕ Empty)→Option ((List (List Bool)) ⊕ Empty)}(Ap:∀ ys j0,(∀ y s,af (ys y s) (j0 y s))→∀ s,af (x0 ys s) (yX j0 s)):af (W7 x0) (Hv yX):=by
 unfold W7 Hv
 with_reducible repeat' first | exact af.refl _ | refine asH (λ _ _ hy _=>?_) | refine Ap _ _ (λ _ _=>?_) _ | exact Ap | exact hy _ _ | refine af.bind ?_ λ _=>?_
def W8(x0:((List Bool)→Option Int))(x1:(List (List Bool))):Option (List Bool) :=
 (idx x1 0).bind λ mi =>
 (od x1 1 (x1.length:Int)).bind λ tn =>
 (po (O:=(List Bool)) (λ (lL:(Int × (List Bool))) =>
 ag (decide (lL.1 < (tn.length:Int)))
 ((idx tn lL.1).bind λ xv =>
 (x0 xv).bind λ tp =>
 (x0 lL.2).bind λ nm =>
 ag (decide (tp < nm))
 (some (.inl (i64 (lL.1+1),xv)))
 (some (.inl (i64 (lL.1+1),lL.2))))
 (some (.inr lL.2))) (0,mi)).bind (λ (Bh:(List Bool)) =>
 some Bh)
theorem asz{x0 yX:((List Bool)→Option Int)}(Ap:∀ y,af (x0 y) (yX y))(x1:(List (List Bool))):af (W8 x0 x1) (Hw yX x1):=by
 unfold W8 Hw
 with_reducible repeat' first | exact af.refl _ | refine af.loop λ _=>?_ | refine af.ag ?_ ?_ | exact Ap _ | exact hy _ _ | refine af.bind ?_ λ _=>?_
def d129(x0:au)(x1:(List Bool)):{c // af c (AN x0 x1)}:=⟨_,by
 unfold AN
 with_reducible repeat' first | intro _ | apply af.loop | apply af.ag | apply af.bind | exact af.refl _⟩
def d39(x0:au):{c // af c (Dv x0)}:=⟨_,by
 unfold Dv
 with_reducible repeat' first | intro _ | apply v9 | apply (d121 _).2 | apply (d122 _ _ _ _).2 | apply Hj | apply (d124 _).2 | apply (d126 _ _).2 | apply asy | apply asz | apply (d129 _ _).2 | apply KZ | apply af.ag | apply af.bind | exact af.refl _ | exact ‹∀ _ _,af _ _› _ _⟩
abbrev Xp(x0:au):=(d39 x0).1
theorem asZ(x0:au):af (Xp x0) (Dv x0):=(d39 x0).2
def d133(x0:Int):{c // af c (xr x0)}:=⟨_,by
 unfold xr
 with_reducible repeat' first | intro _ | apply af.loop | apply af.ag | apply af.bind | exact af.refl _⟩
abbrev U4(x0:Int):=(d133 x0).1
theorem adW(x0:Int):af (U4 x0) (xr x0):=(d133 x0).2
def d211(x0:Int)(x1:Int):{c // af c (HG x0 x1)}:=⟨_,by
 unfold HG
 with_reducible repeat' first | intro _ | apply (d235 _).2 | apply af.ag | apply af.bind | exact af.refl _⟩
def d178(x0:(List Int))(x1:(List Int)):{c // af c (B1 x0 x1)}:=⟨_,by
 unfold B1
 with_reducible repeat' first | intro _ | apply (d211 _ _).2 | apply af.loop | apply af.ag | apply af.elim | apply af.bind | exact af.refl _⟩
abbrev US(x0:(List Int))(x1:(List Int)):=(d178 x0 x1).1
theorem adX(x0:(List Int))(x1:(List Int)):af (US x0 x1) (B1 x0 x1):=(d178 x0 x1).2
def W9(x0:Int)(x1:(Int→Option Bool)):Option ((List Int) × Bool) :=
 (IF .i64 1 x0).bind λ oT =>
 (po (O:=((List Int) × Bool)) (λ (fa:((List Int) × Bool × Int)) =>
 ag (decide (fa.2.2 < oT))
 ((U4 fa.2.2).bind λ oP =>
 (((ag (!fa.2.1)
 ((x1 fa.2.2).bind λ je =>
 some je)
 (ag (decide ((oP.length:Int) < (fa.1.length:Int)))
 ((x1 fa.2.2).bind λ rH =>
 some rH)
 (ag ((oP.length:Int) == (fa.1.length:Int))
 ((US oP fa.1).bind λ BB =>
 ag (decide (BB < 0))
 ((x1 fa.2.2).bind λ MG =>
 some MG)
 (some false))
 (some false)))):Option Bool)).bind (λ (DO:Bool) =>
 ag DO
 (some (.inl (oP,true,i64 (fa.2.2+1))))
 (some (.inl (fa.1,fa.2.1,i64 (fa.2.2+1))))))
 (some (.inr (fa.1,fa.2.1)))) ([],false,0)).bind (λ (wA:((List Int) × Bool)) =>
 some (wA.1,wA.2))
theorem SX(x0:Int){x1 fM:(Int→Option Bool)}(gv:∀ y,af (x1 y) (fM y)):af (W9 x0 x1) (zb x0 fM):=by
 unfold W9 zb
 with_reducible repeat' first | exact af.refl _ | refine af.loop λ _=>?_ | refine af.ag ?_ ?_ | exact adW _ | exact adX _ _ | exact gv _ | exact hy _ _ | refine af.bind ?_ λ _=>?_
def d134(x0:b9)(x1:(List Bool))(x2:(List Bool))(x3:Int):{c // af c (AP x0 x1 x2 x3)}:=⟨_,by
 unfold AP
 with_reducible repeat' first | intro _ | apply (d122 _ _ _ _).2 | apply KZ | apply af.elim | apply af.fB | apply af.bind | exact af.refl _⟩
def d131(x0:Int)(x1:b9)(x2:(List Bool))(x3:(List Bool)):{c // af c (Da x0 x1 x2 x3)}:=⟨_,by
 unfold Da
 with_reducible repeat' first | intro _ | apply (d132 _).2 | apply (d133 _).2 | apply (d134 _ _ _ _).2 | apply af.ag | apply af.bind | exact af.refl _⟩
def d41(x0:au):{c // af c (Dw x0)}:=⟨_,by
 unfold Dw
 with_reducible repeat' first | intro _ | apply v9 | apply (d121 _).2 | apply Hj | apply (d124 _).2 | apply SX | apply (d131 _ _ _ _).2 | apply af.ag | apply af.bind | exact af.refl _⟩
abbrev Xq(x0:au):=(d41 x0).1
theorem as0(x0:au):af (Xq x0) (Dw x0):=(d41 x0).2
def d138(x0:Int)(x1:b9)(x2:(List Bool))(x3:(List Bool)):{c // af c (Db x0 x1 x2 x3)}:=⟨_,by
 unfold Db
 with_reducible repeat' first | intro _ | apply (d134 _ _ _ _).2 | apply af.bind | exact af.refl _⟩
def d43(x0:au):{c // af c (A3 x0)}:=⟨_,by
 unfold A3
 with_reducible repeat' first | intro _ | apply v9 | apply (d121 _).2 | apply Hj | apply (d124 _).2 | apply SX | apply (d138 _ _ _ _).2 | apply af.ag | apply af.bind | exact af.refl _⟩
abbrev OC(x0:au):=(d43 x0).1
theorem as1(x0:au):af (OC x0) (A3 x0):=(d43 x0).2
def d46(x0:au)(x1:c9):{c // af c (u9 x0 x1)}:=⟨_,by
 unfold u9
 with_reducible repeat' first | intro _ | apply af.bind | exact af.refl _⟩
abbrev OD(x0:au)(x1:c9):=(d46 x0 x1).1
theorem as2(x0:au)(x1:c9):af (OD x0 x1) (u9 x0 x1):=(d46 x0 x1).2
def d48(x0:au)(x1:Int):{c // af c (xk x0 x1)}:=⟨_,by
 unfold xk
 with_reducible repeat' first | intro _ | apply (d82 _).2 | apply (d104 _ _).2 | apply (d139 _ _ _).2 | apply af.ag | apply af.bind | exact af.refl _⟩
abbrev OE(x0:au)(x1:Int):=(d48 x0 x1).1
theorem as3(x0:au)(x1:Int):af (OE x0 x1) (xk x0 x1):=(d48 x0 x1).2
def d49(x0:Int)(x1:Int):{c // af c (A4 x0 x1)}:=⟨_,by
 unfold A4
 with_reducible repeat' first | intro _ | apply af.bind | exact af.refl _⟩
abbrev OF(x0:Int)(x1:Int):=(d49 x0 x1).1
theorem ZS(x0:Int)(x1:Int):af (OF x0 x1) (A4 x0 x1):=(d49 x0 x1).2
def d151(x0:(List c9)):{c // af c (Dc x0)}:=⟨_,by
 unfold Dc
 with_reducible repeat' first | intro _ | apply af.bind | exact af.refl _⟩
def d179(x0:(List fl)):{c // af c (Dh x0)}:=⟨_,by
 unfold Dh
 with_reducible repeat' first | intro _ | apply af.bind | exact af.refl _⟩
def d180(x0:(List Reach)):{c // af c (Di x0)}:=⟨_,by
 unfold Di
 with_reducible repeat' first | intro _ | apply af.bind | exact af.refl _⟩
def d181(x0:(List eQ)):{c // af c (Dj x0)}:=⟨_,by
 unfold Dj
 with_reducible repeat' first | intro _ | apply af.bind | exact af.refl _⟩
def d182(x0:(List lW)):{c // af c (Dk x0)}:=⟨_,by
 unfold Dk
 with_reducible repeat' first | intro _ | apply af.bind | exact af.refl _⟩
def d140(x0:au):{c // af c (Hx x0)}:=⟨_,by
 unfold Hx
 with_reducible repeat' first | intro _ | apply (d151 _).2 | apply (d179 _).2 | apply (d180 _).2 | apply (d181 _).2 | apply (d182 _).2 | apply af.bind | exact af.refl _⟩
def d50(x0:au)(x1:Int)(x2:Int):{c // af c (Dx x0 x1 x2)}:=⟨_,by
 unfold Dx
 with_reducible repeat' first | intro _ | apply (d82 _).2 | apply (d104 _ _).2 | apply (d139 _ _ _).2 | apply (d140 _).2 | apply af.loop | apply af.ag | apply af.bind | exact af.refl _⟩
abbrev Xr(x0:au)(x1:Int)(x2:Int):=(d50 x0 x1 x2).1
theorem as4(x0:au)(x1:Int)(x2:Int):af (Xr x0 x1 x2) (Dx x0 x1 x2):=(d50 x0 x1 x2).2
def d144(x0:au)(x1:Int):{c // af c (Et x0 x1)}:=⟨_,by
 unfold Et
 with_reducible repeat' first | intro _ | apply (d133 _).2 | apply af.loop | apply af.ag | apply af.bind | exact af.refl _⟩
def d145(x0:au):{c // af c (Eu x0)}:=⟨_,by
 unfold Eu
 with_reducible repeat' first | intro _ | apply K0 | apply af.elim | apply af.fB | apply af.bind | exact af.refl _⟩
def d143(x0:Int)(x1:au):{c // af c (B0 x0 x1)}:=⟨_,by
 unfold B0
 with_reducible repeat' first | intro _ | apply (d144 _ _).2 | apply (d145 _).2 | apply af.bind | exact af.refl _⟩
def d54(x0:au):{c // af c (zc x0)}:=⟨_,by
 unfold zc
 with_reducible repeat' first | intro _ | apply (d82 _).2 | apply SX | apply (d143 _ _).2 | apply af.ag | apply af.bind | exact af.refl _⟩
abbrev Xs(x0:au):=(d54 x0).1
theorem as5(x0:au):af (Xs x0) (zc x0):=(d54 x0).2
def d146(x0:br)(x1:Int)(x2:Int):{c // af c (BU x0 x1 x2)}:=⟨_,by
 unfold BU
 with_reducible repeat' first | intro _ | apply af.bind | exact af.refl _⟩
def d59(x0:au):{c // af c (zd x0)}:=⟨_,by
 unfold zd
 with_reducible repeat' first | intro _ | apply v9 | apply KY | apply (d121 _).2 | apply (d146 _ _ _).2 | apply af.loop | apply af.ag | apply af.bind | exact af.refl _⟩
abbrev Xt(x0:au):=(d59 x0).1
theorem as6(x0:au):af (Xt x0) (zd x0):=(d59 x0).2
def d66(x0:au)(x1:Int)(x2:Int):{c // af c (ze x0 x1 x2)}:=⟨_,by
 unfold ze
 with_reducible repeat' first | intro _ | apply (d82 _).2 | apply (d107 _ _).2 | apply (d149 _ _ _).2 | apply af.ag | apply af.bind | exact af.refl _⟩
abbrev Xu(x0:au)(x1:Int)(x2:Int):=(d66 x0 x1 x2).1
theorem as7(x0:au)(x1:Int)(x2:Int):af (Xu x0 x1 x2) (ze x0 x1 x2):=(d66 x0 x1 x2).2
def d159(x0:Int):{c // af c (Dd x0)}:=⟨_,by
 unfold Dd
 with_reducible repeat' first | intro _ | apply af.bind | exact af.refl _⟩
abbrev Xb(x0:Int):=(d159 x0).1
theorem asB(x0:Int):af (Xb x0) (Dd x0):=(d159 x0).2
def OH  : Option au :=
 (OF 9 11).bind λ bP =>
 (Xb 15).bind λ uZ =>
 some (⟨10,[(⟨10,40⟩:fl),(⟨20,20⟩:fl)],[bP,uZ],[(⟨⟨#[97,110,110]⟩,20⟩:eQ),(⟨⟨#[98,111]⟩,12⟩:eQ)],[(⟨0,0,20,2⟩:lW),(⟨1,30,15,1⟩:lW),(⟨0,60,30,1⟩:lW)],[]⟩:au)
theorem as8  : af (OH ) (HP ):=by
 unfold OH HP
 with_reducible repeat' first | exact af.refl _ | exact ZS _ _ | exact asB _ | exact hy _ _ | refine af.bind ?_ λ _=>?_
def d102(x0:(List Int))(x1:(List Int)):{c // af c (AI x0 x1)}:=⟨_,by
 unfold AI
 with_reducible repeat' first | intro _ | apply af.loop | apply af.ag | apply af.elim | apply af.bind | exact af.refl _⟩
def d27(x0:(List Int))(x1:(List Int)):{c // af c (AW x0 x1)}:=⟨_,by
 unfold AW
 with_reducible repeat' first | intro _ | apply (d102 _ _).2 | apply af.ag | apply af.bind | exact af.refl _⟩
abbrev Xk(x0:(List Int))(x1:(List Int)):=(d27 x0 x1).1
theorem asN(x0:(List Int))(x1:(List Int)):af (Xk x0 x1) (AW x0 x1):=(d27 x0 x1).2
def d89(x0:(List Int))(x1:(List Int)):{c // af c (wh x0 x1)}:=⟨_,by
 unfold wh
 with_reducible repeat' first | intro _ | apply (d27 _ _).2 | apply af.bind | exact af.refl _⟩
abbrev Fs(x0:(List Int))(x1:(List Int)):=(d89 x0 x1).1
theorem as9(x0:(List Int))(x1:(List Int)):af (Fs x0 x1) (wh x0 x1):=(d89 x0 x1).2
def OB(x0:(List (List Int)))(x1:(List (List Int))):Option Bool :=
 ag ((x0.length:Int) != (x1.length:Int))
 (some false)
 ((po (O:=(Unit ⊕ Bool)) (λ (rn:Int) =>
 ag (decide (rn < (x0.length:Int)))
 ((idx x0 rn).bind λ y3 =>
 (idx x1 rn).bind λ mq =>
 (Xk y3 mq).bind λ lQ =>
 ag (!lQ)
 (some (.inr (.inr false)))
 (some (.inl (i64 (rn+1)))))
 (some (.inr (.inl ())))) 0).bind (Sum.elim (λ (_:Unit) =>
 some true)
  (λ q=>some q)))
theorem asY(x0:(List (List Int)))(x1:(List (List Int))):af (OB x0 x1) (HN x0 x1):=by
 unfold OB HN
 with_reducible repeat' first | exact af.refl _ | refine af.loop λ _=>?_ | refine af.ag ?_ ?_ | refine af.elim (λ _=>?_) (λ _=>?_) _ | exact asN _ _ | exact hy _ _ | refine af.bind ?_ λ _=>?_
def JC(x0:(List (List Int)))(x1:(List (List Int))):Option Bool :=
 (OB x0 x1).bind λ cG =>
 some cG
theorem ata(x0:(List (List Int)))(x1:(List (List Int))):af (JC x0 x1) (Dz x0 x1):=by
 unfold JC Dz
 with_reducible repeat' first | exact af.refl _ | exact asY _ _ | exact hy _ _ | refine af.bind ?_ λ _=>?_
def Xh  : Option Bool :=
 (OH).bind λ eC =>
 (OD eC (⟨0,10,true⟩:c9)).bind λ gY =>
 (OE eC 10).bind λ BD =>
 (OE eC 21).bind λ BE =>
 (Xi eC).bind λ BF =>
 (Xj gY 0).bind λ BG =>
 (Xn eC 0).bind λ xe =>
 (JA eC 1 0).bind λ uW =>
 (JA eC 1 1).bind λ BH =>
 (JA eC 1 2).bind λ xf =>
 (Xu eC 0 1).bind λ yY =>
 (JB eC ([[0,1],[0],[1]])).bind λ BI =>
 (JB gY ([[0,1],[0],[1]])).bind λ BJ =>
 (((ag (BD.2 != 0)
 (some true)
 (ag (BE.2 != 0)
 (some true)
 (ag (BF.2 != 0)
 (some true)
 (ag (BG.2 != 0)
 (some true)
 (ag (xe.2 != 0)
 (some true)
 (ag (uW.2 != 0)
 (some true)
 (ag (BH.2 != 0)
 (some true)
 (ag (xf.2 != 0)
 (some true)
 (ag (yY.2 != 0)
 (some true)
 (ag (BI.2 != 0)
 (some true)
 (some (BJ.2 != 0)))))))))))):Option Bool)).bind (λ (DT:Bool) =>
 ag DT
 (some false)
 ((((ag (BD.1 != 40)
 (some true)
 (ag (BE.1 != 0)
 (some true)
 (ag (BF.1 != 3)
 (some true)
 ((Fs BG.1 [9,10]).bind λ MH =>
 ag (!MH)
 (some true)
 ((OF 20 40).bind λ It =>
 ag (!(O3 xe.1 It == true))
 (some true)
 (ag (uW.1 != 1)
 (some true)
 (ag (BH.1 != 2)
 (some true)
 (ag (xf.1 != 0)
 (some true)
 (ag (!yY.1)
 (some true)
 (ag (BI.1 != 0)
 (some true)
 (some (BJ.1 != 1)))))))))))):Option Bool)).bind (λ (DU:Bool) =>
 ag DU
 (some false)
 ((OA eC).bind λ BK =>
 (OA gY).bind λ BL =>
 (Xo gY).bind λ uX =>
 (Xp gY).bind λ qx =>
 (Xq gY).bind λ uY =>
 (OC eC).bind λ BM =>
 (Xt eC).bind λ nW =>
 (Xr gY 12 15).bind λ oQ =>
 (OC oQ.1).bind λ Ek =>
 (OD gY (⟨0,8,true⟩:c9)).bind λ Iu =>
 (Xs Iu).bind λ BN =>
 (((ag (BK.2 != 0)
 (some true)
 (ag (BL.2 != 0)
 (some true)
 (ag (uX.2.2 != 0)
 (some true)
 (ag (qx.2.2.2 != 0)
 (some true)
 (ag (uY.2.2 != 0)
 (some true)
 (ag (BM.2 != 0)
 (some true)
 (ag (nW.2.2.2 != 0)
 (some true)
 (ag (oQ.2 != 0)
 (some true)
 (ag (Ek.2 != 0)
 (some true)
 (some (BN.2 != 0))))))))))):Option Bool)).bind (λ (DV:Bool) =>
 ag DV
 (some false)
 ((((ag (BK.1 != 0)
 (some true)
 (ag (BL.1 != 2)
 (some true)
 (ag (!uX.2.1)
 (some true)
 ((JC uX.1 ([[0,1],[0],[0]])).bind λ MN =>
 ag (!MN)
 (some true)
 (ag (!qx.2.2.1)
 (some true)
 (ag (qx.2.1 != 50)
 (some true)
 ((JC qx.1 ([[0,1],[0],[1]])).bind λ BP =>
 ag (!BP)
 (some true)
 (ag (!uY.2.1)
 (some true)
 ((Fs uY.1 [0,1]).bind λ MP =>
 ag (!MP)
 (some true)
 ((Fs BM.1 [2]).bind λ MQ =>
 some (!MQ))))))))))):Option Bool)).bind (λ (DW:Bool) =>
 ag DW
 (some false)
 (ag (nW.1 == 0)
 (ag (nW.2.1 == 9)
 (ag (nW.2.2.1 == 2)
 (ag ((Ek.1.length:Int) == 0)
 ((Fs BN.1 [1]).bind λ MR =>
 ag MR
 (ag ((oQ.1.Rows.length:Int) == 3)
 ((idx oQ.1.Rows 1).bind λ Em =>
 ag (FD Em (⟨12,15⟩:fl) == true)
 ((idx oQ.1.Rows 2).bind λ Iv =>
 some (FD Iv (⟨20,15⟩:fl) == true))
 (some false))
 (some false))
 (some false))
 (some false))
 (some false))
 (some false))
 (some false)))))))))
theorem asK  : af (Xh ) (oC ):=by
 unfold Xh oC
 with_reducible repeat' first | exact af.refl _ | refine af.ag ?_ ?_ | exact asL _ | exact asM _ _ | exact asT _ _ | exact asU _ _ _ | exact asV _ _ | exact asW _ | exact asX _ | exact asZ _ | exact as0 _ | exact as1 _ | exact as2 _ _ | exact as3 _ _ | exact ZS _ _ | exact as4 _ _ _ | exact as5 _ | exact as6 _ | exact as7 _ _ _ | exact as8 | exact as9 _ _ | exact ata _ _ | exact hy _ _ | refine af.bind ?_ λ _=>?_
def d58(x0:(List Int))(x1:(List Int)):{c // af c (B3 x0 x1)}:=⟨_,by
 unfold B3
 with_reducible repeat' first | intro _ | apply (d102 _ _).2 | apply af.ag | apply af.bind | exact af.refl _⟩
abbrev c58(x0:(List Int))(x1:(List Int)):=(d58 x0 x1).1
theorem azR(x0:(List Int))(x1:(List Int)):af (c58 x0 x1) (B3 x0 x1):=(d58 x0 x1).2
def d57(x0:(List Int))(x1:Int):{c // af c (B2 x0 x1)}:=⟨_,by
 unfold B2
 with_reducible repeat' first | intro _ | apply af.loop | apply af.ag | apply af.bind | exact af.refl _⟩
abbrev c57(x0:(List Int))(x1:Int):=(d57 x0 x1).1
theorem azQ(x0:(List Int))(x1:Int):af (c57 x0 x1) (B2 x0 x1):=(d57 x0 x1).2
theorem awJ:oC=some true:=asK _ (by decide +kernel)
end
end Go.Proofs.YtihapemckcdicaaGreatDoor
