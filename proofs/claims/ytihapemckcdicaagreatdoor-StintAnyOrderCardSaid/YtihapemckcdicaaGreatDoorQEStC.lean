/- The chapter's examples, by reckoning. Conditions: none. -/
import Derived.Test.YtihapemckcdicaaGreatDoorQEStM
import Derived.Test.YtihapemckcdicaaGreatDoorQELgC
namespace Go.Proofs.YtihapemckcdicaaGreatDoor
open Go.Lg Go.Proofs
noncomputable section
set_option maxRecDepth 100000
set_option maxHeartbeats 4000000
def d139(x0:Int)(x1:Int)(x2:Int):{c // ag c (kM x0 x1 x2)}:=⟨_,by
 unfold kM
 with_reducible repeat' first | intro _ | apply ag.aa | apply ag.bind | exact ag.refl _⟩
def amC(x0:ByteArray):Option Bool:=KG x0
theorem azc(x0:ByteArray):ag (amC x0) (KG x0):=ag.refl _
def ME(x0:bW)(x1:(br→Option Bool)):Option Int :=
 (qI (O:=Int) (λ (gO:(Int × Int)) =>
 aa (decide (gO.2 < (x0.fi.length:Int)))
 ((idx x0.fi gO.2).bind λ nV =>
 (x1 nV).bind λ tE =>
 aa tE
 (some (.inl (i64 (gO.1+1),i64 (gO.2+1))))
 (some (.inl (gO.1,i64 (gO.2+1)))))
 (some (.inr gO.1))) (0,0)).bind (λ (u9:Int) =>
 some u9)
theorem N4(x0:bW){x1 gg:(br→Option Bool)}(il:∀ y,ag (x1 y) (gg y)):ag (ME x0 x1) (uW x0 gg):=by
 unfold ME uW
 with_reducible repeat' first | exact ag.refl _ | refine ag.loop λ _=>?_ | refine ag.aa ?_ ?_ | exact il _ | exact hy _ _ | refine ag.bind ?_ λ _=>?_
def d104(x0:ao)(x1:Int):{c // ag c (wU x0 x1)}:=⟨_,by
 unfold wU
 with_reducible repeat' first | intro _ | apply ag.loop | apply ag.aa | apply ag.elim | apply ag.bind | exact ag.refl _⟩
def d111(x0:ao)(x1:br)(x2:Int)(x3:Int):{c // ag c (yq x0 x1 x2 x3)}:=⟨_,by
 unfold yq
 with_reducible repeat' first | intro _ | apply (d104 _ _).2 | apply ag.aa | apply ag.bind | exact ag.refl _⟩
def d172(x0:br)(x1:bW)(x2:Int)(x3:Int):{c // ag c (zb x0 x1 x2 x3)}:=⟨_,by
 unfold zb
 with_reducible repeat' first | intro _ | apply (d111 _ _ _ _).2 | apply ag.bind | exact ag.refl _⟩
abbrev abJ(x0:br)(x1:bW)(x2:Int)(x3:Int):=(d172 x0 x1 x2 x3).1
theorem ay3(x0:br)(x1:bW)(x2:Int)(x3:Int):ag (abJ x0 x1 x2 x3) (zb x0 x1 x2 x3):=(d172 x0 x1 x2 x3).2
def WM(x0:bW)(i k:Nat):Option Bool:=(ME x0 (λ y=>abJ y x0 (k:Int) (i:Int))).bind λ n=>some (n == (x0.fi.length:Int))
theorem azy(x0:bW)(i k:Nat):ag (WM x0 i k) (qR x0 i k):=by
 unfold WM qR
 with_reducible repeat' first | exact ag.refl _ | refine N4 _ (λ _=>?_) | exact ay3 _ _ _ _ | refine ag.bind ?_ λ _=>?_
def abz(x0:bW):Option (List Bool) :=
 if (0 < x0.book.av.length∧x0.book.av.length≤4)∧(0 < x0.book.ax.length∧x0.book.ax.length≤4) then
  (((List.range 16).mapM λ (p:Nat)=>if p / 4 < x0.book.av.length∧p % 4 < x0.book.ax.length then WM x0 (p / 4) (p % 4) else some false):Option (List Bool))
 else none
theorem Ko(x0:bW):ag (abz x0) (tB x0):=by
 unfold abz tB
 split
 ·refine ag.mapM (λ p=>?_) _
  split
  ·exact azy _ _ _
  ·exact ag.refl _
 ·exact ag.none
def d265(x0:ao):{c // ag c (FW x0)}:=⟨_,by
 unfold FW
 with_reducible repeat' first | intro _ | apply (d139 _ _ _).2 | apply ag.aa | apply ag.bind | exact ag.refl _⟩
def d266(x0:ao):{c // ag c (CU x0)}:=⟨_,by
 unfold CU
 with_reducible repeat' first | intro _ | apply (d139 _ _ _).2 | apply ag.loop | apply ag.aa | apply ag.elim | apply ag.bind | exact ag.refl _⟩
def Sy(x0:(List Reach))(x1:(Reach→Option Bool)):Option Int :=
 (qI (O:=(Unit ⊕ Int)) (λ (dH:Int) =>
 aa (decide (dH < (x0.length:Int)))
 ((idx x0 dH).bind λ nI =>
 (x1 nI).bind λ ln =>
 aa ln
 (some (.inr (.inr dH)))
 (some (.inl (i64 (dH+1)))))
 (some (.inr (.inl ())))) 0).bind (Sum.elim (λ (_:Unit) =>
 some (-1))
  (λ q=>some q))
theorem aze(x0:(List Reach)){x1 gg:(Reach→Option Bool)}(il:∀ y,ag (x1 y) (gg y)):ag (Sy x0 x1) (KH x0 gg):=by
 unfold Sy KH
 with_reducible repeat' first | exact ag.refl _ | refine ag.loop λ _=>?_ | refine ag.aa ?_ ?_ | refine ag.elim (λ _=>?_) (λ _=>?_) _ | exact il _ | exact hy _ _ | refine ag.bind ?_ λ _=>?_
def abL(x0:(List Reach))(x1:(Reach→Option Bool)):Option Bool :=
 (Sy x0 x1).bind λ de =>
 some (decide (de ≥ 0))
theorem azb(x0:(List Reach)){x1 gg:(Reach→Option Bool)}(il:∀ y,ag (x1 y) (gg y)):ag (abL x0 x1) (FX x0 gg):=by
 unfold abL FX
 with_reducible repeat' first | exact ag.refl _ | refine aze _ (λ _=>?_) | exact il _ | exact hy _ _ | refine ag.bind ?_ λ _=>?_
def d273(x0:Reach)(x1:Int)(x2:Int)(x3:Int):{c // ag c (C2 x0 x1 x2 x3)}:=⟨_,by
 unfold C2
 with_reducible repeat' first | intro _ | apply ag.aa | apply ag.bind | exact ag.refl _⟩
def d272(x0:Reach):{c // ag c (C1 x0)}:=⟨_,by
 unfold C1
 with_reducible repeat' first | intro _ | apply (d273 _ _ _ _).2 | apply ag.bind | exact ag.refl _⟩
def d267(x0:ao):{c // ag c (CV x0)}:=⟨_,by
 unfold CV
 with_reducible repeat' first | intro _ | apply (d139 _ _ _).2 | apply azb | apply (d272 _).2 | apply ag.aa | apply ag.bind | exact ag.refl _⟩
def Sz(x0:(List dI))(x1:(dI→Option Bool)):Option Int :=
 (qI (O:=(Unit ⊕ Int)) (λ (dH:Int) =>
 aa (decide (dH < (x0.length:Int)))
 ((idx x0 dH).bind λ nI =>
 (x1 nI).bind λ ln =>
 aa ln
 (some (.inr (.inr dH)))
 (some (.inl (i64 (dH+1)))))
 (some (.inr (.inl ())))) 0).bind (Sum.elim (λ (_:Unit) =>
 some (-1))
  (λ q=>some q))
theorem azf(x0:(List dI)){x1 gg:(dI→Option Bool)}(il:∀ y,ag (x1 y) (gg y)):ag (Sz x0 x1) (KI x0 gg):=by
 unfold Sz KI
 with_reducible repeat' first | exact ag.refl _ | refine ag.loop λ _=>?_ | refine ag.aa ?_ ?_ | refine ag.elim (λ _=>?_) (λ _=>?_) _ | exact il _ | exact hy _ _ | refine ag.bind ?_ λ _=>?_
def abM(x0:(List dI))(x1:(dI→Option Bool)):Option Bool :=
 (Sz x0 x1).bind λ de =>
 some (decide (de ≥ 0))
theorem azd(x0:(List dI)){x1 gg:(dI→Option Bool)}(il:∀ y,ag (x1 y) (gg y)):ag (abM x0 x1) (FY x0 gg):=by
 unfold abM FY
 with_reducible repeat' first | exact ag.refl _ | refine azf _ (λ _=>?_) | exact il _ | exact hy _ _ | refine ag.bind ?_ λ _=>?_
def d276(x0:dI)(x1:dI):{c // ag c (C3 x0 x1)}:=⟨_,by
 unfold C3
 with_reducible repeat' first | intro _ | apply ag.bind | exact ag.refl _⟩
def d268(x0:ao):{c // ag c (CX x0)}:=⟨_,by
 unfold CX
 with_reducible repeat' first | intro _ | apply (d139 _ _ _).2 | apply azc | apply azd | apply (d276 _ _).2 | apply ag.loop | apply ag.aa | apply ag.elim | apply ag.bind | exact ag.refl _⟩
def d107(x0:Int)(x1:Int):{c // ag c (pZ x0 x1)}:=⟨_,by
 unfold pZ
 with_reducible repeat' first | intro _ | apply (d139 _ _ _).2 | apply ag.aa | apply ag.bind | exact ag.refl _⟩
abbrev abw(x0:Int)(x1:Int):=(d107 x0 x1).1
theorem ayP(x0:Int)(x1:Int):ag (abw x0 x1) (pZ x0 x1):=(d107 x0 x1).2
def d269(x0:ao):{c // ag c (CY x0)}:=⟨_,by
 unfold CY
 with_reducible repeat' first | intro _ | apply (d107 _ _).2 | apply (d139 _ _ _).2 | apply ag.loop | apply ag.aa | apply ag.elim | apply ag.bind | exact ag.refl _⟩
def d270(x0:ao):{c // ag c (C0 x0)}:=⟨_,by
 unfold C0
 with_reducible repeat' first | intro _ | apply (d107 _ _).2 | apply (d139 _ _ _).2 | apply ag.loop | apply ag.aa | apply ag.elim | apply ag.bind | exact ag.refl _⟩
def d82(x0:ao):{c // ag c (qJ x0)}:=⟨_,by
 unfold qJ
 with_reducible repeat' first | intro _ | apply (d265 _).2 | apply (d266 _).2 | apply (d267 _).2 | apply (d268 _).2 | apply (d269 _).2 | apply (d270 _).2 | apply ag.aa | apply ag.bind | exact ag.refl _⟩
abbrev SI(x0:ao):=(d82 x0).1
theorem adL(x0:ao):ag (SI x0) (qJ x0):=(d82 x0).2
def Ss (x1:(br→((List br) ⊕ Empty)→Option (((List br) ⊕ Empty) × Bool))→((List br) ⊕ Empty)→Option ((List br) ⊕ Empty)):Option (List br) :=
 (x1 (gu (λ (rY:br) (kz:(List br))=>(((eW kz [rY]).bind λ gQ =>
 some (.inl gQ)):Option ((List br) ⊕ Empty)))) (.inl [])).bind (Sum.elim (λ (kz:(List br)) =>
 some kz)
  (λ (o:Empty)=>o.elim))
theorem ayZ{x1 gg:(br→((List br) ⊕ Empty)→Option (((List br) ⊕ Empty) × Bool))→((List br) ⊕ Empty)→Option ((List br) ⊕ Empty)}(il:∀ ys kP,(∀ y s,ag (ys y s) (kP y s))→∀ s,ag (x1 ys s) (gg kP s)):ag (Ss x1) (FM gg):=by
 unfold Ss FM
 with_reducible repeat' first | exact ag.refl _ | refine ag.elim (λ _=>?_) (λ _=>?_) _ | refine ag.gu (λ _ _=>?_) _ _ | refine il _ _ (λ _ _=>?_) _ | exact il | exact hy _ _ | refine ag.bind ?_ λ _=>?_
def MK (x0:(br→((List br) ⊕ Empty)→Option (((List br) ⊕ Empty) × Bool))→((List br) ⊕ Empty)→Option ((List br) ⊕ Empty)):Option (List br) :=
 (Ss x0).bind λ de =>
 some de
theorem WV{x0 AX:(br→((List br) ⊕ Empty)→Option (((List br) ⊕ Empty) × Bool))→((List br) ⊕ Empty)→Option ((List br) ⊕ Empty)}(CA:∀ ys kP,(∀ y s,ag (ys y s) (kP y s))→∀ s,ag (x0 ys s) (AX kP s)):ag (MK x0) (yu AX):=by
 unfold MK yu
 with_reducible repeat' first | exact ag.refl _ | refine ayZ (λ _ _ hy _=>?_) | refine CA _ _ (λ _ _=>?_) _ | exact CA | exact hy _ _ | refine ag.bind ?_ λ _=>?_
def Sx(x0:(List dO))(x1:(dO→Option Bool)):Option Int :=
 (qI (O:=(Unit ⊕ Int)) (λ (dH:Int) =>
 aa (decide (dH < (x0.length:Int)))
 ((idx x0 dH).bind λ nI =>
 (x1 nI).bind λ ln =>
 aa ln
 (some (.inr (.inr dH)))
 (some (.inl (i64 (dH+1)))))
 (some (.inr (.inl ())))) 0).bind (Sum.elim (λ (_:Unit) =>
 some (-1))
  (λ q=>some q))
theorem ay6(x0:(List dO)){x1 gg:(dO→Option Bool)}(il:∀ y,ag (x1 y) (gg y)):ag (Sx x0 x1) (KC x0 gg):=by
 unfold Sx KC
 with_reducible repeat' first | exact ag.refl _ | refine ag.loop λ _=>?_ | refine ag.aa ?_ ?_ | refine ag.elim (λ _=>?_) (λ _=>?_) _ | exact il _ | exact hy _ _ | refine ag.bind ?_ λ _=>?_
def abK(x0:(List dO))(x1:(dO→Option Bool)):Option Bool :=
 (Sx x0 x1).bind λ de =>
 some (decide (de ≥ 0))
theorem ay5(x0:(List dO)){x1 gg:(dO→Option Bool)}(il:∀ y,ag (x1 y) (gg y)):ag (abK x0 x1) (FQ x0 gg):=by
 unfold abK FQ
 with_reducible repeat' first | exact ag.refl _ | refine ay6 _ (λ _=>?_) | exact il _ | exact hy _ _ | refine ag.bind ?_ λ _=>?_
def d187(x0:dO)(x1:br):{c // ag c (CQ x0 x1)}:=⟨_,by
 unfold CQ
 with_reducible repeat' first | intro _ | apply ag.bind | exact ag.refl _⟩
def d162(x0:ao)(x1:br):{c // ag c (AD x0 x1)}:=⟨_,by
 unfold AD
 with_reducible repeat' first | intro _ | apply ay5 | apply (d187 _ _).2 | apply ag.bind | exact ag.refl _⟩
abbrev abF(x0:ao)(x1:br):=(d162 x0 x1).1
theorem ay0(x0:ao)(x1:br):ag (abF x0 x1) (AD x0 x1):=(d162 x0 x1).2
def MF{S:Type}(ys:br→S→Option (S × Bool)):Nat→Int→ao→br→S→Option (S × (br × Bool))
 | 0,_,_,_,_=>none
 | k+1,x0,x1,x2,s0 =>
  aa (x0 == (x1.aM.length:Int))
  (((((abF x1 x2).bind λ eP =>
  aa (!eP)
  (some (s0,true))
  ((ys x2 s0).bind λ iY =>
  some (iY.1,iY.2))):Option (S × Bool))).bind (λ (yy:(S × Bool)) =>
  some (yy.1,(x2,yy.2))))
  ((idx x1.aM x0).bind λ bS =>
  (qI (O:=((S × (List Int)) ⊕ (S × (br × Bool)))) (λ (bF:(S × Int × (List Int))) =>
  (idx x1.aM x0).bind λ fh =>
  aa (decide (bF.2.1≤fh.dK))
  ((idx bF.2.2 x0).bind λ _ =>
  (MF ys k (i64 (x0+1)) x1 (⟨bF.2.2.set x0.toNat bF.2.1⟩:br) bF.1).bind λ iL =>
  aa (!iL.2.2)
  (some (.inr (.inr (iL.1,(iL.2.1,false)))))
  (some (.inl (iL.1,i64 (bF.2.1+1),iL.2.1.deep))))
  (some (.inr (.inl (bF.1,bF.2.2))))) (s0,bS.cI,x2.deep)).bind (Sum.elim (λ (ox:(S × (List Int))) =>
  some (ox.1,((⟨ox.2⟩:br),true)))
   (λ q=>some q)))
theorem adI{S:Type}{ys kP:br→S→Option (S × Bool)}(h:∀ y s,ag (ys y s) (kP y s)):∀ k x0 x1 x2 s0,ag (MF ys k x0 x1 x2 s0) (rJ kP k x0 x1 x2 s0)
 | 0,_,_,_,_=>ag.none
 | k+1,x0,x1,x2,s0=>by
  have ih:=adI h k
  rw [MF,rJ]
  with_reducible repeat' first | exact ag.refl _ | refine ag.loop λ _=>?_ | refine ag.aa ?_ ?_ | refine ag.elim (λ _=>?_) (λ _=>?_) _ | exact ay0 _ _ | exact h _ _ | exact ih _ _ _ _ | refine ag.bind ?_ λ _=>?_
def ML{S:Type}(ys:br→S→Option (S × Bool))(x0:ao)(s0:S):Option S :=
 (MF ys 9 0 x0 (⟨[0,0,0]⟩:br) s0).bind λ pe =>
  some pe.1
theorem N6{S:Type}{ys kP:br→S→Option (S × Bool)}(h:∀ y s,ag (ys y s) (kP y s))(x0:ao)(s0:S):ag (ML ys x0 s0) (p5 kP x0 s0):=by
 unfold ML p5
 with_reducible repeat' first | exact ag.refl _ | refine adI (λ _ _=>?_) _ _ _ _ _ | exact h _ _ | refine ag.bind ?_ λ _=>?_
def d23(x0:ao):{c // ag c (zx x0)}:=⟨_,by
 unfold zx
 with_reducible repeat' first | intro _ | apply (d82 _).2 | apply WV | apply N6 | apply ag.aa | apply ag.bind | exact ag.refl _ | exact ‹∀ _ _,ag _ _› _ _⟩
abbrev c23(x0:ao):=(d23 x0).1
theorem ay8(x0:ao):ag (c23 x0) (zx x0):=(d23 x0).2
def c94(x0:ao)(x1:(ao→Option Int)):Option (bW × Int) :=
 (SI x0).bind λ iq =>
 aa (iq != 0)
 (some ((⟨⟨0,[],[],[],[],[]⟩,[]⟩:bW),iq))
 ((x1 x0).bind λ fv =>
 aa (fv != 0)
 (some ((⟨⟨0,[],[],[],[],[]⟩,[]⟩:bW),fv))
 ((MK (λ y s=>ML y x0 s)).bind λ gY =>
 aa ((gY.length:Int) == 0)
 (some ((⟨⟨0,[],[],[],[],[]⟩,[]⟩:bW),9))
 (some ((⟨⟨x0.Rest,x0.Rows,x0.aM,x0.ax,x0.av,x0.ba⟩,gY⟩:bW),0))))
theorem yp(x0:ao){x1 gg:(ao→Option Int)}(il:∀ y,ag (x1 y) (gg y)):ag (c94 x0 x1) (p6 x0 gg):=by
 unfold c94 p6
 with_reducible repeat' first | exact ag.refl _ | refine ag.aa ?_ ?_ | exact adL _ | refine WV (λ _ _ hy _=>?_) | refine N6 (λ _ _=>?_) _ _ | exact il _ | exact hy _ _ | refine ag.bind ?_ λ _=>?_
def d163(x0:ao)(x1:Int):{c // ag c (sS x0 x1)}:=⟨_,by
 unfold sS
 with_reducible repeat' first | intro _ | apply (d107 _ _).2 | apply ag.bind | exact ag.refl _⟩
def d95(x0:Int):{c // ag c (F5 x0)}:=⟨_,by
 unfold F5
 with_reducible repeat' first | intro _ | apply ag.bind | exact ag.refl _⟩
def d235(x0:Int):{c // ag c (AE x0)}:=⟨_,by
 unfold AE
 with_reducible repeat' first | intro _ | apply ag.bind | exact ag.refl _⟩
def d221(x0:Int)(x1:Int):{c // ag c (KE x0 x1)}:=⟨_,by
 unfold KE
 with_reducible repeat' first | intro _ | apply (d235 _).2 | apply ag.aa | apply ag.bind | exact ag.refl _⟩
def d215(x0:(List Int))(x1:Int)(x2:Int):{c // ag c (KD x0 x1 x2)}:=⟨_,by
 unfold KD
 with_reducible repeat' first | intro _ | apply (d221 _ _).2 | apply ag.loop | apply ag.aa | apply ag.bind | exact ag.refl _⟩
def d225(x0:Int):{c // ag c (KF x0)}:=⟨_,by
 unfold KF
 with_reducible repeat' first | intro _ | apply ag.aa | apply ag.bind | exact ag.refl _⟩
def d189(x0:Int):{c // ag c (KA x0)}:=⟨_,by
 unfold KA
 with_reducible repeat' first | intro _ | apply (d225 _).2 | apply ag.bind | exact ag.refl _⟩
def d188(x0:(List Int))(x1:Int)(x2:Int)(x3:Int):{c // ag c (Kz x0 x1 x2 x3)}:=⟨_,by
 unfold Kz
 with_reducible repeat' first | intro _ | apply (d215 _ _ _).2 | apply ag.loop | apply ag.aa | apply ag.bind | exact ag.refl _⟩
def d164(x0:(List Int)):{c // ag c (FO x0)}:=⟨_,by
 unfold FO
 with_reducible repeat' first | intro _ | apply (d188 _ _ _ _).2 | apply (d189 _).2 | apply ag.bind | exact ag.refl _⟩
abbrev abG(x0:(List Int)):=(d164 x0).1
theorem ay1(x0:(List Int)):ag (abG x0) (FO x0):=(d164 x0).2
def d165(x0:(List Int)):{c // ag c (FP x0)}:=⟨_,by
 unfold FP
 with_reducible repeat' first | intro _ | apply ag.loop | apply ag.aa | apply ag.elim | apply ag.bind | exact ag.refl _⟩
abbrev abH(x0:(List Int)):=(d165 x0).1
theorem ay2(x0:(List Int)):ag (abH x0) (FP x0):=(d165 x0).2
def c96(x0:bW)(x1:(br→Option Int)):Option (List Int) :=
 (qI (O:=(List Int)) (λ (qb:((List Int) × Int)) =>
 aa (decide (qb.2 < (x0.fi.length:Int)))
 ((idx x0.fi qb.2).bind λ lL =>
 (x1 lL).bind λ qm =>
 (eW qb.1 [qm]).bind λ nW =>
 some (.inl (nW,i64 (qb.2+1))))
 (some (.inr qb.1))) ([],0)).bind (λ (sZ:(List Int)) =>
 (abG sZ).bind λ q8 =>
 (abH q8).bind λ mL =>
 some mL)
theorem adM(x0:bW){x1 gg:(br→Option Int)}(il:∀ y,ag (x1 y) (gg y)):ag (c96 x0 x1) (F6 x0 gg):=by
 unfold c96 F6
 with_reducible repeat' first | exact ag.refl _ | refine ag.loop λ _=>?_ | refine ag.aa ?_ ?_ | exact ay1 _ | exact ay2 _ | exact il _ | exact hy _ _ | refine ag.bind ?_ λ _=>?_
def d97(x0:br)(x1:Int):{c // ag c (F7 x0 x1)}:=⟨_,by
 unfold F7
 with_reducible repeat' first | intro _ | apply ag.bind | exact ag.refl _⟩
def d25(x0:ao)(x1:Int):{c // ag c (FV x0 x1)}:=⟨_,by
 unfold FV
 with_reducible repeat' first | intro _ | apply yp | apply (d95 _).2 | apply adM | apply (d97 _ _).2 | apply (d163 _ _).2 | apply ag.aa | apply ag.bind | exact ag.refl _⟩
abbrev c25(x0:ao)(x1:Int):=(d25 x0 x1).1
theorem ay9(x0:ao)(x1:Int):ag (c25 x0 x1) (FV x0 x1):=(d25 x0 x1).2
def d103(x0:br)(x1:bW)(x2:Int):{c // ag c (FH x0 x1 x2)}:=⟨_,by
 unfold FH
 with_reducible repeat' first | intro _ | apply (d104 _ _).2 | apply ag.bind | exact ag.refl _⟩
def d28(x0:ao)(x1:Int):{c // ag c (FZ x0 x1)}:=⟨_,by
 unfold FZ
 with_reducible repeat' first | intro _ | apply yp | apply (d95 _).2 | apply adM | apply (d103 _ _ _).2 | apply (d163 _ _).2 | apply ag.aa | apply ag.bind | exact ag.refl _⟩
abbrev c28(x0:ao)(x1:Int):=(d28 x0 x1).1
theorem azg(x0:ao)(x1:Int):ag (c28 x0 x1) (FZ x0 x1):=(d28 x0 x1).2
def d106(x0:ao)(x1:Int)(x2:Int):{c // ag c (D6 x0 x1 x2)}:=⟨_,by
 unfold D6
 with_reducible repeat' first | intro _ | apply (d107 _ _).2 | apply ag.bind | exact ag.refl _⟩
def d108(x0:bW)(x1:Int):{c // ag c (A4 x0 x1)}:=⟨_,by
 unfold A4
 with_reducible repeat' first | intro _ | apply ag.aa | apply ag.bind | exact ag.refl _⟩
abbrev abx(x0:bW)(x1:Int):=(d108 x0 x1).1
theorem ayQ(x0:bW)(x1:Int):ag (abx x0 x1) (A4 x0 x1):=(d108 x0 x1).2
def d110(x0:br)(x1:bW)(x2:Int)(x3:Int):{c // ag c (Eg x0 x1 x2 x3)}:=⟨_,by
 unfold Eg
 with_reducible repeat' first | intro _ | apply (d111 _ _ _ _).2 | apply ag.bind | exact ag.refl _⟩
def d30(x0:ao)(x1:Int)(x2:Int):{c // ag c (tC x0 x1 x2)}:=⟨_,by
 unfold tC
 with_reducible repeat' first | intro _ | apply yp | apply (d106 _ _ _).2 | apply (d108 _ _).2 | apply N4 | apply (d110 _ _ _ _).2 | apply ag.aa | apply ag.bind | exact ag.refl _⟩
abbrev MG(x0:ao)(x1:Int)(x2:Int):=(d30 x0 x1 x2).1
theorem azh(x0:ao)(x1:Int)(x2:Int):ag (MG x0 x1 x2) (tC x0 x1 x2):=(d30 x0 x1 x2).2
def d132(x0:(List Int)):{c // ag c (zD x0)}:=⟨_,by
 unfold zD
 with_reducible repeat' first | intro _ | apply ag.loop | apply ag.aa | apply ag.bind | exact ag.refl _⟩
abbrev abD(x0:(List Int)):=(d132 x0).1
theorem ayX(x0:(List Int)):ag (abD x0) (zD x0):=(d132 x0).2
def Sq(x0:ao)(x1:(List (List Int))):Option ((List Bool) × Int) :=
 aa ((x1.length:Int) != (x0.av.length:Int))
 (some ([false,false,false,false,false,false,false,false,false,false,false,false,false,false,false,false],2))
 ((qI (O:=((List Bool) ⊕ ((List Bool) × Int))) (λ (gD:(Int × (List Bool))) =>
 aa (decide (gD.1 < (x1.length:Int)))
 ((idx x1 gD.1).bind λ qf =>
 (idx x0.av gD.1).bind λ PM =>
 aa ((qf.length:Int) != PM.ax)
 (some (.inr (.inr ([false,false,false,false,false,false,false,false,false,false,false,false,false,false,false,false],2))))
 ((qI (O:=(Unit ⊕ ((List Bool) × Int))) (λ (qa:Int) =>
 aa (decide (qa < (qf.length:Int)))
 ((idx qf qa).bind λ DV =>
 (abw DV (x0.ax.length:Int)).bind λ GI =>
 aa (GI != 0)
 (some (.inr (.inr ([false,false,false,false,false,false,false,false,false,false,false,false,false,false,false,false],GI))))
 ((((aa (decide (qa > 0))
 ((idx qf (i64 (qa - 1))).bind λ PN =>
 some (decide (DV≤PN)))
 (some false)):Option Bool)).bind (λ (Gl:Bool) =>
 aa Gl
 (some (.inr (.inr ([false,false,false,false,false,false,false,false,false,false,false,false,false,false,false,false],7))))
 (some (.inl (i64 (qa+1)))))))
 (some (.inr (.inl ())))) 0).bind (Sum.elim (λ (_:Unit) =>
 (abD qf).bind λ PO =>
 (gI 4 gD.2 gD.1).bind λ _ =>
 some (.inl (i64 (gD.1+1),Ej 4 gD.2 gD.1 PO)))
  (λ q=>some (.inr (.inr q))))))
 (some (.inr (.inl gD.2)))) (0,[false,false,false,false,false,false,false,false,false,false,false,false,false,false,false,false])).bind (Sum.elim (λ (Di:(List Bool)) =>
 some (Di,0))
  (λ q=>some q)))
theorem ayT(x0:ao)(x1:(List (List Int))):ag (Sq x0 x1) (He x0 x1):=by
 unfold Sq He
 with_reducible repeat' first | exact ag.refl _ | refine ag.loop λ _=>?_ | refine ag.aa ?_ ?_ | refine ag.elim (λ _=>?_) (λ _=>?_) _ | exact ayP _ _ | exact ayX _ | exact hy _ _ | refine ag.bind ?_ λ _=>?_
def Sp(x0:ao)(x1:(List (List Int)))(_:(List Bool)):Option ((List Bool) × Int) :=
 (Sq x0 x1).bind λ eO =>
 some (eO.1,eO.2)
theorem ayS(x0:ao)(x1:(List (List Int)))(x2:(List Bool)):ag (Sp x0 x1 x2) (Hd x0 x1 x2):=by
 unfold Sp Hd
 with_reducible repeat' first | exact ag.refl _ | exact ayT _ _ | exact hy _ _ | refine ag.bind ?_ λ _=>?_
def d149(x0:ao)(x1:Int)(x2:Int):{c // ag c (AB x0 x1 x2)}:=⟨_,by
 unfold AB
 with_reducible repeat' first | intro _ | apply ag.aa | apply ag.bind | exact ag.refl _⟩
def d117(x0:ao)(x1:(List Bool))(x2:Int):{c // ag c (xp x0 x1 x2)}:=⟨_,by
 unfold xp
 with_reducible repeat' first | intro _ | apply (d149 _ _ _).2 | apply ag.loop | apply ag.aa | apply ag.elim | apply ag.bind | exact ag.refl _⟩
abbrev Sr(x0:ao)(x1:(List Bool))(x2:Int):=(d117 x0 x1 x2).1
theorem WT(x0:ao)(x1:(List Bool))(x2:Int):ag (Sr x0 x1 x2) (xp x0 x1 x2):=(d117 x0 x1 x2).2
def d118(x0:br)(x1:ao)(x2:(List Bool))(x3:bW):{c // ag c (Ba x0 x1 x2 x3)}:=⟨_,by
 unfold Ba
 with_reducible repeat' first | intro _ | apply (d111 _ _ _ _).2 | apply ag.loop | apply ag.aa | apply ag.elim | apply ag.bind | exact ag.refl _⟩
abbrev aby(x0:br)(x1:ao)(x2:(List Bool))(x3:bW):=(d118 x0 x1 x2 x3).1
theorem ayU(x0:br)(x1:ao)(x2:(List Bool))(x3:bW):ag (aby x0 x1 x2 x3) (Ba x0 x1 x2 x3):=(d118 x0 x1 x2 x3).2
def So(x0:ao)(w9:(List (List Int)))(rV:(List Bool)):Option ((List Bool) × bW × Int) :=
 (SI x0).bind λ iq =>
 aa (iq != 0)
 (some (rV,(⟨⟨0,[],[],[],[],[]⟩,[]⟩:bW),iq))
 ((Sp x0 w9 rV).bind λ fv =>
 aa (fv.2 != 0)
 (some (fv.1,(⟨⟨0,[],[],[],[],[]⟩,[]⟩:bW),fv.2))
 ((MK (λ y s=>ML y x0 s)).bind λ gY =>
 aa ((gY.length:Int) == 0)
 (some (fv.1,(⟨⟨0,[],[],[],[],[]⟩,[]⟩:bW),9))
 (some (fv.1,(⟨⟨x0.Rest,x0.Rows,x0.aM,x0.ax,x0.av,x0.ba⟩,gY⟩:bW),0))))
theorem ayR(x0:ao)(w9:(List (List Int)))(rV:(List Bool)):ag (So x0 w9 rV) (Hc x0 w9 rV):=by
 unfold So Hc
 with_reducible repeat' first | exact ag.refl _ | refine ag.aa ?_ ?_ | exact adL _ | refine WV (λ _ _ hy _=>?_) | refine N6 (λ _ _=>?_) _ _ | exact ayS _ _ _ | exact hy _ _ | refine ag.bind ?_ λ _=>?_
def MH(x0:ao)(x1:(List (List Int))):Option (Int × Int) :=
 (So x0 x1 [false,false,false,false,false,false,false,false,false,false,false,false,false,false,false,false]).bind λ fh =>
 aa (fh.2.2 != 0)
 (some (0,fh.2.2))
 ((qI (O:=(Unit ⊕ (Int × Int))) (λ (vk:Int) =>
 aa (decide (vk < (x0.av.length:Int)))
 ((Sr fh.2.1.book fh.1 vk).bind λ lq =>
 aa (!lq)
 (some (.inr (.inr (2,0))))
 (some (.inl (i64 (vk+1)))))
 (some (.inr (.inl ())))) 0).bind (Sum.elim (λ (_:Unit) =>
 (ME fh.2.1 (λ y=>aby y x0 fh.1 fh.2.1)).bind λ lL =>
 (abx fh.2.1 lL).bind λ Ex =>
 some (Ex,0))
  (λ q=>some q)))
theorem azi(x0:ao)(x1:(List (List Int))):ag (MH x0 x1) (m32 x0 x1):=by
 unfold MH m32
 with_reducible repeat' first | exact ag.refl _ | refine ag.loop λ _=>?_ | refine ag.aa ?_ ?_ | refine ag.elim (λ _=>?_) (λ _=>?_) _ | exact ayQ _ _ | refine N4 _ (λ _=>?_) | exact WT _ _ _ | exact ayU _ _ _ _ | exact ayR _ _ _ | exact hy _ _ | refine ag.bind ?_ λ _=>?_
def d121(x0:ao):{c // ag c (o7 x0)}:=⟨_,by
 unfold o7
 with_reducible repeat' first | intro _ | apply ag.bind | exact ag.refl _⟩
def zQ{S:Type}(ys:(List Bool)→S→Option (S × Bool)):Nat→((List Bool)→Int→bW→Int→(List Bool)→(List Bool)→S→Option (S × Bool)) × ((List Bool)→Int→Int→Int→bW→Int→(List Bool)→(List Bool)→S→Option (S × Bool))
 | 0=>(λ _ _ _ _ _ _ _=>none,λ _ _ _ _ _ _ _ _ _=>none)
 | k+1=>(λ x0 x1 xX xO xG xA s0 =>
  aa (x1 == (xX.book.av.length:Int))
  ((ys x0 s0).bind λ nc =>
  some (nc.1,nc.2))
  ((kU .i64 xO x1).bind λ eP =>
  (fH .and .i64 eP 1).bind λ jy =>
  aa (jy == 1)
  (((zQ ys k).1 x0 (i64 (x1+1)) xX xO xG xA s0).bind λ iZ =>
  some (iZ.1,iZ.2))
  ((idx xX.book.av x1).bind λ fX =>
  ((zQ ys k).2 x0 x1 0 fX.ax xX xO xG xA s0).bind λ eQ =>
  some (eQ.1,eQ.2))),
  λ x0 x1 x2 x3 xX xO xG xA s0 =>
  aa (x3 == 0)
  (((((Sr xX.book x0 x1).bind λ jy =>
  aa (!jy)
  (some (s0,true))
  (((zQ ys k).1 x0 (i64 (x1+1)) xX xO xG xA s0).bind λ bS =>
  some (bS.1,bS.2))):Option (S × Bool))).bind (λ (yz:(S × Bool)) =>
  some (yz.1,yz.2)))
  ((qI (O:=(S ⊕ (S × Bool))) (λ (bF:(S × Int × (List Bool))) =>
  aa (decide (bF.2.1 < (xX.book.ax.length:Int)))
  (((((idx xG bF.2.1).bind λ zi =>
  aa (!zi)
  (some true)
  ((gI 4 xA x1).bind λ tF =>
  (idx tF bF.2.1).bind λ zj =>
  some (!zj))):Option Bool)).bind (λ (A8:Bool) =>
  aa A8
  (some (.inl (bF.1,i64 (bF.2.1+1),bF.2.2)))
  ((gI 4 bF.2.2 x1).bind λ GZ =>
  (idx GZ bF.2.1).bind λ _ =>
  ((zQ ys k).2 (lM 4 bF.2.2 x1 bF.2.1 true) x1 (i64 (bF.2.1+1)) (i64 (x3 - 1)) xX xO xG xA bF.1).bind λ lQ =>
  aa (!lQ.2)
  (some (.inr (.inr (lQ.1,false))))
  ((gI 4 (lM 4 bF.2.2 x1 bF.2.1 true) x1).bind λ vE =>
  (idx vE bF.2.1).bind λ _ =>
  some (.inl (lQ.1,i64 (bF.2.1+1),lM 4 (lM 4 bF.2.2 x1 bF.2.1 true) x1 bF.2.1 false))))))
  (some (.inr (.inl bF.1)))) (s0,x2,x0)).bind (Sum.elim (λ (ox:S) =>
  some (ox,true))
   (λ q=>some q))))
theorem adJ{S:Type}{ys kP:(List Bool)→S→Option (S × Bool)}(h:∀ y s,ag (ys y s) (kP y s)):∀ k,(∀ x0 x1 x2 x3 x4 x5 s0,ag ((zQ ys k).1 x0 x1 x2 x3 x4 x5 s0) ((kT kP k).1 x0 x1 x2 x3 x4 x5 s0))∧(∀ x0 x1 x2 x3 x4 x5 x6 x7 s0,ag ((zQ ys k).2 x0 x1 x2 x3 x4 x5 x6 x7 s0) ((kT kP k).2 x0 x1 x2 x3 x4 x5 x6 x7 s0))
 | 0=>⟨λ _ _ _ _ _ _ _=>ag.none,λ _ _ _ _ _ _ _ _ _=>ag.none⟩
 | k+1=>by
  have ih:=adJ h k
  have ih1:=ih.1
  have ih2:=ih.2
  rw [zQ,kT]
  constructor
  ·intro x0 x1 x2 x3 x4 x5 s0
   dsimp only
   with_reducible repeat' first | exact ag.refl _ | refine ag.loop λ _=>?_ | refine ag.aa ?_ ?_ | refine ag.elim (λ _=>?_) (λ _=>?_) _ | exact WT _ _ _ | exact h _ _ | exact ih1 _ _ _ _ _ _ _ | exact ih2 _ _ _ _ _ _ _ _ _ | refine ag.bind ?_ λ _=>?_
  ·intro x0 x1 x2 x3 x4 x5 x6 x7 s0
   dsimp only
   repeat' (first | with_reducible exact ag.refl _ | with_reducible refine ag.loop λ _=>?_ | with_reducible refine ag.aa ?_ ?_ | with_reducible refine ag.elim (λ _=>?_) (λ _=>?_) _ | with_reducible refine ag.gu (λ _ _=>?_) _ _ | with_reducible exact WT _ _ _ | with_reducible exact h _ _ | with_reducible exact ih1 _ _ _ _ _ _ _ | with_reducible exact ih2 _ _ _ _ _ _ _ _ _ | with_reducible refine ag.bind ?_ λ _=>?_)
def abI{S:Type}(ys:(List Bool)→S→Option (S × Bool))(x1:bW)(x2:Int)(x3:(List Bool))(x4:(List Bool))(s0:S):Option S :=
 ((zQ ys 40).1 [false,false,false,false,false,false,false,false,false,false,false,false,false,false,false,false] 0 x1 x2 x3 x4 s0).bind λ AZ =>
  some AZ.1
theorem N5{S:Type}{ys kP:(List Bool)→S→Option (S × Bool)}(h:∀ y s,ag (ys y s) (kP y s))(x1:bW)(x2:Int)(x3:(List Bool))(x4:(List Bool))(s0:S):ag (abI ys x1 x2 x3 x4 s0) (qk kP x1 x2 x3 x4 s0):=by
 unfold abI qk
 with_reducible repeat' first | exact ag.refl _ | refine (adJ (λ _ _=>?_) 40).1 _ _ _ _ _ _ _ | exact h _ _ | refine ag.bind ?_ λ _=>?_
def d122(x0:bW)(x1:(List Bool))(x2:(List Bool))(x3:Int):{c // ag c (vJ x0 x1 x2 x3)}:=⟨_,by
 unfold vJ
 with_reducible repeat' first | intro _ | apply ag.bind | exact ag.refl _⟩
def d124(x0:ao):{c // ag c (vC x0)}:=⟨_,by
 unfold vC
 with_reducible repeat' first | intro _ | apply ag.loop | apply ag.aa | apply ag.bind | exact ag.refl _⟩
def d34(x0:ao):{c // ag c (np x0)}:=⟨_,by
 unfold np
 with_reducible repeat' first | intro _ | apply yp | apply (d121 _).2 | apply (d122 _ _ _ _).2 | apply Ko | apply (d124 _).2 | apply N5 | apply ag.aa | apply ag.elim | apply ag.gu | apply ag.bind | exact ag.refl _⟩
abbrev SC(x0:ao):=(d34 x0).1
theorem azj(x0:ao):ag (SC x0) (np x0):=(d34 x0).2
def d126(x0:ao)(x1:(List Bool)):{c // ag c (Bq x0 x1)}:=⟨_,by
 unfold Bq
 with_reducible repeat' first | intro _ | apply ag.loop | apply ag.aa | apply ag.bind | exact ag.refl _⟩
def d36(x0:ao):{c // ag c (Be x0)}:=⟨_,by
 unfold Be
 with_reducible repeat' first | intro _ | apply yp | apply (d121 _).2 | apply (d122 _ _ _ _).2 | apply Ko | apply (d124 _).2 | apply (d126 _ _).2 | apply N5 | apply ag.aa | apply ag.elim | apply ag.gu | apply ag.bind | exact ag.refl _⟩
abbrev c36(x0:ao):=(d36 x0).1
theorem azk(x0:ao):ag (c36 x0) (Be x0):=(d36 x0).2
def Su (x1:((List Bool)→((List (List Bool)) ⊕ Empty)→Option (((List (List Bool)) ⊕ Empty) × Bool))→((List (List Bool)) ⊕ Empty)→Option ((List (List Bool)) ⊕ Empty)):Option (List (List Bool)) :=
 (x1 (gu (λ (rY:(List Bool)) (kz:(List (List Bool)))=>(((eW kz [rY]).bind λ gQ =>
 some (.inl gQ)):Option ((List (List Bool)) ⊕ Empty)))) (.inl [])).bind (Sum.elim (λ (kz:(List (List Bool))) =>
 some kz)
  (λ (o:Empty)=>o.elim))
theorem ay4{x1 gg:((List Bool)→((List (List Bool)) ⊕ Empty)→Option (((List (List Bool)) ⊕ Empty) × Bool))→((List (List Bool)) ⊕ Empty)→Option ((List (List Bool)) ⊕ Empty)}(il:∀ ys kP,(∀ y s,ag (ys y s) (kP y s))→∀ s,ag (x1 ys s) (gg kP s)):ag (Su x1) (Hr gg):=by
 unfold Su Hr
 with_reducible repeat' first | exact ag.refl _ | refine ag.elim (λ _=>?_) (λ _=>?_) _ | refine ag.gu (λ _ _=>?_) _ _ | refine il _ _ (λ _ _=>?_) _ | exact il | exact hy _ _ | refine ag.bind ?_ λ _=>?_
def abA (x0:((List Bool)→((List (List Bool)) ⊕ Empty)→Option (((List (List Bool)) ⊕ Empty) × Bool))→((List (List Bool)) ⊕ Empty)→Option ((List (List Bool)) ⊕ Empty)):Option (List (List Bool)) :=
 (Su x0).bind λ de =>
 some de
theorem ayV{x0 AX:((List Bool)→((List (List Bool)) ⊕ Empty)→Option (((List (List Bool)) ⊕ Empty) × Bool))→((List (List Bool)) ⊕ Empty)→Option ((List (List Bool)) ⊕ Empty)}(CA:∀ ys kP,(∀ y s,ag (ys y s) (kP y s))→∀ s,ag (x0 ys s) (AX kP s)):ag (abA x0) (GN AX):=by
 unfold abA GN
 with_reducible repeat' first | exact ag.refl _ | refine ay4 (λ _ _ hy _=>?_) | refine CA _ _ (λ _ _=>?_) _ | exact CA | exact hy _ _ | refine ag.bind ?_ λ _=>?_
def abB(x0:((List Bool)→Option Int))(x1:(List (List Bool))):Option (List Bool) :=
 (idx x1 0).bind λ lJ =>
 (nN x1 1 (x1.length:Int)).bind λ tx =>
 (qI (O:=(List Bool)) (λ (mI:(Int × (List Bool))) =>
 aa (decide (mI.1 < (tx.length:Int)))
 ((idx tx mI.1).bind λ GK =>
 (x0 GK).bind λ q8 =>
 (x0 mI.2).bind λ mL =>
 aa (decide (q8 < mL))
 (some (.inl (i64 (mI.1+1),GK)))
 (some (.inl (i64 (mI.1+1),mI.2))))
 (some (.inr mI.2))) (0,lJ)).bind (λ (Dk:(List Bool)) =>
 some Dk)
theorem ayW{x0 AX:((List Bool)→Option Int)}(CA:∀ y,ag (x0 y) (AX y))(x1:(List (List Bool))):ag (abB x0 x1) (GO AX x1):=by
 unfold abB GO
 with_reducible repeat' first | exact ag.refl _ | refine ag.loop λ _=>?_ | refine ag.aa ?_ ?_ | exact CA _ | exact hy _ _ | refine ag.bind ?_ λ _=>?_
def d129(x0:ao)(x1:(List Bool)):{c // ag c (A5 x0 x1)}:=⟨_,by
 unfold A5
 with_reducible repeat' first | intro _ | apply ag.loop | apply ag.aa | apply ag.bind | exact ag.refl _⟩
def d39(x0:ao):{c // ag c (tz x0)}:=⟨_,by
 unfold tz
 with_reducible repeat' first | intro _ | apply yp | apply (d121 _).2 | apply (d122 _ _ _ _).2 | apply Ko | apply (d124 _).2 | apply (d126 _ _).2 | apply ayV | apply ayW | apply (d129 _ _).2 | apply N5 | apply ag.aa | apply ag.bind | exact ag.refl _ | exact ‹∀ _ _,ag _ _› _ _⟩
abbrev c39(x0:ao):=(d39 x0).1
theorem azm(x0:ao):ag (c39 x0) (tz x0):=(d39 x0).2
def d133(x0:Int):{c // ag c (zf x0)}:=⟨_,by
 unfold zf
 with_reducible repeat' first | intro _ | apply ag.loop | apply ag.aa | apply ag.bind | exact ag.refl _⟩
abbrev YQ(x0:Int):=(d133 x0).1
theorem agZ(x0:Int):ag (YQ x0) (zf x0):=(d133 x0).2
def d211(x0:Int)(x1:Int):{c // ag c (KB x0 x1)}:=⟨_,by
 unfold KB
 with_reducible repeat' first | intro _ | apply (d235 _).2 | apply ag.aa | apply ag.bind | exact ag.refl _⟩
def d178(x0:(List Int))(x1:(List Int)):{c // ag c (D2 x0 x1)}:=⟨_,by
 unfold D2
 with_reducible repeat' first | intro _ | apply (d211 _ _).2 | apply ag.loop | apply ag.aa | apply ag.elim | apply ag.bind | exact ag.refl _⟩
abbrev QA(x0:(List Int))(x1:(List Int)):=(d178 x0 x1).1
theorem ag0(x0:(List Int))(x1:(List Int)):ag (QA x0 x1) (D2 x0 x1):=(d178 x0 x1).2
def abC(x0:Int)(x1:(Int→Option Bool)):Option ((List Int) × Bool) :=
 (Hu .i64 1 x0).bind λ nW =>
 (qI (O:=((List Int) × Bool)) (λ (fB:((List Int) × Bool × Int)) =>
 aa (decide (fB.2.2 < nW))
 ((YQ fB.2.2).bind λ nU =>
 (((aa (!fB.2.1)
 ((x1 fB.2.2).bind λ oH =>
 some oH)
 (aa (decide ((nU.length:Int) < (fB.1.length:Int)))
 ((x1 fB.2.2).bind λ AY =>
 some AY)
 (aa ((nU.length:Int) == (fB.1.length:Int))
 ((QA nU fB.1).bind λ xt =>
 aa (decide (xt < 0))
 ((x1 fB.2.2).bind λ L2 =>
 some L2)
 (some false))
 (some false)))):Option Bool)).bind (λ (Gf:Bool) =>
 aa Gf
 (some (.inl (nU,true,i64 (fB.2.2+1))))
 (some (.inl (fB.1,fB.2.1,i64 (fB.2.2+1))))))
 (some (.inr (fB.1,fB.2.1)))) ([],false,0)).bind (λ (yA:((List Int) × Bool)) =>
 some (yA.1,yA.2))
theorem WU(x0:Int){x1 gg:(Int→Option Bool)}(il:∀ y,ag (x1 y) (gg y)):ag (abC x0 x1) (zp x0 gg):=by
 unfold abC zp
 with_reducible repeat' first | exact ag.refl _ | refine ag.loop λ _=>?_ | refine ag.aa ?_ ?_ | exact agZ _ | exact ag0 _ _ | exact il _ | exact hy _ _ | refine ag.bind ?_ λ _=>?_
def d134(x0:bW)(x1:(List Bool))(x2:(List Bool))(x3:Int):{c // ag c (zq x0 x1 x2 x3)}:=⟨_,by
 unfold zq
 with_reducible repeat' first | intro _ | apply (d122 _ _ _ _).2 | apply N5 | apply ag.elim | apply ag.gu | apply ag.bind | exact ag.refl _⟩
def d131(x0:Int)(x1:bW)(x2:(List Bool))(x3:(List Bool)):{c // ag c (Eh x0 x1 x2 x3)}:=⟨_,by
 unfold Eh
 with_reducible repeat' first | intro _ | apply (d132 _).2 | apply (d133 _).2 | apply (d134 _ _ _ _).2 | apply ag.aa | apply ag.bind | exact ag.refl _⟩
def d41(x0:ao):{c // ag c (xk x0)}:=⟨_,by
 unfold xk
 with_reducible repeat' first | intro _ | apply yp | apply (d121 _).2 | apply Ko | apply (d124 _).2 | apply WU | apply (d131 _ _ _ _).2 | apply ag.aa | apply ag.bind | exact ag.refl _⟩
abbrev c41(x0:ao):=(d41 x0).1
theorem azn(x0:ao):ag (c41 x0) (xk x0):=(d41 x0).2
def d138(x0:Int)(x1:bW)(x2:(List Bool))(x3:(List Bool)):{c // ag c (D7 x0 x1 x2 x3)}:=⟨_,by
 unfold D7
 with_reducible repeat' first | intro _ | apply (d134 _ _ _ _).2 | apply ag.bind | exact ag.refl _⟩
def d43(x0:ao):{c // ag c (pC x0)}:=⟨_,by
 unfold pC
 with_reducible repeat' first | intro _ | apply yp | apply (d121 _).2 | apply Ko | apply (d124 _).2 | apply WU | apply (d138 _ _ _ _).2 | apply ag.aa | apply ag.bind | exact ag.refl _⟩
abbrev SE(x0:ao):=(d43 x0).1
theorem azo(x0:ao):ag (SE x0) (pC x0):=(d43 x0).2
def d46(x0:ao)(x1:dO):{c // ag c (C4 x0 x1)}:=⟨_,by
 unfold C4
 with_reducible repeat' first | intro _ | apply ag.bind | exact ag.refl _⟩
abbrev SF(x0:ao)(x1:dO):=(d46 x0 x1).1
theorem azp(x0:ao)(x1:dO):ag (SF x0 x1) (C4 x0 x1):=(d46 x0 x1).2
def d48(x0:ao)(x1:Int):{c // ag c (tK x0 x1)}:=⟨_,by
 unfold tK
 with_reducible repeat' first | intro _ | apply (d82 _).2 | apply (d104 _ _).2 | apply (d139 _ _ _).2 | apply ag.aa | apply ag.bind | exact ag.refl _⟩
abbrev SG(x0:ao)(x1:Int):=(d48 x0 x1).1
theorem azq(x0:ao)(x1:Int):ag (SG x0 x1) (tK x0 x1):=(d48 x0 x1).2
def d49(x0:Int)(x1:Int):{c // ag c (C5 x0 x1)}:=⟨_,by
 unfold C5
 with_reducible repeat' first | intro _ | apply ag.bind | exact ag.refl _⟩
abbrev SH(x0:Int)(x1:Int):=(d49 x0 x1).1
theorem adK(x0:Int)(x1:Int):ag (SH x0 x1) (C5 x0 x1):=(d49 x0 x1).2
def d151(x0:(List dO)):{c // ag c (Em x0)}:=⟨_,by
 unfold Em
 with_reducible repeat' first | intro _ | apply ag.bind | exact ag.refl _⟩
def d179(x0:(List dJ)):{c // ag c (En x0)}:=⟨_,by
 unfold En
 with_reducible repeat' first | intro _ | apply ag.bind | exact ag.refl _⟩
def d180(x0:(List Reach)):{c // ag c (Eo x0)}:=⟨_,by
 unfold Eo
 with_reducible repeat' first | intro _ | apply ag.bind | exact ag.refl _⟩
def d181(x0:(List dI)):{c // ag c (Ep x0)}:=⟨_,by
 unfold Ep
 with_reducible repeat' first | intro _ | apply ag.bind | exact ag.refl _⟩
def d182(x0:(List iy)):{c // ag c (Er x0)}:=⟨_,by
 unfold Er
 with_reducible repeat' first | intro _ | apply ag.bind | exact ag.refl _⟩
def d140(x0:ao):{c // ag c (HH x0)}:=⟨_,by
 unfold HH
 with_reducible repeat' first | intro _ | apply (d151 _).2 | apply (d179 _).2 | apply (d180 _).2 | apply (d181 _).2 | apply (d182 _).2 | apply ag.bind | exact ag.refl _⟩
def d50(x0:ao)(x1:Int)(x2:Int):{c // ag c (Bf x0 x1 x2)}:=⟨_,by
 unfold Bf
 with_reducible repeat' first | intro _ | apply (d82 _).2 | apply (d104 _ _).2 | apply (d139 _ _ _).2 | apply (d140 _).2 | apply ag.loop | apply ag.aa | apply ag.bind | exact ag.refl _⟩
abbrev c50(x0:ao)(x1:Int)(x2:Int):=(d50 x0 x1 x2).1
theorem azr(x0:ao)(x1:Int)(x2:Int):ag (c50 x0 x1 x2) (Bf x0 x1 x2):=(d50 x0 x1 x2).2
def d144(x0:ao)(x1:Int):{c // ag c (Kv x0 x1)}:=⟨_,by
 unfold Kv
 with_reducible repeat' first | intro _ | apply (d133 _).2 | apply ag.loop | apply ag.aa | apply ag.bind | exact ag.refl _⟩
def d145(x0:ao):{c // ag c (Kw x0)}:=⟨_,by
 unfold Kw
 with_reducible repeat' first | intro _ | apply N6 | apply ag.elim | apply ag.gu | apply ag.bind | exact ag.refl _⟩
def d143(x0:Int)(x1:ao):{c // ag c (FJ x0 x1)}:=⟨_,by
 unfold FJ
 with_reducible repeat' first | intro _ | apply (d144 _ _).2 | apply (d145 _).2 | apply ag.bind | exact ag.refl _⟩
def d54(x0:ao):{c // ag c (F2 x0)}:=⟨_,by
 unfold F2
 with_reducible repeat' first | intro _ | apply (d82 _).2 | apply WU | apply (d143 _ _).2 | apply ag.aa | apply ag.bind | exact ag.refl _⟩
abbrev c54(x0:ao):=(d54 x0).1
theorem azs(x0:ao):ag (c54 x0) (F2 x0):=(d54 x0).2
def d146(x0:br)(x1:Int)(x2:Int):{c // ag c (FK x0 x1 x2)}:=⟨_,by
 unfold FK
 with_reducible repeat' first | intro _ | apply ag.bind | exact ag.refl _⟩
def d59(x0:ao):{c // ag c (F3 x0)}:=⟨_,by
 unfold F3
 with_reducible repeat' first | intro _ | apply yp | apply N4 | apply (d121 _).2 | apply (d146 _ _ _).2 | apply ag.loop | apply ag.aa | apply ag.bind | exact ag.refl _⟩
abbrev c59(x0:ao):=(d59 x0).1
theorem azt(x0:ao):ag (c59 x0) (F3 x0):=(d59 x0).2
def d66(x0:ao)(x1:Int)(x2:Int):{c // ag c (zk x0 x1 x2)}:=⟨_,by
 unfold zk
 with_reducible repeat' first | intro _ | apply (d82 _).2 | apply (d107 _ _).2 | apply (d149 _ _ _).2 | apply ag.aa | apply ag.bind | exact ag.refl _⟩
abbrev c66(x0:ao)(x1:Int)(x2:Int):=(d66 x0 x1 x2).1
theorem azu(x0:ao)(x1:Int)(x2:Int):ag (c66 x0 x1 x2) (zk x0 x1 x2):=(d66 x0 x1 x2).2
def d159(x0:Int):{c // ag c (FL x0)}:=⟨_,by
 unfold FL
 with_reducible repeat' first | intro _ | apply ag.bind | exact ag.refl _⟩
abbrev abE(x0:Int):=(d159 x0).1
theorem ayY(x0:Int):ag (abE x0) (FL x0):=(d159 x0).2
def SJ  : Option ao :=
 (SH 9 11).bind λ bS =>
 (abE 15).bind λ xc =>
 some (⟨10,[(⟨10,40⟩:dJ),(⟨20,20⟩:dJ)],[bS,xc],[(⟨⟨#[97,110,110]⟩,20⟩:dI),(⟨⟨#[98,111]⟩,12⟩:dI)],[(⟨0,0,20,2⟩:iy),(⟨1,30,15,1⟩:iy),(⟨0,60,30,1⟩:iy)],[]⟩:ao)
theorem azv  : ag (SJ ) (KL ):=by
 unfold SJ KL
 with_reducible repeat' first | exact ag.refl _ | exact adK _ _ | exact ayY _ | exact hy _ _ | refine ag.bind ?_ λ _=>?_
def d102(x0:(List Int))(x1:(List Int)):{c // ag c (zw x0 x1)}:=⟨_,by
 unfold zw
 with_reducible repeat' first | intro _ | apply ag.loop | apply ag.aa | apply ag.elim | apply ag.bind | exact ag.refl _⟩
def d27(x0:(List Int))(x1:(List Int)):{c // ag c (zy x0 x1)}:=⟨_,by
 unfold zy
 with_reducible repeat' first | intro _ | apply (d102 _ _).2 | apply ag.aa | apply ag.bind | exact ag.refl _⟩
abbrev c27(x0:(List Int))(x1:(List Int)):=(d27 x0 x1).1
theorem aza(x0:(List Int))(x1:(List Int)):ag (c27 x0 x1) (zy x0 x1):=(d27 x0 x1).2
def d89(x0:(List Int))(x1:(List Int)):{c // ag c (yt x0 x1)}:=⟨_,by
 unfold yt
 with_reducible repeat' first | intro _ | apply (d27 _ _).2 | apply ag.bind | exact ag.refl _⟩
abbrev Iw(x0:(List Int))(x1:(List Int)):=(d89 x0 x1).1
theorem azw(x0:(List Int))(x1:(List Int)):ag (Iw x0 x1) (yt x0 x1):=(d89 x0 x1).2
def SD(x0:(List (List Int)))(x1:(List (List Int))):Option Bool :=
 aa ((x0.length:Int) != (x1.length:Int))
 (some false)
 ((qI (O:=(Unit ⊕ Bool)) (λ (ta:Int) =>
 aa (decide (ta < (x0.length:Int)))
 ((idx x0 ta).bind λ q7 =>
 (idx x1 ta).bind λ lK =>
 (c27 q7 lK).bind λ lq =>
 aa (!lq)
 (some (.inr (.inr false)))
 (some (.inl (i64 (ta+1)))))
 (some (.inr (.inl ())))) 0).bind (Sum.elim (λ (_:Unit) =>
 some true)
  (λ q=>some q)))
theorem azl(x0:(List (List Int)))(x1:(List (List Int))):ag (SD x0 x1) (KJ x0 x1):=by
 unfold SD KJ
 with_reducible repeat' first | exact ag.refl _ | refine ag.loop λ _=>?_ | refine ag.aa ?_ ?_ | refine ag.elim (λ _=>?_) (λ _=>?_) _ | exact aza _ _ | exact hy _ _ | refine ag.bind ?_ λ _=>?_
def MJ(x0:(List (List Int)))(x1:(List (List Int))):Option Bool :=
 (SD x0 x1).bind λ de =>
 some de
theorem azx(x0:(List (List Int)))(x1:(List (List Int))):ag (MJ x0 x1) (F4 x0 x1):=by
 unfold MJ F4
 with_reducible repeat' first | exact ag.refl _ | exact azl _ _ | exact hy _ _ | refine ag.bind ?_ λ _=>?_
def c22  : Option Bool :=
 (SJ).bind λ eT =>
 (SF eT (⟨0,10,true⟩:dO)).bind λ hF =>
 (SG eT 10).bind λ DO =>
 (SG eT 21).bind λ xu =>
 (c23 eT).bind λ xm =>
 (c25 hF 0).bind λ qV =>
 (c28 eT 0).bind λ oL =>
 (MG eT 1 0).bind λ pB =>
 (MG eT 1 1).bind λ qT =>
 (MG eT 1 2).bind λ qi =>
 (c66 eT 0 1).bind λ qU =>
 (MH eT ([[0,1],[0],[1]])).bind λ vL =>
 (MH hF ([[0,1],[0],[1]])).bind λ DQ =>
 (((aa (DO.2 != 0)
 (some true)
 (aa (xu.2 != 0)
 (some true)
 (aa (xm.2 != 0)
 (some true)
 (aa (qV.2 != 0)
 (some true)
 (aa (oL.2 != 0)
 (some true)
 (aa (pB.2 != 0)
 (some true)
 (aa (qT.2 != 0)
 (some true)
 (aa (qi.2 != 0)
 (some true)
 (aa (qU.2 != 0)
 (some true)
 (aa (vL.2 != 0)
 (some true)
 (some (DQ.2 != 0)))))))))))):Option Bool)).bind (λ (Gh:Bool) =>
 aa Gh
 (some false)
 ((((aa (DO.1 != 40)
 (some true)
 (aa (xu.1 != 0)
 (some true)
 (aa (xm.1 != 3)
 (some true)
 ((Iw qV.1 [9,10]).bind λ Ev =>
 aa (!Ev)
 (some true)
 ((SH 20 40).bind λ Ll =>
 aa (!(LZ oL.1 Ll == true))
 (some true)
 (aa (pB.1 != 1)
 (some true)
 (aa (qT.1 != 2)
 (some true)
 (aa (qi.1 != 0)
 (some true)
 (aa (!qU.1)
 (some true)
 (aa (vL.1 != 0)
 (some true)
 (some (DQ.1 != 1)))))))))))):Option Bool)).bind (λ (Gi:Bool) =>
 aa Gi
 (some false)
 ((SC eT).bind λ DR =>
 (SC hF).bind λ DS =>
 (c36 hF).bind λ xa =>
 (c39 hF).bind λ rX =>
 (c41 hF).bind λ xb =>
 (SE eT).bind λ DT =>
 (c59 eT).bind λ pg =>
 (c50 hF 12 15).bind λ qe =>
 (SE qe.1).bind λ GH =>
 (SF hF (⟨0,8,true⟩:dO)).bind λ Lm =>
 (c54 Lm).bind λ DU =>
 (((aa (DR.2 != 0)
 (some true)
 (aa (DS.2 != 0)
 (some true)
 (aa (xa.2.2 != 0)
 (some true)
 (aa (rX.2.2.2 != 0)
 (some true)
 (aa (xb.2.2 != 0)
 (some true)
 (aa (DT.2 != 0)
 (some true)
 (aa (pg.2.2.2 != 0)
 (some true)
 (aa (qe.2 != 0)
 (some true)
 (aa (GH.2 != 0)
 (some true)
 (some (DU.2 != 0))))))))))):Option Bool)).bind (λ (Gj:Bool) =>
 aa Gj
 (some false)
 ((((aa (DR.1 != 0)
 (some true)
 (aa (DS.1 != 2)
 (some true)
 (aa (!xa.2.1)
 (some true)
 ((MJ xa.1 ([[0,1],[0],[0]])).bind λ PQ =>
 aa (!PQ)
 (some true)
 (aa (!rX.2.2.1)
 (some true)
 (aa (rX.2.1 != 50)
 (some true)
 ((MJ rX.1 ([[0,1],[0],[1]])).bind λ DW =>
 aa (!DW)
 (some true)
 (aa (!xb.2.1)
 (some true)
 ((Iw xb.1 [0,1]).bind λ PS =>
 aa (!PS)
 (some true)
 ((Iw DT.1 [2]).bind λ PT =>
 some (!PT))))))))))):Option Bool)).bind (λ (Gk:Bool) =>
 aa Gk
 (some false)
 (aa (pg.1 == 0)
 (aa (pg.2.1 == 9)
 (aa (pg.2.2.1 == 2)
 (aa ((GH.1.length:Int) == 0)
 ((Iw DU.1 [1]).bind λ PU =>
 aa PU
 (aa ((qe.1.Rows.length:Int) == 3)
 ((idx qe.1.Rows 1).bind λ GJ =>
 aa (El GJ (⟨12,15⟩:dJ) == true)
 ((idx qe.1.Rows 2).bind λ xw =>
 some (El xw (⟨20,15⟩:dJ) == true))
 (some false))
 (some false))
 (some false))
 (some false))
 (some false))
 (some false))
 (some false)))))))))
theorem ay7  : ag (c22 ) (fF ):=by
 unfold c22 fF
 with_reducible repeat' first | exact ag.refl _ | refine ag.aa ?_ ?_ | exact ay8 _ | exact ay9 _ _ | exact azg _ _ | exact azh _ _ _ | exact azi _ _ | exact azj _ | exact azk _ | exact azm _ | exact azn _ | exact azo _ | exact azp _ _ | exact azq _ _ | exact adK _ _ | exact azr _ _ _ | exact azs _ | exact azt _ | exact azu _ _ _ | exact azv | exact azw _ _ | exact azx _ _ | exact hy _ _ | refine ag.bind ?_ λ _=>?_
def d58(x0:(List Int))(x1:(List Int)):{c // ag c (A7 x0 x1)}:=⟨_,by
 unfold A7
 with_reducible repeat' first | intro _ | apply (d102 _ _).2 | apply ag.aa | apply ag.bind | exact ag.refl _⟩
abbrev c58(x0:(List Int))(x1:(List Int)):=(d58 x0 x1).1
theorem aF9(x0:(List Int))(x1:(List Int)):ag (c58 x0 x1) (A7 x0 x1):=(d58 x0 x1).2
def d57(x0:(List Int))(x1:Int):{c // ag c (Bb x0 x1)}:=⟨_,by
 unfold Bb
 with_reducible repeat' first | intro _ | apply ag.loop | apply ag.aa | apply ag.bind | exact ag.refl _⟩
abbrev Y3(x0:(List Int))(x1:Int):=(d57 x0 x1).1
theorem aGu(x0:(List Int))(x1:Int):ag (Y3 x0 x1) (Bb x0 x1):=(d57 x0 x1).2
theorem aDa:fF=some true:=ay7 _ (by decide +kernel)
end
end Go.Proofs.YtihapemckcdicaaGreatDoor
