/- The chapter's examples, by reckoning. Conditions: none. -/
import Derived.Test.YtihapemckcdicaaGreatDoorQVStM
import Derived.Test.YtihapemckcdicaaGreatDoorQVLgC
namespace Go.Proofs.YtihapemckcdicaaGreatDoor
open Go.Lg Go.Proofs
noncomputable section
set_option maxRecDepth 100000
set_option maxHeartbeats 4000000
def d139(x0:Int)(x1:Int)(x2:Int):{c // ab c (j8 x0 x1 x2)}:=⟨_,by
 unfold j8
 with_reducible repeat' first | intro _ | apply ab.af | apply ab.bind | exact ab.refl _⟩
def akB(x0:ByteArray):Option Bool:=J2 x0
theorem aCJ(x0:ByteArray):ab (akB x0) (J2 x0):=ab.refl _
def LZ(x0:cq)(x1:(bz→Option Bool)):Option Int :=
 (pa (O:=Int) (λ (mN:(Int × Int)) =>
 af (decide (mN.2 < (x0.fb.length:Int)))
 ((idx x0.fb mN.2).bind λ GG =>
 (x1 GG).bind λ PG =>
 af PG
 (some (.inl (i64 (mN.1+1),i64 (mN.2+1))))
 (some (.inl (mN.1,i64 (mN.2+1)))))
 (some (.inr mN.1))) (0,0)).bind (λ (F5:Int) =>
 some F5)
theorem Nz(x0:cq){x1 fS:(bz→Option Bool)}(gA:∀ y,ab (x1 y) (fS y)):ab (LZ x0 x1) (xy x0 fS):=by
 unfold LZ xy
 with_reducible repeat' first | exact ab.refl _ | refine ab.loop λ _=>?_ | refine ab.af ?_ ?_ | exact gA _ | exact hy _ _ | refine ab.bind ?_ λ _=>?_
def d104(x0:ay)(x1:Int):{c // ab c (xx x0 x1)}:=⟨_,by
 unfold xx
 with_reducible repeat' first | intro _ | apply ab.loop | apply ab.af | apply ab.elim | apply ab.bind | exact ab.refl _⟩
def d111(x0:ay)(x1:bz)(x2:Int)(x3:Int):{c // ab c (Cp x0 x1 x2 x3)}:=⟨_,by
 unfold Cp
 with_reducible repeat' first | intro _ | apply (d104 _ _).2 | apply ab.af | apply ab.bind | exact ab.refl _⟩
def d172(x0:bz)(x1:cq)(x2:Int)(x3:Int):{c // ab c (zO x0 x1 x2 x3)}:=⟨_,by
 unfold zO
 with_reducible repeat' first | intro _ | apply (d111 _ _ _ _).2 | apply ab.bind | exact ab.refl _⟩
abbrev aaK(x0:bz)(x1:cq)(x2:Int)(x3:Int):=(d172 x0 x1 x2 x3).1
theorem aCo(x0:bz)(x1:cq)(x2:Int)(x3:Int):ab (aaK x0 x1 x2 x3) (zO x0 x1 x2 x3):=(d172 x0 x1 x2 x3).2
def Wv(x0:cq)(i k:Nat):Option Bool:=(LZ x0 (λ y=>aaK y x0 (k:Int) (i:Int))).bind λ n=>some (n == (x0.fb.length:Int))
theorem aC5(x0:cq)(i k:Nat):ab (Wv x0 i k) (rR x0 i k):=by
 unfold Wv rR
 with_reducible repeat' first | exact ab.refl _ | refine Nz _ (λ _=>?_) | exact aCo _ _ _ _ | refine ab.bind ?_ λ _=>?_
def aaz(x0:cq):Option (List Bool) :=
 if (0 < x0.book.aT.length∧x0.book.aT.length≤4)∧(0 < x0.book.aD.length∧x0.book.aD.length≤4) then
  (((List.range 16).mapM λ (p:Nat)=>if p / 4 < x0.book.aT.length∧p % 4 < x0.book.aD.length then Wv x0 (p / 4) (p % 4) else some false):Option (List Bool))
 else none
theorem JF(x0:cq):ab (aaz x0) (vG x0):=by
 unfold aaz vG
 split
 ·refine ab.mapM (λ p=>?_) _
  split
  ·exact aC5 _ _ _
  ·exact ab.refl _
 ·exact ab.none
def d265(x0:ay):{c // ab c (Fw x0)}:=⟨_,by
 unfold Fw
 with_reducible repeat' first | intro _ | apply (d139 _ _ _).2 | apply ab.af | apply ab.bind | exact ab.refl _⟩
def d266(x0:ay):{c // ab c (CA x0)}:=⟨_,by
 unfold CA
 with_reducible repeat' first | intro _ | apply (d139 _ _ _).2 | apply ab.loop | apply ab.af | apply ab.elim | apply ab.bind | exact ab.refl _⟩
def Q4(x0:(List Reach))(x1:(Reach→Option Bool)):Option Int :=
 (pa (O:=(Unit ⊕ Int)) (λ (dL:Int) =>
 af (decide (dL < (x0.length:Int)))
 ((idx x0 dL).bind λ jb =>
 (x1 jb).bind λ hZ =>
 af hZ
 (some (.inr (.inr dL)))
 (some (.inl (i64 (dL+1)))))
 (some (.inr (.inl ())))) 0).bind (Sum.elim (λ (_:Unit) =>
 some (-1))
  (λ q=>some q))
theorem aCL(x0:(List Reach)){x1 fS:(Reach→Option Bool)}(gA:∀ y,ab (x1 y) (fS y)):ab (Q4 x0 x1) (J3 x0 fS):=by
 unfold Q4 J3
 with_reducible repeat' first | exact ab.refl _ | refine ab.loop λ _=>?_ | refine ab.af ?_ ?_ | refine ab.elim (λ _=>?_) (λ _=>?_) _ | exact gA _ | exact hy _ _ | refine ab.bind ?_ λ _=>?_
def aaW(x0:(List Reach))(x1:(Reach→Option Bool)):Option Bool :=
 (Q4 x0 x1).bind λ cV =>
 some (decide (cV ≥ 0))
theorem aCI(x0:(List Reach)){x1 fS:(Reach→Option Bool)}(gA:∀ y,ab (x1 y) (fS y)):ab (aaW x0 x1) (Fy x0 fS):=by
 unfold aaW Fy
 with_reducible repeat' first | exact ab.refl _ | refine aCL _ (λ _=>?_) | exact gA _ | exact hy _ _ | refine ab.bind ?_ λ _=>?_
def d273(x0:Reach)(x1:Int)(x2:Int)(x3:Int):{c // ab c (CH x0 x1 x2 x3)}:=⟨_,by
 unfold CH
 with_reducible repeat' first | intro _ | apply ab.af | apply ab.bind | exact ab.refl _⟩
def d272(x0:Reach):{c // ab c (CG x0)}:=⟨_,by
 unfold CG
 with_reducible repeat' first | intro _ | apply (d273 _ _ _ _).2 | apply ab.bind | exact ab.refl _⟩
def d267(x0:ay):{c // ab c (CB x0)}:=⟨_,by
 unfold CB
 with_reducible repeat' first | intro _ | apply (d139 _ _ _).2 | apply aCI | apply (d272 _).2 | apply ab.af | apply ab.bind | exact ab.refl _⟩
def Q5(x0:(List fe))(x1:(fe→Option Bool)):Option Int :=
 (pa (O:=(Unit ⊕ Int)) (λ (dL:Int) =>
 af (decide (dL < (x0.length:Int)))
 ((idx x0 dL).bind λ jb =>
 (x1 jb).bind λ hZ =>
 af hZ
 (some (.inr (.inr dL)))
 (some (.inl (i64 (dL+1)))))
 (some (.inr (.inl ())))) 0).bind (Sum.elim (λ (_:Unit) =>
 some (-1))
  (λ q=>some q))
theorem aCM(x0:(List fe)){x1 fS:(fe→Option Bool)}(gA:∀ y,ab (x1 y) (fS y)):ab (Q5 x0 x1) (J4 x0 fS):=by
 unfold Q5 J4
 with_reducible repeat' first | exact ab.refl _ | refine ab.loop λ _=>?_ | refine ab.af ?_ ?_ | refine ab.elim (λ _=>?_) (λ _=>?_) _ | exact gA _ | exact hy _ _ | refine ab.bind ?_ λ _=>?_
def aaX(x0:(List fe))(x1:(fe→Option Bool)):Option Bool :=
 (Q5 x0 x1).bind λ cV =>
 some (decide (cV ≥ 0))
theorem aCK(x0:(List fe)){x1 fS:(fe→Option Bool)}(gA:∀ y,ab (x1 y) (fS y)):ab (aaX x0 x1) (Fz x0 fS):=by
 unfold aaX Fz
 with_reducible repeat' first | exact ab.refl _ | refine aCM _ (λ _=>?_) | exact gA _ | exact hy _ _ | refine ab.bind ?_ λ _=>?_
def d276(x0:fe)(x1:fe):{c // ab c (CJ x0 x1)}:=⟨_,by
 unfold CJ
 with_reducible repeat' first | intro _ | apply ab.bind | exact ab.refl _⟩
def d268(x0:ay):{c // ab c (CC x0)}:=⟨_,by
 unfold CC
 with_reducible repeat' first | intro _ | apply (d139 _ _ _).2 | apply aCJ | apply aCK | apply (d276 _ _).2 | apply ab.loop | apply ab.af | apply ab.elim | apply ab.bind | exact ab.refl _⟩
def d107(x0:Int)(x1:Int):{c // ab c (pb x0 x1)}:=⟨_,by
 unfold pb
 with_reducible repeat' first | intro _ | apply (d139 _ _ _).2 | apply ab.af | apply ab.bind | exact ab.refl _⟩
abbrev aaw(x0:Int)(x1:Int):=(d107 x0 x1).1
theorem aB9(x0:Int)(x1:Int):ab (aaw x0 x1) (pb x0 x1):=(d107 x0 x1).2
def d269(x0:ay):{c // ab c (CD x0)}:=⟨_,by
 unfold CD
 with_reducible repeat' first | intro _ | apply (d107 _ _).2 | apply (d139 _ _ _).2 | apply ab.loop | apply ab.af | apply ab.elim | apply ab.bind | exact ab.refl _⟩
def d270(x0:ay):{c // ab c (CF x0)}:=⟨_,by
 unfold CF
 with_reducible repeat' first | intro _ | apply (d107 _ _).2 | apply (d139 _ _ _).2 | apply ab.loop | apply ab.af | apply ab.elim | apply ab.bind | exact ab.refl _⟩
def d82(x0:ay):{c // ab c (qa x0)}:=⟨_,by
 unfold qa
 with_reducible repeat' first | intro _ | apply (d265 _).2 | apply (d266 _).2 | apply (d267 _).2 | apply (d268 _).2 | apply (d269 _).2 | apply (d270 _).2 | apply ab.af | apply ab.bind | exact ab.refl _⟩
abbrev Re(x0:ay):=(d82 x0).1
theorem adT(x0:ay):ab (Re x0) (qa x0):=(d82 x0).2
def QX (x1:(bz→((List bz) ⊕ Empty)→Option (((List bz) ⊕ Empty) × Bool))→((List bz) ⊕ Empty)→Option ((List bz) ⊕ Empty)):Option (List bz) :=
 (x1 (gk (λ (ru:bz) (jT:(List bz))=>(((gR jT [ru]).bind λ gn =>
 some (.inl gn)):Option ((List bz) ⊕ Empty)))) (.inl [])).bind (Sum.elim (λ (jT:(List bz)) =>
 some jT)
  (λ (o:Empty)=>o.elim))
theorem aCk{x1 fS:(bz→((List bz) ⊕ Empty)→Option (((List bz) ⊕ Empty) × Bool))→((List bz) ⊕ Empty)→Option ((List bz) ⊕ Empty)}(gA:∀ ys kq,(∀ y s,ab (ys y s) (kq y s))→∀ s,ab (x1 ys s) (fS kq s)):ab (QX x1) (Fj fS):=by
 unfold QX Fj
 with_reducible repeat' first | exact ab.refl _ | refine ab.elim (λ _=>?_) (λ _=>?_) _ | refine ab.gk (λ _ _=>?_) _ _ | refine gA _ _ (λ _ _=>?_) _ | exact gA | exact hy _ _ | refine ab.bind ?_ λ _=>?_
def L5 (x0:(bz→((List bz) ⊕ Empty)→Option (((List bz) ⊕ Empty) × Bool))→((List bz) ⊕ Empty)→Option ((List bz) ⊕ Empty)):Option (List bz) :=
 (QX x0).bind λ cV =>
 some cV
theorem WE{x0 AA:(bz→((List bz) ⊕ Empty)→Option (((List bz) ⊕ Empty) × Bool))→((List bz) ⊕ Empty)→Option ((List bz) ⊕ Empty)}(qK:∀ ys kq,(∀ y s,ab (ys y s) (kq y s))→∀ s,ab (x0 ys s) (AA kq s)):ab (L5 x0) (xF AA):=by
 unfold L5 xF
 with_reducible repeat' first | exact ab.refl _ | refine aCk (λ _ _ hy _=>?_) | refine qK _ _ (λ _ _=>?_) _ | exact qK | exact hy _ _ | refine ab.bind ?_ λ _=>?_
def Q2(x0:(List dD))(x1:(dD→Option Bool)):Option Int :=
 (pa (O:=(Unit ⊕ Int)) (λ (dL:Int) =>
 af (decide (dL < (x0.length:Int)))
 ((idx x0 dL).bind λ jb =>
 (x1 jb).bind λ hZ =>
 af hZ
 (some (.inr (.inr dL)))
 (some (.inl (i64 (dL+1)))))
 (some (.inr (.inl ())))) 0).bind (Sum.elim (λ (_:Unit) =>
 some (-1))
  (λ q=>some q))
theorem aCt(x0:(List dD)){x1 fS:(dD→Option Bool)}(gA:∀ y,ab (x1 y) (fS y)):ab (Q2 x0 x1) (J0 x0 fS):=by
 unfold Q2 J0
 with_reducible repeat' first | exact ab.refl _ | refine ab.loop λ _=>?_ | refine ab.af ?_ ?_ | refine ab.elim (λ _=>?_) (λ _=>?_) _ | exact gA _ | exact hy _ _ | refine ab.bind ?_ λ _=>?_
def aaM(x0:(List dD))(x1:(dD→Option Bool)):Option Bool :=
 (Q2 x0 x1).bind λ cV =>
 some (decide (cV ≥ 0))
theorem aCr(x0:(List dD)){x1 fS:(dD→Option Bool)}(gA:∀ y,ab (x1 y) (fS y)):ab (aaM x0 x1) (Fu x0 fS):=by
 unfold aaM Fu
 with_reducible repeat' first | exact ab.refl _ | refine aCt _ (λ _=>?_) | exact gA _ | exact hy _ _ | refine ab.bind ?_ λ _=>?_
def d187(x0:dD)(x1:bz):{c // ab c (Cw x0 x1)}:=⟨_,by
 unfold Cw
 with_reducible repeat' first | intro _ | apply ab.bind | exact ab.refl _⟩
def d162(x0:ay)(x1:bz):{c // ab c (zL x0 x1)}:=⟨_,by
 unfold zL
 with_reducible repeat' first | intro _ | apply aCr | apply (d187 _ _).2 | apply ab.bind | exact ab.refl _⟩
abbrev aaG(x0:ay)(x1:bz):=(d162 x0 x1).1
theorem aCl(x0:ay)(x1:bz):ab (aaG x0 x1) (zL x0 x1):=(d162 x0 x1).2
def L0{S:Type}(ys:bz→S→Option (S × Bool)):Nat→Int→ay→bz→S→Option (S × (bz × Bool))
 | 0,_,_,_,_=>none
 | k+1,x0,x1,x2,s0 =>
  af (x0 == (x1.aE.length:Int))
  (((((aaG x1 x2).bind λ eC =>
  af (!eC)
  (some (s0,true))
  ((ys x2 s0).bind λ iA =>
  some (iA.1,iA.2))):Option (S × Bool))).bind (λ (xP:(S × Bool)) =>
  some (xP.1,(x2,xP.2))))
  ((idx x1.aE x0).bind λ bV =>
  (pa (O:=((S × (List Int)) ⊕ (S × (bz × Bool)))) (λ (bU:(S × Int × (List Int))) =>
  (idx x1.aE x0).bind λ fg =>
  af (decide (bU.2.1≤fg.dq))
  ((idx bU.2.2 x0).bind λ _ =>
  (L0 ys k (i64 (x0+1)) x1 (⟨bU.2.2.set x0.toNat bU.2.1⟩:bz) bU.1).bind λ hF =>
  af (!hF.2.2)
  (some (.inr (.inr (hF.1,(hF.2.1,false)))))
  (some (.inl (hF.1,i64 (bU.2.1+1),hF.2.1.deep))))
  (some (.inr (.inl (bU.1,bU.2.2))))) (s0,bV.cF,x2.deep)).bind (Sum.elim (λ (nB:(S × (List Int))) =>
  some (nB.1,((⟨nB.2⟩:bz),true)))
   (λ q=>some q)))
theorem adP{S:Type}{ys kq:bz→S→Option (S × Bool)}(h:∀ y s,ab (ys y s) (kq y s)):∀ k x0 x1 x2 s0,ab (L0 ys k x0 x1 x2 s0) (qT kq k x0 x1 x2 s0)
 | 0,_,_,_,_=>ab.none
 | k+1,x0,x1,x2,s0=>by
  have ih:=adP h k
  rw [L0,qT]
  with_reducible repeat' first | exact ab.refl _ | refine ab.loop λ _=>?_ | refine ab.af ?_ ?_ | refine ab.elim (λ _=>?_) (λ _=>?_) _ | exact aCl _ _ | exact h _ _ | exact ih _ _ _ _ | refine ab.bind ?_ λ _=>?_
def L6{S:Type}(ys:bz→S→Option (S × Bool))(x0:ay)(s0:S):Option S :=
 (L0 ys 9 0 x0 (⟨[0,0,0]⟩:bz) s0).bind λ lD =>
  some lD.1
theorem NB{S:Type}{ys kq:bz→S→Option (S × Bool)}(h:∀ y s,ab (ys y s) (kq y s))(x0:ay)(s0:S):ab (L6 ys x0 s0) (pd kq x0 s0):=by
 unfold L6 pd
 with_reducible repeat' first | exact ab.refl _ | refine adP (λ _ _=>?_) _ _ _ _ _ | exact h _ _ | refine ab.bind ?_ λ _=>?_
def d23(x0:ay):{c // ab c (vJ x0)}:=⟨_,by
 unfold vJ
 with_reducible repeat' first | intro _ | apply (d82 _).2 | apply WE | apply NB | apply ab.af | apply ab.bind | exact ab.refl _ | exact ‹∀ _ _,ab _ _› _ _⟩
abbrev c23(x0:ay):=(d23 x0).1
theorem aCE(x0:ay):ab (c23 x0) (vJ x0):=(d23 x0).2
def c94(x0:ay)(x1:(ay→Option Int)):Option (cq × Int) :=
 (Re x0).bind λ gZ =>
 af (gZ != 0)
 (some ((⟨⟨0,[],[],[],[],[]⟩,[]⟩:cq),gZ))
 ((x1 x0).bind λ fJ =>
 af (fJ != 0)
 (some ((⟨⟨0,[],[],[],[],[]⟩,[]⟩:cq),fJ))
 ((L5 (λ y s=>L6 y x0 s)).bind λ gE =>
 af ((gE.length:Int) == 0)
 (some ((⟨⟨0,[],[],[],[],[]⟩,[]⟩:cq),9))
 (some ((⟨⟨x0.Rest,x0.Rows,x0.aE,x0.aD,x0.aT,x0.bj⟩,gE⟩:cq),0))))
theorem xw(x0:ay){x1 fS:(ay→Option Int)}(gA:∀ y,ab (x1 y) (fS y)):ab (c94 x0 x1) (pe x0 fS):=by
 unfold c94 pe
 with_reducible repeat' first | exact ab.refl _ | refine ab.af ?_ ?_ | exact adT _ | refine WE (λ _ _ hy _=>?_) | refine NB (λ _ _=>?_) _ _ | exact gA _ | exact hy _ _ | refine ab.bind ?_ λ _=>?_
def d163(x0:ay)(x1:Int):{c // ab c (p6 x0 x1)}:=⟨_,by
 unfold p6
 with_reducible repeat' first | intro _ | apply (d107 _ _).2 | apply ab.bind | exact ab.refl _⟩
def d95(x0:Int):{c // ab c (AO x0)}:=⟨_,by
 unfold AO
 with_reducible repeat' first | intro _ | apply ab.bind | exact ab.refl _⟩
def d235(x0:Int):{c // ab c (xD x0)}:=⟨_,by
 unfold xD
 with_reducible repeat' first | intro _ | apply ab.bind | exact ab.refl _⟩
def d221(x0:Int)(x1:Int):{c // ab c (gj x0 x1)}:=⟨_,by
 unfold gj
 with_reducible repeat' first | intro _ | apply (d235 _).2 | apply ab.af | apply ab.bind | exact ab.refl _⟩
abbrev aaT(x0:Int)(x1:Int):=(d221 x0 x1).1
theorem aCB(x0:Int)(x1:Int):ab (aaT x0 x1) (gj x0 x1):=(d221 x0 x1).2
def d215(x0:(List Int))(x1:Int)(x2:Int):{c // ab c (zQ x0 x1 x2)}:=⟨_,by
 unfold zQ
 with_reducible repeat' first | intro _ | apply (d221 _ _).2 | apply ab.loop | apply ab.af | apply ab.bind | exact ab.refl _⟩
abbrev aaN(x0:(List Int))(x1:Int)(x2:Int):=(d215 x0 x1 x2).1
theorem aCu(x0:(List Int))(x1:Int)(x2:Int):ab (aaN x0 x1 x2) (zQ x0 x1 x2):=(d215 x0 x1 x2).2
def d236(x0:(List Int))(x1:Int)(x2:Int)(x3:Int):{c // ab c (zV x0 x1 x2 x3)}:=⟨_,by
 unfold zV
 with_reducible repeat' first | intro _ | apply (d221 _ _).2 | apply ab.loop | apply ab.af | apply ab.elim | apply ab.bind | exact ab.refl _⟩
def d216(x0:(List Int))(x1:Int)(x2:Int):{c // ab c (zR x0 x1 x2)}:=⟨_,by
 unfold zR
 with_reducible repeat' first | intro _ | apply (d236 _ _ _ _).2 | apply ab.loop | apply ab.af | apply ab.bind | exact ab.refl _⟩
abbrev aaO(x0:(List Int))(x1:Int)(x2:Int):=(d216 x0 x1 x2).1
theorem aCv(x0:(List Int))(x1:Int)(x2:Int):ab (aaO x0 x1 x2) (zR x0 x1 x2):=(d216 x0 x1 x2).2
def d225(x0:Int):{c // ab c (J1 x0)}:=⟨_,by
 unfold J1
 with_reducible repeat' first | intro _ | apply ab.af | apply ab.bind | exact ab.refl _⟩
def d189(x0:Int):{c // ab c (zP x0)}:=⟨_,by
 unfold zP
 with_reducible repeat' first | intro _ | apply (d225 _).2 | apply ab.bind | exact ab.refl _⟩
abbrev QZ(x0:Int):=(d189 x0).1
theorem aCs(x0:Int):ab (QZ x0) (zP x0):=(d189 x0).2
def d237(x0:Int):{c // ab c (Cy x0)}:=⟨_,by
 unfold Cy
 with_reducible repeat' first | intro _ | apply (d189 _).2 | apply ab.bind | exact ab.refl _⟩
abbrev Q3(x0:Int):=(d237 x0).1
theorem aCF(x0:Int):ab (Q3 x0) (Cy x0):=(d237 x0).2
def d238(x0:Int):{c // ab c (Cz x0)}:=⟨_,by
 unfold Cz
 with_reducible repeat' first | intro _ | apply ab.bind | exact ab.refl _⟩
def d217(x0:(List Int))(x1:Int)(x2:Int):{c // ab c (xB x0 x1 x2)}:=⟨_,by
 unfold xB
 with_reducible repeat' first | intro _ | apply (d237 _).2 | apply (d238 _).2 | apply ab.loop | apply ab.af | apply ab.bind | exact ab.refl _⟩
abbrev aaP(x0:(List Int))(x1:Int)(x2:Int):=(d217 x0 x1 x2).1
theorem aCw(x0:(List Int))(x1:Int)(x2:Int):ab (aaP x0 x1 x2) (xB x0 x1 x2):=(d217 x0 x1 x2).2
def d248(x0:(List Int))(x1:Int)(x2:Int)(x3:Int):{c // ab c (rW x0 x1 x2 x3)}:=⟨_,by
 unfold rW
 with_reducible repeat' first | intro _ | apply (d221 _ _).2 | apply ab.af | apply ab.bind | exact ab.refl _⟩
def d240(x0:(List Int))(x1:Int)(x2:Int)(x3:Int)(x4:Int):{c // ab c (tX x0 x1 x2 x3 x4)}:=⟨_,by
 unfold tX
 with_reducible repeat' first | intro _ | apply (d248 _ _ _ _).2 | apply ab.bind | exact ab.refl _⟩
def d239(x0:(List Int))(x1:Int)(x2:Int):{c // ab c (rV x0 x1 x2)}:=⟨_,by
 unfold rV
 with_reducible repeat' first | intro _ | apply (d240 _ _ _ _ _).2 | apply ab.bind | exact ab.refl _⟩
def d218(x0:(List Int))(x1:Int)(x2:Int):{c // ab c (zS x0 x1 x2)}:=⟨_,by
 unfold zS
 with_reducible repeat' first | intro _ | apply (d239 _ _ _).2 | apply (d240 _ _ _ _ _).2 | apply ab.af | apply ab.bind | exact ab.refl _⟩
abbrev aaQ(x0:(List Int))(x1:Int)(x2:Int):=(d218 x0 x1 x2).1
theorem aCx(x0:(List Int))(x1:Int)(x2:Int):ab (aaQ x0 x1 x2) (zS x0 x1 x2):=(d218 x0 x1 x2).2
def d219(x0:(List Int))(x1:Int)(x2:Int):{c // ab c (xC x0 x1 x2)}:=⟨_,by
 unfold xC
 with_reducible repeat' first | intro _ | apply ab.loop | apply ab.af | apply ab.bind | exact ab.refl _⟩
abbrev aaR(x0:(List Int))(x1:Int)(x2:Int):=(d219 x0 x1 x2).1
theorem aCy(x0:(List Int))(x1:Int)(x2:Int):ab (aaR x0 x1 x2) (xC x0 x1 x2):=(d219 x0 x1 x2).2
def d220(x0:(List Int))(x1:Int)(x2:Int):{c // ab c (vI x0 x1 x2)}:=⟨_,by
 unfold vI
 with_reducible repeat' first | intro _ | apply (d221 _ _).2 | apply ab.loop | apply ab.af | apply ab.elim | apply ab.bind | exact ab.refl _⟩
abbrev aaS(x0:(List Int))(x1:Int)(x2:Int):=(d220 x0 x1 x2).1
theorem aCA(x0:(List Int))(x1:Int)(x2:Int):ab (aaS x0 x1 x2) (vI x0 x1 x2):=(d220 x0 x1 x2).2
def d222(x0:(List Int))(x1:Int)(x2:Int)(x3:Int):{c // ab c (zT x0 x1 x2 x3)}:=⟨_,by
 unfold zT
 with_reducible repeat' first | intro _ | apply (d221 _ _).2 | apply ab.loop | apply ab.af | apply ab.bind | exact ab.refl _⟩
abbrev aaU(x0:(List Int))(x1:Int)(x2:Int)(x3:Int):=(d222 x0 x1 x2 x3).1
theorem aCC(x0:(List Int))(x1:Int)(x2:Int)(x3:Int):ab (aaU x0 x1 x2 x3) (zT x0 x1 x2 x3):=(d222 x0 x1 x2 x3).2
def d223(x0:(List Int))(x1:Int)(x2:Int)(x3:Int):{c // ab c (zU x0 x1 x2 x3)}:=⟨_,by
 unfold zU
 with_reducible repeat' first | intro _ | apply (d221 _ _).2 | apply ab.loop | apply ab.af | apply ab.bind | exact ab.refl _⟩
abbrev aaV(x0:(List Int))(x1:Int)(x2:Int)(x3:Int):=(d223 x0 x1 x2 x3).1
theorem aCD(x0:(List Int))(x1:Int)(x2:Int)(x3:Int):ab (aaV x0 x1 x2 x3) (zU x0 x1 x2 x3):=(d223 x0 x1 x2 x3).2
def L1:Nat→(List Int)→Int→Int→Int→Option (List Int)
 | 0,_,_,_,_=>none
 | k+1,x0,x1,x2,x3 =>
  (pa (O:=(List Int)) (λ (br:((List Int) × Int × Int × Int × Bool × Bool)) =>
  af (decide (i64 (br.2.2.1 - br.2.1)≤12))
  ((aaN br.1 br.2.1 br.2.2.1).bind λ yA =>
  some (.inr yA))
  (af (br.2.2.2.1 == 0)
  ((aaO br.1 br.2.1 br.2.2.1).bind λ PA =>
  some (.inr PA))
  ((((af (!br.2.2.2.2.1)
  ((aaP br.1 br.2.1 br.2.2.1).bind λ Gy =>
  some (Gy,i64 (br.2.2.2.1 - 1)))
  (some (br.1,br.2.2.2.1))):Option ((List Int) × Int))).bind (λ (gW:((List Int) × Int)) =>
  (aaQ gW.1 br.2.1 br.2.2.1).bind λ wi =>
  (((af (wi.2 == 2)
  ((aaR gW.1 br.2.1 br.2.2.1).bind λ yB =>
  some (yB,i64 ((i64 (br.2.2.1 - 1)) - (i64 (wi.1 - br.2.1))),1))
  (some (gW.1,wi.1,wi.2))):Option ((List Int) × Int × Int))).bind (λ (kj:((List Int) × Int × Int)) =>
  (((af br.2.2.2.2.1
  (af br.2.2.2.2.2
  (some (kj.2.2 == 1))
  (some false))
  (some false)):Option Bool)).bind (λ (F3:Bool) =>
  (((af F3
  ((aaS kj.1 br.2.1 br.2.2.1).bind λ oF =>
  af oF.2
  (some (.inr oF.1))
  (some (.inl oF.1)))
  (some (.inl kj.1))):Option ((List Int) ⊕ (List Int)))).bind (Sum.elim (λ (qd:(List Int)) =>
  (((af (decide (br.2.1 > 0))
  ((idx qd (i64 (br.2.1 - 1))).bind λ DN =>
  (idx qd kj.2.1).bind λ DO =>
  (aaT DN DO).bind λ GA =>
  some (!GA))
  (some false)):Option Bool)).bind (λ (F4:Bool) =>
  af F4
  ((aaU qd br.2.1 br.2.2.1 kj.2.1).bind λ GB =>
  some (.inl (GB.1,GB.2,br.2.2.1,gW.2,br.2.2.2.2.1,br.2.2.2.2.2)))
  ((aaV qd br.2.1 br.2.2.1 kj.2.1).bind λ gP =>
  (nD (i64 (br.2.2.1 - br.2.1)) 8).bind λ GC =>
  af (decide (i64 (gP.2.1 - br.2.1) < i64 (br.2.2.1 - gP.2.1)))
  ((L1 k gP.1 br.2.1 gP.2.1 gW.2).bind λ PD =>
  some (.inl (PD,i64 (gP.2.1+1),br.2.2.1,gW.2,decide (i64 (gP.2.1 - br.2.1) ≥ GC),gP.2.2)))
  ((L1 k gP.1 (i64 (gP.2.1+1)) br.2.2.1 gW.2).bind λ PE =>
  some (.inl (PE,br.2.1,gP.2.1,gW.2,decide (i64 (br.2.2.1 - gP.2.1) ≥ GC),gP.2.2))))))
   (λ q=>some (.inr q))))))))) (x0,x1,x2,x3,true,true)).bind (λ q=>some q)
theorem adR:∀ k x0 x1 x2 x3,ab (L1 k x0 x1 x2 x3) (tW k x0 x1 x2 x3)
 | 0,_,_,_,_=>ab.none
 | k+1,x0,x1,x2,x3=>by
  have ih:=adR k
  rw [L1,tW]
  with_reducible repeat' first | exact ab.refl _ | refine ab.loop λ _=>?_ | refine ab.af ?_ ?_ | refine ab.elim (λ _=>?_) (λ _=>?_) _ | exact aCu _ _ _ | exact aCv _ _ _ | exact aCw _ _ _ | exact aCx _ _ _ | exact aCy _ _ _ | exact aCA _ _ _ | exact aCB _ _ | exact aCC _ _ _ _ | exact aCD _ _ _ _ | exact ih _ _ _ _ | refine ab.bind ?_ λ _=>?_
def d164(x0:(List Int)):{c // ab c (zM x0)}:=⟨_,by
 unfold zM
 with_reducible repeat' first | intro _ | apply adR | apply (d189 _).2 | apply ab.bind | exact ab.refl _⟩
abbrev aaH(x0:(List Int)):=(d164 x0).1
theorem aCm(x0:(List Int)):ab (aaH x0) (zM x0):=(d164 x0).2
def d165(x0:(List Int)):{c // ab c (zN x0)}:=⟨_,by
 unfold zN
 with_reducible repeat' first | intro _ | apply ab.loop | apply ab.af | apply ab.elim | apply ab.bind | exact ab.refl _⟩
abbrev aaI(x0:(List Int)):=(d165 x0).1
theorem aCn(x0:(List Int)):ab (aaI x0) (zN x0):=(d165 x0).2
def c96(x0:cq)(x1:(bz→Option Int)):Option (List Int) :=
 (pa (O:=(List Int)) (λ (pr:((List Int) × Int)) =>
 af (decide (pr.2 < (x0.fb.length:Int)))
 ((idx x0.fb pr.2).bind λ lE =>
 (x1 lE).bind λ nQ =>
 (gR pr.1 [nQ]).bind λ pD =>
 some (.inl (pD,i64 (pr.2+1))))
 (some (.inr pr.1))) ([],0)).bind (λ (sb:(List Int)) =>
 (aaH sb).bind λ uK =>
 (aaI uK).bind λ nR =>
 some nR)
theorem adU(x0:cq){x1 fS:(bz→Option Int)}(gA:∀ y,ab (x1 y) (fS y)):ab (c96 x0 x1) (zY x0 fS):=by
 unfold c96 zY
 with_reducible repeat' first | exact ab.refl _ | refine ab.loop λ _=>?_ | refine ab.af ?_ ?_ | exact aCm _ | exact aCn _ | exact gA _ | exact hy _ _ | refine ab.bind ?_ λ _=>?_
def d97(x0:bz)(x1:Int):{c // ab c (CO x0 x1)}:=⟨_,by
 unfold CO
 with_reducible repeat' first | intro _ | apply ab.bind | exact ab.refl _⟩
def d25(x0:ay)(x1:Int):{c // ab c (vK x0 x1)}:=⟨_,by
 unfold vK
 with_reducible repeat' first | intro _ | apply xw | apply (d95 _).2 | apply adU | apply (d97 _ _).2 | apply (d163 _ _).2 | apply ab.af | apply ab.bind | exact ab.refl _⟩
abbrev c25(x0:ay)(x1:Int):=(d25 x0 x1).1
theorem aCG(x0:ay)(x1:Int):ab (c25 x0 x1) (vK x0 x1):=(d25 x0 x1).2
def d103(x0:bz)(x1:cq)(x2:Int):{c // ab c (DV x0 x1 x2)}:=⟨_,by
 unfold DV
 with_reducible repeat' first | intro _ | apply (d104 _ _).2 | apply ab.bind | exact ab.refl _⟩
def d28(x0:ay)(x1:Int):{c // ab c (zW x0 x1)}:=⟨_,by
 unfold zW
 with_reducible repeat' first | intro _ | apply xw | apply (d95 _).2 | apply adU | apply (d103 _ _ _).2 | apply (d163 _ _).2 | apply ab.af | apply ab.bind | exact ab.refl _⟩
abbrev c28(x0:ay)(x1:Int):=(d28 x0 x1).1
theorem aCN(x0:ay)(x1:Int):ab (c28 x0 x1) (zW x0 x1):=(d28 x0 x1).2
def d106(x0:ay)(x1:Int)(x2:Int):{c // ab c (E7 x0 x1 x2)}:=⟨_,by
 unfold E7
 with_reducible repeat' first | intro _ | apply (d107 _ _).2 | apply ab.bind | exact ab.refl _⟩
def d108(x0:cq)(x1:Int):{c // ab c (Co x0 x1)}:=⟨_,by
 unfold Co
 with_reducible repeat' first | intro _ | apply ab.af | apply ab.bind | exact ab.refl _⟩
abbrev aax(x0:cq)(x1:Int):=(d108 x0 x1).1
theorem aCa(x0:cq)(x1:Int):ab (aax x0 x1) (Co x0 x1):=(d108 x0 x1).2
def d110(x0:bz)(x1:cq)(x2:Int)(x3:Int):{c // ab c (E8 x0 x1 x2 x3)}:=⟨_,by
 unfold E8
 with_reducible repeat' first | intro _ | apply (d111 _ _ _ _).2 | apply ab.bind | exact ab.refl _⟩
def d30(x0:ay)(x1:Int)(x2:Int):{c // ab c (zX x0 x1 x2)}:=⟨_,by
 unfold zX
 with_reducible repeat' first | intro _ | apply xw | apply (d106 _ _ _).2 | apply (d108 _ _).2 | apply Nz | apply (d110 _ _ _ _).2 | apply ab.af | apply ab.bind | exact ab.refl _⟩
abbrev L2(x0:ay)(x1:Int)(x2:Int):=(d30 x0 x1 x2).1
theorem aCO(x0:ay)(x1:Int)(x2:Int):ab (L2 x0 x1 x2) (zX x0 x1 x2):=(d30 x0 x1 x2).2
def d132(x0:(List Int)):{c // ab c (Cu x0)}:=⟨_,by
 unfold Cu
 with_reducible repeat' first | intro _ | apply ab.loop | apply ab.af | apply ab.bind | exact ab.refl _⟩
abbrev aaD(x0:(List Int)):=(d132 x0).1
theorem aCh(x0:(List Int)):ab (aaD x0) (Cu x0):=(d132 x0).2
def QV(x0:ay)(x1:(List (List Int))):Option ((List Bool) × Int) :=
 af ((x1.length:Int) != (x0.aT.length:Int))
 (some ([false,false,false,false,false,false,false,false,false,false,false,false,false,false,false,false],2))
 ((pa (O:=((List Bool) ⊕ ((List Bool) × Int))) (λ (gl:(Int × (List Bool))) =>
 af (decide (gl.1 < (x1.length:Int)))
 ((idx x1 gl.1).bind λ pB =>
 (idx x0.aT gl.1).bind λ Pu =>
 af ((pB.length:Int) != Pu.aD)
 (some (.inr (.inr ([false,false,false,false,false,false,false,false,false,false,false,false,false,false,false,false],2))))
 ((pa (O:=(Unit ⊕ ((List Bool) × Int))) (λ (po:Int) =>
 af (decide (po < (pB.length:Int)))
 ((idx pB po).bind λ DL =>
 (aaw DL (x0.aD.length:Int)).bind λ Gx =>
 af (Gx != 0)
 (some (.inr (.inr ([false,false,false,false,false,false,false,false,false,false,false,false,false,false,false,false],Gx))))
 ((((af (decide (po > 0))
 ((idx pB (i64 (po - 1))).bind λ Pv =>
 some (decide (DL≤Pv)))
 (some false)):Option Bool)).bind (λ (F1:Bool) =>
 af F1
 (some (.inr (.inr ([false,false,false,false,false,false,false,false,false,false,false,false,false,false,false,false],7))))
 (some (.inl (i64 (po+1)))))))
 (some (.inr (.inl ())))) 0).bind (Sum.elim (λ (_:Unit) =>
 (aaD pB).bind λ Pw =>
 (iY 4 gl.2 gl.1).bind λ _ =>
 some (.inl (i64 (gl.1+1),Gd 4 gl.2 gl.1 Pw)))
  (λ q=>some (.inr (.inr q))))))
 (some (.inr (.inl gl.2)))) (0,[false,false,false,false,false,false,false,false,false,false,false,false,false,false,false,false])).bind (Sum.elim (λ (C3:(List Bool)) =>
 some (C3,0))
  (λ q=>some q)))
theorem aCd(x0:ay)(x1:(List (List Int))):ab (QV x0 x1) (JM x0 x1):=by
 unfold QV JM
 with_reducible repeat' first | exact ab.refl _ | refine ab.loop λ _=>?_ | refine ab.af ?_ ?_ | refine ab.elim (λ _=>?_) (λ _=>?_) _ | exact aB9 _ _ | exact aCh _ | exact hy _ _ | refine ab.bind ?_ λ _=>?_
def QU(x0:ay)(x1:(List (List Int)))(_:(List Bool)):Option ((List Bool) × Int) :=
 (QV x0 x1).bind λ dS =>
 some (dS.1,dS.2)
theorem aCc(x0:ay)(x1:(List (List Int)))(x2:(List Bool)):ab (QU x0 x1 x2) (JL x0 x1 x2):=by
 unfold QU JL
 with_reducible repeat' first | exact ab.refl _ | exact aCd _ _ | exact hy _ _ | refine ab.bind ?_ λ _=>?_
def d149(x0:ay)(x1:Int)(x2:Int):{c // ab c (Fg x0 x1 x2)}:=⟨_,by
 unfold Fg
 with_reducible repeat' first | intro _ | apply ab.af | apply ab.bind | exact ab.refl _⟩
def d117(x0:ay)(x1:(List Bool))(x2:Int):{c // ab c (Cq x0 x1 x2)}:=⟨_,by
 unfold Cq
 with_reducible repeat' first | intro _ | apply (d149 _ _ _).2 | apply ab.loop | apply ab.af | apply ab.elim | apply ab.bind | exact ab.refl _⟩
abbrev QW(x0:ay)(x1:(List Bool))(x2:Int):=(d117 x0 x1 x2).1
theorem WB(x0:ay)(x1:(List Bool))(x2:Int):ab (QW x0 x1 x2) (Cq x0 x1 x2):=(d117 x0 x1 x2).2
def d118(x0:bz)(x1:ay)(x2:(List Bool))(x3:cq):{c // ab c (Cr x0 x1 x2 x3)}:=⟨_,by
 unfold Cr
 with_reducible repeat' first | intro _ | apply (d111 _ _ _ _).2 | apply ab.loop | apply ab.af | apply ab.elim | apply ab.bind | exact ab.refl _⟩
abbrev aay(x0:bz)(x1:ay)(x2:(List Bool))(x3:cq):=(d118 x0 x1 x2 x3).1
theorem aCe(x0:bz)(x1:ay)(x2:(List Bool))(x3:cq):ab (aay x0 x1 x2 x3) (Cr x0 x1 x2 x3):=(d118 x0 x1 x2 x3).2
def QT(x0:ay)(vZ:(List (List Int)))(rp:(List Bool)):Option ((List Bool) × cq × Int) :=
 (Re x0).bind λ gZ =>
 af (gZ != 0)
 (some (rp,(⟨⟨0,[],[],[],[],[]⟩,[]⟩:cq),gZ))
 ((QU x0 vZ rp).bind λ fJ =>
 af (fJ.2 != 0)
 (some (fJ.1,(⟨⟨0,[],[],[],[],[]⟩,[]⟩:cq),fJ.2))
 ((L5 (λ y s=>L6 y x0 s)).bind λ gE =>
 af ((gE.length:Int) == 0)
 (some (fJ.1,(⟨⟨0,[],[],[],[],[]⟩,[]⟩:cq),9))
 (some (fJ.1,(⟨⟨x0.Rest,x0.Rows,x0.aE,x0.aD,x0.aT,x0.bj⟩,gE⟩:cq),0))))
theorem aCb(x0:ay)(vZ:(List (List Int)))(rp:(List Bool)):ab (QT x0 vZ rp) (JK x0 vZ rp):=by
 unfold QT JK
 with_reducible repeat' first | exact ab.refl _ | refine ab.af ?_ ?_ | exact adT _ | refine WE (λ _ _ hy _=>?_) | refine NB (λ _ _=>?_) _ _ | exact aCc _ _ _ | exact hy _ _ | refine ab.bind ?_ λ _=>?_
def L3(x0:ay)(x1:(List (List Int))):Option (Int × Int) :=
 (QT x0 x1 [false,false,false,false,false,false,false,false,false,false,false,false,false,false,false,false]).bind λ fg =>
 af (fg.2.2 != 0)
 (some (0,fg.2.2))
 ((pa (O:=(Unit ⊕ (Int × Int))) (λ (uo:Int) =>
 af (decide (uo < (x0.aT.length:Int)))
 ((QW fg.2.1.book fg.1 uo).bind λ oH =>
 af (!oH)
 (some (.inr (.inr (2,0))))
 (some (.inl (i64 (uo+1)))))
 (some (.inr (.inl ())))) 0).bind (Sum.elim (λ (_:Unit) =>
 (LZ fg.2.1 (λ y=>aay y x0 fg.1 fg.2.1)).bind λ lE =>
 (aax fg.2.1 lE).bind λ AK =>
 some (AK,0))
  (λ q=>some q)))
theorem aCP(x0:ay)(x1:(List (List Int))):ab (L3 x0 x1) (m32 x0 x1):=by
 unfold L3 m32
 with_reducible repeat' first | exact ab.refl _ | refine ab.loop λ _=>?_ | refine ab.af ?_ ?_ | refine ab.elim (λ _=>?_) (λ _=>?_) _ | exact aCa _ _ | refine Nz _ (λ _=>?_) | exact WB _ _ _ | exact aCe _ _ _ _ | exact aCb _ _ _ | exact hy _ _ | refine ab.bind ?_ λ _=>?_
def d121(x0:ay):{c // ab c (ox x0)}:=⟨_,by
 unfold ox
 with_reducible repeat' first | intro _ | apply ab.bind | exact ab.refl _⟩
def yU{S:Type}(ys:(List Bool)→S→Option (S × Bool)):Nat→((List Bool)→Int→cq→Int→(List Bool)→(List Bool)→S→Option (S × Bool)) × ((List Bool)→Int→Int→Int→cq→Int→(List Bool)→(List Bool)→S→Option (S × Bool))
 | 0=>(λ _ _ _ _ _ _ _=>none,λ _ _ _ _ _ _ _ _ _=>none)
 | k+1=>(λ x0 x1 xX xO xG xA s0 =>
  af (x1 == (xX.book.aT.length:Int))
  ((ys x0 s0).bind λ km =>
  some (km.1,km.2))
  ((lB .i64 xO x1).bind λ eC =>
  (fv .and .i64 eC 1).bind λ gO =>
  af (gO == 1)
  (((yU ys k).1 x0 (i64 (x1+1)) xX xO xG xA s0).bind λ iB =>
  some (iB.1,iB.2))
  ((idx xX.book.aT x1).bind λ fP =>
  ((yU ys k).2 x0 x1 0 fP.aD xX xO xG xA s0).bind λ eN =>
  some (eN.1,eN.2))),
  λ x0 x1 x2 x3 xX xO xG xA s0 =>
  af (x3 == 0)
  (((((QW xX.book x0 x1).bind λ gO =>
  af (!gO)
  (some (s0,true))
  (((yU ys k).1 x0 (i64 (x1+1)) xX xO xG xA s0).bind λ bV =>
  some (bV.1,bV.2))):Option (S × Bool))).bind (λ (xQ:(S × Bool)) =>
  some (xQ.1,xQ.2)))
  ((pa (O:=(S ⊕ (S × Bool))) (λ (bU:(S × Int × (List Bool))) =>
  af (decide (bU.2.1 < (xX.book.aD.length:Int)))
  (((((idx xG bU.2.1).bind λ PH =>
  af (!PH)
  (some true)
  ((iY 4 xA x1).bind λ DT =>
  (idx DT bU.2.1).bind λ PJ =>
  some (!PJ))):Option Bool)).bind (λ (F6:Bool) =>
  af F6
  (some (.inl (bU.1,i64 (bU.2.1+1),bU.2.2)))
  ((iY 4 bU.2.2 x1).bind λ PK =>
  (idx PK bU.2.1).bind λ _ =>
  ((yU ys k).2 (pv 4 bU.2.2 x1 bU.2.1 true) x1 (i64 (bU.2.1+1)) (i64 (x3 - 1)) xX xO xG xA bU.1).bind λ rv =>
  af (!rv.2)
  (some (.inr (.inr (rv.1,false))))
  ((iY 4 (pv 4 bU.2.2 x1 bU.2.1 true) x1).bind λ nN =>
  (idx nN bU.2.1).bind λ _ =>
  some (.inl (rv.1,i64 (bU.2.1+1),pv 4 (pv 4 bU.2.2 x1 bU.2.1 true) x1 bU.2.1 false))))))
  (some (.inr (.inl bU.1)))) (s0,x2,x0)).bind (Sum.elim (λ (nB:S) =>
  some (nB,true))
   (λ q=>some q))))
theorem adQ{S:Type}{ys kq:(List Bool)→S→Option (S × Bool)}(h:∀ y s,ab (ys y s) (kq y s)):∀ k,(∀ x0 x1 x2 x3 x4 x5 s0,ab ((yU ys k).1 x0 x1 x2 x3 x4 x5 s0) ((p7 kq k).1 x0 x1 x2 x3 x4 x5 s0))∧(∀ x0 x1 x2 x3 x4 x5 x6 x7 s0,ab ((yU ys k).2 x0 x1 x2 x3 x4 x5 x6 x7 s0) ((p7 kq k).2 x0 x1 x2 x3 x4 x5 x6 x7 s0))
 | 0=>⟨λ _ _ _ _ _ _ _=>ab.none,λ _ _ _ _ _ _ _ _ _=>ab.none⟩
 | k+1=>by
  have ih:=adQ h k
  have ih1:=ih.1
  have ih2:=ih.2
  rw [yU,p7]
  constructor
  ·intro x0 x1 x2 x3 x4 x5 s0
   dsimp only
   with_reducible repeat' first | exact ab.refl _ | refine ab.loop λ _=>?_ | refine ab.af ?_ ?_ | refine ab.elim (λ _=>?_) (λ _=>?_) _ | exact WB _ _ _ | exact h _ _ | exact ih1 _ _ _ _ _ _ _ | exact ih2 _ _ _ _ _ _ _ _ _ | refine ab.bind ?_ λ _=>?_
  ·intro x0 x1 x2 x3 x4 x5 x6 x7 s0
   dsimp only
   repeat' (first | with_reducible exact ab.refl _ | with_reducible refine ab.loop λ _=>?_ | with_reducible refine ab.af ?_ ?_ | with_reducible refine ab.elim (λ _=>?_) (λ _=>?_) _ | with_reducible refine ab.gk (λ _ _=>?_) _ _ | with_reducible exact WB _ _ _ | with_reducible exact h _ _ | with_reducible exact ih1 _ _ _ _ _ _ _ | with_reducible exact ih2 _ _ _ _ _ _ _ _ _ | with_reducible refine ab.bind ?_ λ _=>?_)
def aaJ{S:Type}(ys:(List Bool)→S→Option (S × Bool))(x1:cq)(x2:Int)(x3:(List Bool))(x4:(List Bool))(s0:S):Option S :=
 ((yU ys 40).1 [false,false,false,false,false,false,false,false,false,false,false,false,false,false,false,false] 0 x1 x2 x3 x4 s0).bind λ qk =>
  some qk.1
theorem NA{S:Type}{ys kq:(List Bool)→S→Option (S × Bool)}(h:∀ y s,ab (ys y s) (kq y s))(x1:cq)(x2:Int)(x3:(List Bool))(x4:(List Bool))(s0:S):ab (aaJ ys x1 x2 x3 x4 s0) (rU kq x1 x2 x3 x4 s0):=by
 unfold aaJ rU
 with_reducible repeat' first | exact ab.refl _ | refine (adQ (λ _ _=>?_) 40).1 _ _ _ _ _ _ _ | exact h _ _ | refine ab.bind ?_ λ _=>?_
def d122(x0:cq)(x1:(List Bool))(x2:(List Bool))(x3:Int):{c // ab c (zJ x0 x1 x2 x3)}:=⟨_,by
 unfold zJ
 with_reducible repeat' first | intro _ | apply ab.bind | exact ab.refl _⟩
def d124(x0:ay):{c // ab c (xz x0)}:=⟨_,by
 unfold xz
 with_reducible repeat' first | intro _ | apply ab.loop | apply ab.af | apply ab.bind | exact ab.refl _⟩
def d34(x0:ay):{c // ab c (CK x0)}:=⟨_,by
 unfold CK
 with_reducible repeat' first | intro _ | apply xw | apply (d121 _).2 | apply (d122 _ _ _ _).2 | apply JF | apply (d124 _).2 | apply NA | apply ab.af | apply ab.elim | apply ab.gk | apply ab.bind | exact ab.refl _⟩
abbrev Q8(x0:ay):=(d34 x0).1
theorem aCQ(x0:ay):ab (Q8 x0) (CK x0):=(d34 x0).2
def d126(x0:ay)(x1:(List Bool)):{c // ab c (Fa x0 x1)}:=⟨_,by
 unfold Fa
 with_reducible repeat' first | intro _ | apply ab.loop | apply ab.af | apply ab.bind | exact ab.refl _⟩
def d36(x0:ay):{c // ab c (FA x0)}:=⟨_,by
 unfold FA
 with_reducible repeat' first | intro _ | apply xw | apply (d121 _).2 | apply (d122 _ _ _ _).2 | apply JF | apply (d124 _).2 | apply (d126 _ _).2 | apply NA | apply ab.af | apply ab.elim | apply ab.gk | apply ab.bind | exact ab.refl _⟩
abbrev c36(x0:ay):=(d36 x0).1
theorem aCR(x0:ay):ab (c36 x0) (FA x0):=(d36 x0).2
def QY (x1:((List Bool)→((List (List Bool)) ⊕ Empty)→Option (((List (List Bool)) ⊕ Empty) × Bool))→((List (List Bool)) ⊕ Empty)→Option ((List (List Bool)) ⊕ Empty)):Option (List (List Bool)) :=
 (x1 (gk (λ (ru:(List Bool)) (jT:(List (List Bool)))=>(((gR jT [ru]).bind λ gn =>
 some (.inl gn)):Option ((List (List Bool)) ⊕ Empty)))) (.inl [])).bind (Sum.elim (λ (jT:(List (List Bool))) =>
 some jT)
  (λ (o:Empty)=>o.elim))
theorem aCp{x1 fS:((List Bool)→((List (List Bool)) ⊕ Empty)→Option (((List (List Bool)) ⊕ Empty) × Bool))→((List (List Bool)) ⊕ Empty)→Option ((List (List Bool)) ⊕ Empty)}(gA:∀ ys kq,(∀ y s,ab (ys y s) (kq y s))→∀ s,ab (x1 ys s) (fS kq s)):ab (QY x1) (JV fS):=by
 unfold QY JV
 with_reducible repeat' first | exact ab.refl _ | refine ab.elim (λ _=>?_) (λ _=>?_) _ | refine ab.gk (λ _ _=>?_) _ _ | refine gA _ _ (λ _ _=>?_) _ | exact gA | exact hy _ _ | refine ab.bind ?_ λ _=>?_
def aaA (x0:((List Bool)→((List (List Bool)) ⊕ Empty)→Option (((List (List Bool)) ⊕ Empty) × Bool))→((List (List Bool)) ⊕ Empty)→Option ((List (List Bool)) ⊕ Empty)):Option (List (List Bool)) :=
 (QY x0).bind λ cV =>
 some cV
theorem aCf{x0 AA:((List Bool)→((List (List Bool)) ⊕ Empty)→Option (((List (List Bool)) ⊕ Empty) × Bool))→((List (List Bool)) ⊕ Empty)→Option ((List (List Bool)) ⊕ Empty)}(qK:∀ ys kq,(∀ y s,ab (ys y s) (kq y s))→∀ s,ab (x0 ys s) (AA kq s)):ab (aaA x0) (JN AA):=by
 unfold aaA JN
 with_reducible repeat' first | exact ab.refl _ | refine aCp (λ _ _ hy _=>?_) | refine qK _ _ (λ _ _=>?_) _ | exact qK | exact hy _ _ | refine ab.bind ?_ λ _=>?_
def aaB(x0:((List Bool)→Option Int))(x1:(List (List Bool))):Option (List Bool) :=
 (idx x1 0).bind λ lf =>
 (lK x1 1 (x1.length:Int)).bind λ uJ =>
 (pa (O:=(List Bool)) (λ (lY:(Int × (List Bool))) =>
 af (decide (lY.1 < (uJ.length:Int)))
 ((idx uJ lY.1).bind λ yD =>
 (x0 yD).bind λ uK =>
 (x0 lY.2).bind λ nR =>
 af (decide (uK < nR))
 (some (.inl (i64 (lY.1+1),yD)))
 (some (.inl (i64 (lY.1+1),lY.2))))
 (some (.inr lY.2))) (0,lf)).bind (λ (C4:(List Bool)) =>
 some C4)
theorem aCg{x0 AA:((List Bool)→Option Int)}(qK:∀ y,ab (x0 y) (AA y))(x1:(List (List Bool))):ab (aaB x0 x1) (JO AA x1):=by
 unfold aaB JO
 with_reducible repeat' first | exact ab.refl _ | refine ab.loop λ _=>?_ | refine ab.af ?_ ?_ | exact qK _ | exact hy _ _ | refine ab.bind ?_ λ _=>?_
def d129(x0:ay)(x1:(List Bool)):{c // ab c (Cs x0 x1)}:=⟨_,by
 unfold Cs
 with_reducible repeat' first | intro _ | apply ab.loop | apply ab.af | apply ab.bind | exact ab.refl _⟩
def d39(x0:ay):{c // ab c (FB x0)}:=⟨_,by
 unfold FB
 with_reducible repeat' first | intro _ | apply xw | apply (d121 _).2 | apply (d122 _ _ _ _).2 | apply JF | apply (d124 _).2 | apply (d126 _ _).2 | apply aCf | apply aCg | apply (d129 _ _).2 | apply NA | apply ab.af | apply ab.bind | exact ab.refl _ | exact ‹∀ _ _,ab _ _› _ _⟩
abbrev c39(x0:ay):=(d39 x0).1
theorem aCT(x0:ay):ab (c39 x0) (FB x0):=(d39 x0).2
def d133(x0:Int):{c // ab c (zK x0)}:=⟨_,by
 unfold zK
 with_reducible repeat' first | intro _ | apply ab.loop | apply ab.af | apply ab.bind | exact ab.refl _⟩
abbrev aaE(x0:Int):=(d133 x0).1
theorem aCi(x0:Int):ab (aaE x0) (zK x0):=(d133 x0).2
def d211(x0:Int)(x1:Int):{c // ab c (JZ x0 x1)}:=⟨_,by
 unfold JZ
 with_reducible repeat' first | intro _ | apply (d235 _).2 | apply ab.af | apply ab.bind | exact ab.refl _⟩
def d178(x0:(List Int))(x1:(List Int)):{c // ab c (Fo x0 x1)}:=⟨_,by
 unfold Fo
 with_reducible repeat' first | intro _ | apply (d211 _ _).2 | apply ab.loop | apply ab.af | apply ab.elim | apply ab.bind | exact ab.refl _⟩
abbrev aaL(x0:(List Int))(x1:(List Int)):=(d178 x0 x1).1
theorem aCq(x0:(List Int))(x1:(List Int)):ab (aaL x0 x1) (Fo x0 x1):=(d178 x0 x1).2
def aaC(x0:Int)(x1:(Int→Option Bool)):Option ((List Int) × Bool) :=
 (yc .i64 1 x0).bind λ pD =>
 (pa (O:=((List Int) × Bool)) (λ (fw:((List Int) × Bool × Int)) =>
 af (decide (fw.2.2 < pD))
 ((aaE fw.2.2).bind λ ib =>
 (((af (!fw.2.1)
 ((x1 fw.2.2).bind λ nO =>
 some nO)
 (af (decide ((ib.length:Int) < (fw.1.length:Int)))
 ((x1 fw.2.2).bind λ AE =>
 some AE)
 (af ((ib.length:Int) == (fw.1.length:Int))
 ((aaL ib fw.1).bind λ Du =>
 af (decide (Du < 0))
 ((x1 fw.2.2).bind λ Lf =>
 some Lf)
 (some false))
 (some false)))):Option Bool)).bind (λ (FQ:Bool) =>
 af FQ
 (some (.inl (ib,true,i64 (fw.2.2+1))))
 (some (.inl (fw.1,fw.2.1,i64 (fw.2.2+1))))))
 (some (.inr (fw.1,fw.2.1)))) ([],false,0)).bind (λ (xS:((List Int) × Bool)) =>
 some (xS.1,xS.2))
theorem WC(x0:Int){x1 fS:(Int→Option Bool)}(gA:∀ y,ab (x1 y) (fS y)):ab (aaC x0 x1) (Ct x0 fS):=by
 unfold aaC Ct
 with_reducible repeat' first | exact ab.refl _ | refine ab.loop λ _=>?_ | refine ab.af ?_ ?_ | exact aCi _ | exact aCq _ _ | exact gA _ | exact hy _ _ | refine ab.bind ?_ λ _=>?_
def d134(x0:cq)(x1:(List Bool))(x2:(List Bool))(x3:Int):{c // ab c (Cv x0 x1 x2 x3)}:=⟨_,by
 unfold Cv
 with_reducible repeat' first | intro _ | apply (d122 _ _ _ _).2 | apply NA | apply ab.elim | apply ab.gk | apply ab.bind | exact ab.refl _⟩
def d131(x0:Int)(x1:cq)(x2:(List Bool))(x3:(List Bool)):{c // ab c (Fb x0 x1 x2 x3)}:=⟨_,by
 unfold Fb
 with_reducible repeat' first | intro _ | apply (d132 _).2 | apply (d133 _).2 | apply (d134 _ _ _ _).2 | apply ab.af | apply ab.bind | exact ab.refl _⟩
def d41(x0:ay):{c // ab c (FC x0)}:=⟨_,by
 unfold FC
 with_reducible repeat' first | intro _ | apply xw | apply (d121 _).2 | apply JF | apply (d124 _).2 | apply WC | apply (d131 _ _ _ _).2 | apply ab.af | apply ab.bind | exact ab.refl _⟩
abbrev c41(x0:ay):=(d41 x0).1
theorem aCU(x0:ay):ab (c41 x0) (FC x0):=(d41 x0).2
def d138(x0:Int)(x1:cq)(x2:(List Bool))(x3:(List Bool)):{c // ab c (Fc x0 x1 x2 x3)}:=⟨_,by
 unfold Fc
 with_reducible repeat' first | intro _ | apply (d134 _ _ _ _).2 | apply ab.bind | exact ab.refl _⟩
def d43(x0:ay):{c // ab c (CL x0)}:=⟨_,by
 unfold CL
 with_reducible repeat' first | intro _ | apply xw | apply (d121 _).2 | apply JF | apply (d124 _).2 | apply WC | apply (d138 _ _ _ _).2 | apply ab.af | apply ab.bind | exact ab.refl _⟩
abbrev Ra(x0:ay):=(d43 x0).1
theorem aCV(x0:ay):ab (Ra x0) (CL x0):=(d43 x0).2
def d46(x0:ay)(x1:dD):{c // ab c (rX x0 x1)}:=⟨_,by
 unfold rX
 with_reducible repeat' first | intro _ | apply ab.bind | exact ab.refl _⟩
abbrev Rb(x0:ay)(x1:dD):=(d46 x0 x1).1
theorem aCW(x0:ay)(x1:dD):ab (Rb x0 x1) (rX x0 x1):=(d46 x0 x1).2
def d48(x0:ay)(x1:Int):{c // ab c (rY x0 x1)}:=⟨_,by
 unfold rY
 with_reducible repeat' first | intro _ | apply (d82 _).2 | apply (d104 _ _).2 | apply (d139 _ _ _).2 | apply ab.af | apply ab.bind | exact ab.refl _⟩
abbrev Rc(x0:ay)(x1:Int):=(d48 x0 x1).1
theorem aCX(x0:ay)(x1:Int):ab (Rc x0 x1) (rY x0 x1):=(d48 x0 x1).2
def d49(x0:Int)(x1:Int):{c // ab c (yF x0 x1)}:=⟨_,by
 unfold yF
 with_reducible repeat' first | intro _ | apply ab.bind | exact ab.refl _⟩
abbrev Rd(x0:Int)(x1:Int):=(d49 x0 x1).1
theorem adS(x0:Int)(x1:Int):ab (Rd x0 x1) (yF x0 x1):=(d49 x0 x1).2
def d151(x0:(List dD)):{c // ab c (Fh x0)}:=⟨_,by
 unfold Fh
 with_reducible repeat' first | intro _ | apply ab.bind | exact ab.refl _⟩
def d179(x0:(List fh)):{c // ab c (Fp x0)}:=⟨_,by
 unfold Fp
 with_reducible repeat' first | intro _ | apply ab.bind | exact ab.refl _⟩
def d180(x0:(List Reach)):{c // ab c (Fq x0)}:=⟨_,by
 unfold Fq
 with_reducible repeat' first | intro _ | apply ab.bind | exact ab.refl _⟩
def d181(x0:(List fe)):{c // ab c (Fs x0)}:=⟨_,by
 unfold Fs
 with_reducible repeat' first | intro _ | apply ab.bind | exact ab.refl _⟩
def d182(x0:(List mq)):{c // ab c (Ft x0)}:=⟨_,by
 unfold Ft
 with_reducible repeat' first | intro _ | apply ab.bind | exact ab.refl _⟩
def d140(x0:ay):{c // ab c (JP x0)}:=⟨_,by
 unfold JP
 with_reducible repeat' first | intro _ | apply (d151 _).2 | apply (d179 _).2 | apply (d180 _).2 | apply (d181 _).2 | apply (d182 _).2 | apply ab.bind | exact ab.refl _⟩
def d50(x0:ay)(x1:Int)(x2:Int):{c // ab c (FE x0 x1 x2)}:=⟨_,by
 unfold FE
 with_reducible repeat' first | intro _ | apply (d82 _).2 | apply (d104 _ _).2 | apply (d139 _ _ _).2 | apply (d140 _).2 | apply ab.loop | apply ab.af | apply ab.bind | exact ab.refl _⟩
abbrev c50(x0:ay)(x1:Int)(x2:Int):=(d50 x0 x1 x2).1
theorem aCY(x0:ay)(x1:Int)(x2:Int):ab (c50 x0 x1 x2) (FE x0 x1 x2):=(d50 x0 x1 x2).2
def d144(x0:ay)(x1:Int):{c // ab c (JS x0 x1)}:=⟨_,by
 unfold JS
 with_reducible repeat' first | intro _ | apply (d133 _).2 | apply ab.loop | apply ab.af | apply ab.bind | exact ab.refl _⟩
def d145(x0:ay):{c // ab c (JU x0)}:=⟨_,by
 unfold JU
 with_reducible repeat' first | intro _ | apply NB | apply ab.elim | apply ab.gk | apply ab.bind | exact ab.refl _⟩
def d143(x0:Int)(x1:ay):{c // ab c (Fe x0 x1)}:=⟨_,by
 unfold Fe
 with_reducible repeat' first | intro _ | apply (d144 _ _).2 | apply (d145 _).2 | apply ab.bind | exact ab.refl _⟩
def d54(x0:ay):{c // ab c (FF x0)}:=⟨_,by
 unfold FF
 with_reducible repeat' first | intro _ | apply (d82 _).2 | apply WC | apply (d143 _ _).2 | apply ab.af | apply ab.bind | exact ab.refl _⟩
abbrev c54(x0:ay):=(d54 x0).1
theorem aCZ(x0:ay):ab (c54 x0) (FF x0):=(d54 x0).2
def d146(x0:bz)(x1:Int)(x2:Int):{c // ab c (Ff x0 x1 x2)}:=⟨_,by
 unfold Ff
 with_reducible repeat' first | intro _ | apply ab.bind | exact ab.refl _⟩
def d59(x0:ay):{c // ab c (FG x0)}:=⟨_,by
 unfold FG
 with_reducible repeat' first | intro _ | apply xw | apply Nz | apply (d121 _).2 | apply (d146 _ _ _).2 | apply ab.loop | apply ab.af | apply ab.bind | exact ab.refl _⟩
abbrev c59(x0:ay):=(d59 x0).1
theorem aC0(x0:ay):ab (c59 x0) (FG x0):=(d59 x0).2
def d66(x0:ay)(x1:Int)(x2:Int):{c // ab c (FH x0 x1 x2)}:=⟨_,by
 unfold FH
 with_reducible repeat' first | intro _ | apply (d82 _).2 | apply (d107 _ _).2 | apply (d149 _ _ _).2 | apply ab.af | apply ab.bind | exact ab.refl _⟩
abbrev c66(x0:ay)(x1:Int)(x2:Int):=(d66 x0 x1 x2).1
theorem aC1(x0:ay)(x1:Int)(x2:Int):ab (c66 x0 x1 x2) (FH x0 x1 x2):=(d66 x0 x1 x2).2
def d159(x0:Int):{c // ab c (Fi x0)}:=⟨_,by
 unfold Fi
 with_reducible repeat' first | intro _ | apply ab.bind | exact ab.refl _⟩
abbrev aaF(x0:Int):=(d159 x0).1
theorem aCj(x0:Int):ab (aaF x0) (Fi x0):=(d159 x0).2
def Rg  : Option ay :=
 (Rd 9 11).bind λ bV =>
 (aaF 15).bind λ wh =>
 some (⟨10,[(⟨10,40⟩:fh),(⟨20,20⟩:fh)],[bV,wh],[(⟨⟨#[97,110,110]⟩,20⟩:fe),(⟨⟨#[98,111]⟩,12⟩:fe)],[(⟨0,0,20,2⟩:mq),(⟨1,30,15,1⟩:mq),(⟨0,60,30,1⟩:mq)],[]⟩:ay)
theorem aC2  : ab (Rg ) (J7 ):=by
 unfold Rg J7
 with_reducible repeat' first | exact ab.refl _ | exact adS _ _ | exact aCj _ | exact hy _ _ | refine ab.bind ?_ λ _=>?_
def d102(x0:(List Int))(x1:(List Int)):{c // ab c (E6 x0 x1)}:=⟨_,by
 unfold E6
 with_reducible repeat' first | intro _ | apply ab.loop | apply ab.af | apply ab.elim | apply ab.bind | exact ab.refl _⟩
def d27(x0:(List Int))(x1:(List Int)):{c // ab c (CE x0 x1)}:=⟨_,by
 unfold CE
 with_reducible repeat' first | intro _ | apply (d102 _ _).2 | apply ab.af | apply ab.bind | exact ab.refl _⟩
abbrev c27(x0:(List Int))(x1:(List Int)):=(d27 x0 x1).1
theorem aCH(x0:(List Int))(x1:(List Int)):ab (c27 x0 x1) (CE x0 x1):=(d27 x0 x1).2
def d89(x0:(List Int))(x1:(List Int)):{c // ab c (xE x0 x1)}:=⟨_,by
 unfold xE
 with_reducible repeat' first | intro _ | apply (d27 _ _).2 | apply ab.bind | exact ab.refl _⟩
abbrev Hx(x0:(List Int))(x1:(List Int)):=(d89 x0 x1).1
theorem aC3(x0:(List Int))(x1:(List Int)):ab (Hx x0 x1) (xE x0 x1):=(d89 x0 x1).2
def Q9(x0:(List (List Int)))(x1:(List (List Int))):Option Bool :=
 af ((x0.length:Int) != (x1.length:Int))
 (some false)
 ((pa (O:=(Unit ⊕ Bool)) (λ (fI:Int) =>
 af (decide (fI < (x0.length:Int)))
 ((idx x0 fI).bind λ yC =>
 (idx x1 fI).bind λ oG =>
 (c27 yC oG).bind λ oH =>
 af (!oH)
 (some (.inr (.inr false)))
 (some (.inl (i64 (fI+1)))))
 (some (.inr (.inl ())))) 0).bind (Sum.elim (λ (_:Unit) =>
 some true)
  (λ q=>some q)))
theorem aCS(x0:(List (List Int)))(x1:(List (List Int))):ab (Q9 x0 x1) (J5 x0 x1):=by
 unfold Q9 J5
 with_reducible repeat' first | exact ab.refl _ | refine ab.loop λ _=>?_ | refine ab.af ?_ ?_ | refine ab.elim (λ _=>?_) (λ _=>?_) _ | exact aCH _ _ | exact hy _ _ | refine ab.bind ?_ λ _=>?_
def L4(x0:(List (List Int)))(x1:(List (List Int))):Option Bool :=
 (Q9 x0 x1).bind λ cV =>
 some cV
theorem aC4(x0:(List (List Int)))(x1:(List (List Int))):ab (L4 x0 x1) (FI x0 x1):=by
 unfold L4 FI
 with_reducible repeat' first | exact ab.refl _ | exact aCS _ _ | exact hy _ _ | refine ab.bind ?_ λ _=>?_
def c22  : Option Bool :=
 (Rg).bind λ eS =>
 (Rb eS (⟨0,10,true⟩:dD)).bind λ iz =>
 (Rc eS 10).bind λ Dv =>
 (Rc eS 21).bind λ Dw =>
 (c23 eS).bind λ Dx =>
 (c25 iz 0).bind λ Dy =>
 (c28 eS 0).bind λ v7 =>
 (L2 eS 1 0).bind λ v8 =>
 (L2 eS 1 1).bind λ Dz =>
 (L2 eS 1 2).bind λ yz =>
 (c66 eS 0 1).bind λ AH =>
 (L3 eS ([[0,1],[0],[1]])).bind λ DC =>
 (L3 iz ([[0,1],[0],[1]])).bind λ uH =>
 (((af (Dv.2 != 0)
 (some true)
 (af (Dw.2 != 0)
 (some true)
 (af (Dx.2 != 0)
 (some true)
 (af (Dy.2 != 0)
 (some true)
 (af (v7.2 != 0)
 (some true)
 (af (v8.2 != 0)
 (some true)
 (af (Dz.2 != 0)
 (some true)
 (af (yz.2 != 0)
 (some true)
 (af (AH.2 != 0)
 (some true)
 (af (DC.2 != 0)
 (some true)
 (some (uH.2 != 0)))))))))))):Option Bool)).bind (λ (FX:Bool) =>
 af FX
 (some false)
 ((((af (Dv.1 != 40)
 (some true)
 (af (Dw.1 != 0)
 (some true)
 (af (Dx.1 != 3)
 (some true)
 ((Hx Dy.1 [9,10]).bind λ Ps =>
 af (!Ps)
 (some true)
 ((Rd 20 40).bind λ KQ =>
 af (!(K5 v7.1 KQ == true))
 (some true)
 (af (v8.1 != 1)
 (some true)
 (af (Dz.1 != 2)
 (some true)
 (af (yz.1 != 0)
 (some true)
 (af (!AH.1)
 (some true)
 (af (DC.1 != 0)
 (some true)
 (some (uH.1 != 1)))))))))))):Option Bool)).bind (λ (FY:Bool) =>
 af FY
 (some false)
 ((Q8 eS).bind λ DH =>
 (Q8 iz).bind λ DI =>
 (c36 iz).bind λ v9 =>
 (c39 iz).bind λ rq =>
 (c41 iz).bind λ wc =>
 (Ra eS).bind λ DJ =>
 (c59 eS).bind λ oE =>
 (c50 iz 12 15).bind λ pA =>
 (Ra pA.1).bind λ Gw =>
 (Rb iz (⟨0,8,true⟩:dD)).bind λ KR =>
 (c54 KR).bind λ DK =>
 (((af (DH.2 != 0)
 (some true)
 (af (DI.2 != 0)
 (some true)
 (af (v9.2.2 != 0)
 (some true)
 (af (rq.2.2.2 != 0)
 (some true)
 (af (wc.2.2 != 0)
 (some true)
 (af (DJ.2 != 0)
 (some true)
 (af (oE.2.2.2 != 0)
 (some true)
 (af (pA.2 != 0)
 (some true)
 (af (Gw.2 != 0)
 (some true)
 (some (DK.2 != 0))))))))))):Option Bool)).bind (λ (FZ:Bool) =>
 af FZ
 (some false)
 ((((af (DH.1 != 0)
 (some true)
 (af (DI.1 != 2)
 (some true)
 (af (!v9.2.1)
 (some true)
 ((L4 v9.1 ([[0,1],[0],[0]])).bind λ Px =>
 af (!Px)
 (some true)
 (af (!rq.2.2.1)
 (some true)
 (af (rq.2.1 != 50)
 (some true)
 ((L4 rq.1 ([[0,1],[0],[1]])).bind λ AJ =>
 af (!AJ)
 (some true)
 (af (!wc.2.1)
 (some true)
 ((Hx wc.1 [0,1]).bind λ yA =>
 af (!yA)
 (some true)
 ((Hx DJ.1 [2]).bind λ Pz =>
 some (!Pz))))))))))):Option Bool)).bind (λ (F0:Bool) =>
 af F0
 (some false)
 (af (oE.1 == 0)
 (af (oE.2.1 == 9)
 (af (oE.2.2.1 == 2)
 (af ((Gw.1.length:Int) == 0)
 ((Hx DK.1 [1]).bind λ KU =>
 af KU
 (af ((pA.1.Rows.length:Int) == 3)
 ((idx pA.1.Rows 1).bind λ wj =>
 af (HI wj (⟨12,15⟩:fh) == true)
 ((idx pA.1.Rows 2).bind λ Gz =>
 some (HI Gz (⟨20,15⟩:fh) == true))
 (some false))
 (some false))
 (some false))
 (some false))
 (some false))
 (some false))
 (some false)))))))))
theorem aCz  : ab (c22 ) (vH ):=by
 unfold c22 vH
 with_reducible repeat' first | exact ab.refl _ | refine ab.af ?_ ?_ | exact aCE _ | exact aCG _ _ | exact aCN _ _ | exact aCO _ _ _ | exact aCP _ _ | exact aCQ _ | exact aCR _ | exact aCT _ | exact aCU _ | exact aCV _ | exact aCW _ _ | exact aCX _ _ | exact adS _ _ | exact aCY _ _ _ | exact aCZ _ | exact aC0 _ | exact aC1 _ _ _ | exact aC2 | exact aC3 _ _ | exact aC4 _ _ | exact hy _ _ | refine ab.bind ?_ λ _=>?_
theorem aGW:vH=some true:=aCz _ (by decide +kernel)
end
end Go.Proofs.YtihapemckcdicaaGreatDoor
