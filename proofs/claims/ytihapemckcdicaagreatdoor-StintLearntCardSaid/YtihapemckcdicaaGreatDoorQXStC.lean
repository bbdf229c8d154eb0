/- The chapter's examples, by reckoning. Conditions: none. -/
import Derived.Test.YtihapemckcdicaaGreatDoorQXStM
import Derived.Test.YtihapemckcdicaaGreatDoorQXLgC
namespace Go.Proofs.YtihapemckcdicaaGreatDoor
open Go.Lg Go.Proofs
noncomputable section
set_option maxRecDepth 100000
set_option maxHeartbeats 4000000
def d139(x0:Int)(x1:Int)(x2:Int):{c // ae c (lj x0 x1 x2)}:=⟨_,by
 unfold lj
 with_reducible repeat' first | intro _ | apply ae.af | apply ae.bN | exact ae.bK _⟩
def ao5(x0:ByteArray):Option Bool:=MO x0
theorem aHq(x0:ByteArray):ae (ao5 x0) (MO x0):=ae.bK _
def OL(x0:cD)(x1:(bz→Option Bool)):Option Int :=
 (pO (O:=Int) (λ (nO:(Int × Int)) =>
 af (decide (nO.2 < (x0.fH.length:Int)))
 ((idx x0.fH nO.2).bind λ nQ =>
 (x1 nQ).bind λ Jz =>
 af Jz
 (some (.inl (i64 (nO.1+1),i64 (nO.2+1))))
 (some (.inl (nO.1,i64 (nO.2+1)))))
 (some (.inr nO.1))) (0,0)).bind (λ (IP:Int) =>
 some IP)
theorem Ra(x0:cD){x1 gK:(bz→Option Bool)}(iz:∀ y,ae (x1 y) (gK y)):ae (OL x0 x1) (vQ x0 gK):=by
 unfold OL vQ
 with_reducible repeat' first | exact ae.bK _ | refine ae.fZ λ _=>?_ | refine ae.af ?_ ?_ | exact iz _ | exact hy _ _ | refine ae.bN ?_ λ _=>?_
def d104(x0:aj)(x1:Int):{c // ae c (yb x0 x1)}:=⟨_,by
 unfold yb
 with_reducible repeat' first | intro _ | apply ae.fZ | apply ae.af | apply ae.jB | apply ae.bN | exact ae.bK _⟩
def d111(x0:aj)(x1:bz)(x2:Int)(x3:Int):{c // ae c (zG x0 x1 x2 x3)}:=⟨_,by
 unfold zG
 with_reducible repeat' first | intro _ | apply (d104 _ _).2 | apply ae.af | apply ae.bN | exact ae.bK _⟩
def d172(x0:bz)(x1:cD)(x2:Int)(x3:Int):{c // ae c (zO x0 x1 x2 x3)}:=⟨_,by
 unfold zO
 with_reducible repeat' first | intro _ | apply (d111 _ _ _ _).2 | apply ae.bN | exact ae.bK _⟩
abbrev aep(x0:bz)(x1:cD)(x2:Int)(x3:Int):=(d172 x0 x1 x2 x3).1
theorem aG6(x0:bz)(x1:cD)(x2:Int)(x3:Int):ae (aep x0 x1 x2 x3) (zO x0 x1 x2 x3):=(d172 x0 x1 x2 x3).2
def aan(x0:cD)(i k:Nat):Option Bool:=(OL x0 (λ y=>aep y x0 (k:Int) (i:Int))).bind λ n=>some (n == (x0.fH.length:Int))
theorem aHN(x0:cD)(i k:Nat):ae (aan x0 i k) (rG x0 i k):=by
 unfold aan rG
 with_reducible repeat' first | exact ae.bK _ | refine Ra _ (λ _=>?_) | exact aG6 _ _ _ _ | refine ae.bN ?_ λ _=>?_
def aef(x0:cD):Option (List Bool) :=
 if (0 < x0.book.ay.length∧x0.book.ay.length≤4)∧(0 < x0.book.ax.length∧x0.book.ax.length≤4) then
  (((List.range 16).mapM λ (p:Nat)=>if p / 4 < x0.book.ay.length∧p % 4 < x0.book.ax.length then aan x0 (p / 4) (p % 4) else some false):Option (List Bool))
 else none
theorem Mr(x0:cD):ae (aef x0) (um x0):=by
 unfold aef um
 split
 ·refine ae.mapM (λ p=>?_) _
  split
  ·exact aHN _ _ _
  ·exact ae.bK _
 ·exact ae.none
def d265(x0:aj):{c // ae c (Ih x0)}:=⟨_,by
 unfold Ih
 with_reducible repeat' first | intro _ | apply (d139 _ _ _).2 | apply ae.af | apply ae.bN | exact ae.bK _⟩
def d266(x0:aj):{c // ae c (Fj x0)}:=⟨_,by
 unfold Fj
 with_reducible repeat' first | intro _ | apply (d139 _ _ _).2 | apply ae.fZ | apply ae.af | apply ae.jB | apply ae.bN | exact ae.bK _⟩
def UT(x0:(List Reach))(x1:(Reach→Option Bool)):Option Int :=
 (pO (O:=(Unit ⊕ Int)) (λ (dI:Int) =>
 af (decide (dI < (x0.length:Int)))
 ((idx x0 dI).bind λ iF =>
 (x1 iF).bind λ gL =>
 af gL
 (some (.inr (.inr dI)))
 (some (.inl (i64 (dI+1)))))
 (some (.inr (.inl ())))) 0).bind (Sum.elim (λ (_:Unit) =>
 some (-1))
  (λ q=>some q))
theorem aHs(x0:(List Reach)){x1 gK:(Reach→Option Bool)}(iz:∀ y,ae (x1 y) (gK y)):ae (UT x0 x1) (MP x0 gK):=by
 unfold UT MP
 with_reducible repeat' first | exact ae.bK _ | refine ae.fZ λ _=>?_ | refine ae.af ?_ ?_ | refine ae.jB (λ _=>?_) (λ _=>?_) _ | exact iz _ | exact hy _ _ | refine ae.bN ?_ λ _=>?_
def aeA(x0:(List Reach))(x1:(Reach→Option Bool)):Option Bool :=
 (UT x0 x1).bind λ di =>
 some (decide (di ≥ 0))
theorem aHp(x0:(List Reach)){x1 gK:(Reach→Option Bool)}(iz:∀ y,ae (x1 y) (gK y)):ae (aeA x0 x1) (Ii x0 gK):=by
 unfold aeA Ii
 with_reducible repeat' first | exact ae.bK _ | refine aHs _ (λ _=>?_) | exact iz _ | exact hy _ _ | refine ae.bN ?_ λ _=>?_
def d273(x0:Reach)(x1:Int)(x2:Int)(x3:Int):{c // ae c (Fu x0 x1 x2 x3)}:=⟨_,by
 unfold Fu
 with_reducible repeat' first | intro _ | apply ae.af | apply ae.bN | exact ae.bK _⟩
def d272(x0:Reach):{c // ae c (Ft x0)}:=⟨_,by
 unfold Ft
 with_reducible repeat' first | intro _ | apply (d273 _ _ _ _).2 | apply ae.bN | exact ae.bK _⟩
def d267(x0:aj):{c // ae c (Fl x0)}:=⟨_,by
 unfold Fl
 with_reducible repeat' first | intro _ | apply (d139 _ _ _).2 | apply aHp | apply (d272 _).2 | apply ae.af | apply ae.bN | exact ae.bK _⟩
def UU(x0:(List fG))(x1:(fG→Option Bool)):Option Int :=
 (pO (O:=(Unit ⊕ Int)) (λ (dI:Int) =>
 af (decide (dI < (x0.length:Int)))
 ((idx x0 dI).bind λ iF =>
 (x1 iF).bind λ gL =>
 af gL
 (some (.inr (.inr dI)))
 (some (.inl (i64 (dI+1)))))
 (some (.inr (.inl ())))) 0).bind (Sum.elim (λ (_:Unit) =>
 some (-1))
  (λ q=>some q))
theorem aHt(x0:(List fG)){x1 gK:(fG→Option Bool)}(iz:∀ y,ae (x1 y) (gK y)):ae (UU x0 x1) (MQ x0 gK):=by
 unfold UU MQ
 with_reducible repeat' first | exact ae.bK _ | refine ae.fZ λ _=>?_ | refine ae.af ?_ ?_ | refine ae.jB (λ _=>?_) (λ _=>?_) _ | exact iz _ | exact hy _ _ | refine ae.bN ?_ λ _=>?_
def aeB(x0:(List fG))(x1:(fG→Option Bool)):Option Bool :=
 (UU x0 x1).bind λ di =>
 some (decide (di ≥ 0))
theorem aHr(x0:(List fG)){x1 gK:(fG→Option Bool)}(iz:∀ y,ae (x1 y) (gK y)):ae (aeB x0 x1) (Ij x0 gK):=by
 unfold aeB Ij
 with_reducible repeat' first | exact ae.bK _ | refine aHt _ (λ _=>?_) | exact iz _ | exact hy _ _ | refine ae.bN ?_ λ _=>?_
def d276(x0:fG)(x1:fG):{c // ae c (Fv x0 x1)}:=⟨_,by
 unfold Fv
 with_reducible repeat' first | intro _ | apply ae.bN | exact ae.bK _⟩
def d268(x0:aj):{c // ae c (Fo x0)}:=⟨_,by
 unfold Fo
 with_reducible repeat' first | intro _ | apply (d139 _ _ _).2 | apply aHq | apply aHr | apply (d276 _ _).2 | apply ae.fZ | apply ae.af | apply ae.jB | apply ae.bN | exact ae.bK _⟩
def d107(x0:Int)(x1:Int):{c // ae c (qE x0 x1)}:=⟨_,by
 unfold qE
 with_reducible repeat' first | intro _ | apply (d139 _ _ _).2 | apply ae.af | apply ae.bN | exact ae.bK _⟩
abbrev aec(x0:Int)(x1:Int):=(d107 x0 x1).1
theorem aGS(x0:Int)(x1:Int):ae (aec x0 x1) (qE x0 x1):=(d107 x0 x1).2
def d269(x0:aj):{c // ae c (Fp x0)}:=⟨_,by
 unfold Fp
 with_reducible repeat' first | intro _ | apply (d107 _ _).2 | apply (d139 _ _ _).2 | apply ae.fZ | apply ae.af | apply ae.jB | apply ae.bN | exact ae.bK _⟩
def d270(x0:aj):{c // ae c (Fs x0)}:=⟨_,by
 unfold Fs
 with_reducible repeat' first | intro _ | apply (d107 _ _).2 | apply (d139 _ _ _).2 | apply ae.fZ | apply ae.af | apply ae.jB | apply ae.bN | exact ae.bK _⟩
def d82(x0:aj):{c // ae c (qG x0)}:=⟨_,by
 unfold qG
 with_reducible repeat' first | intro _ | apply (d265 _).2 | apply (d266 _).2 | apply (d267 _).2 | apply (d268 _).2 | apply (d269 _).2 | apply (d270 _).2 | apply ae.af | apply ae.bN | exact ae.bK _⟩
abbrev U4(x0:aj):=(d82 x0).1
theorem ahF(x0:aj):ae (U4 x0) (qG x0):=(d82 x0).2
def UM (x1:(bz→((List bz) ⊕ Empty)→Option (((List bz) ⊕ Empty) × Bool))→((List bz) ⊕ Empty)→Option ((List bz) ⊕ Empty)):Option (List bz) :=
 (x1 (ic (λ (tI:bz) (kV:(List bz))=>(((ij kV [tI]).bind λ gC =>
 some (.inl gC)):Option ((List bz) ⊕ Empty)))) (.inl [])).bind (Sum.elim (λ (kV:(List bz)) =>
 some kV)
  (λ (o:Empty)=>o.elim))
theorem aG2{x1 gK:(bz→((List bz) ⊕ Empty)→Option (((List bz) ⊕ Empty) × Bool))→((List bz) ⊕ Empty)→Option ((List bz) ⊕ Empty)}(iz:∀ ys lz,(∀ y s,ae (ys y s) (lz y s))→∀ s,ae (x1 ys s) (gK lz s)):ae (UM x1) (Ia gK):=by
 unfold UM Ia
 with_reducible repeat' first | exact ae.bK _ | refine ae.jB (λ _=>?_) (λ _=>?_) _ | refine ae.ic (λ _ _=>?_) _ _ | refine iz _ _ (λ _ _=>?_) _ | exact iz | exact hy _ _ | refine ae.bN ?_ λ _=>?_
def OS (x0:(bz→((List bz) ⊕ Empty)→Option (((List bz) ⊕ Empty) × Bool))→((List bz) ⊕ Empty)→Option ((List bz) ⊕ Empty)):Option (List bz) :=
 (UM x0).bind λ di =>
 some di
theorem aau{x0 Dc:(bz→((List bz) ⊕ Empty)→Option (((List bz) ⊕ Empty) × Bool))→((List bz) ⊕ Empty)→Option ((List bz) ⊕ Empty)}(sJ:∀ ys lz,(∀ y s,ae (ys y s) (lz y s))→∀ s,ae (x0 ys s) (Dc lz s)):ae (OS x0) (zT Dc):=by
 unfold OS zT
 with_reducible repeat' first | exact ae.bK _ | refine aG2 (λ _ _ hy _=>?_) | refine sJ _ _ (λ _ _=>?_) _ | exact sJ | exact hy _ _ | refine ae.bN ?_ λ _=>?_
def UR(x0:(List dp))(x1:(dp→Option Bool)):Option Int :=
 (pO (O:=(Unit ⊕ Int)) (λ (dI:Int) =>
 af (decide (dI < (x0.length:Int)))
 ((idx x0 dI).bind λ iF =>
 (x1 iF).bind λ gL =>
 af gL
 (some (.inr (.inr dI)))
 (some (.inl (i64 (dI+1)))))
 (some (.inr (.inl ())))) 0).bind (Sum.elim (λ (_:Unit) =>
 some (-1))
  (λ q=>some q))
theorem aHa(x0:(List dp)){x1 gK:(dp→Option Bool)}(iz:∀ y,ae (x1 y) (gK y)):ae (UR x0 x1) (ML x0 gK):=by
 unfold UR ML
 with_reducible repeat' first | exact ae.bK _ | refine ae.fZ λ _=>?_ | refine ae.af ?_ ?_ | refine ae.jB (λ _=>?_) (λ _=>?_) _ | exact iz _ | exact hy _ _ | refine ae.bN ?_ λ _=>?_
def aeq(x0:(List dp))(x1:(dp→Option Bool)):Option Bool :=
 (UR x0 x1).bind λ di =>
 some (decide (di ≥ 0))
theorem aG8(x0:(List dp)){x1 gK:(dp→Option Bool)}(iz:∀ y,ae (x1 y) (gK y)):ae (aeq x0 x1) (Ie x0 gK):=by
 unfold aeq Ie
 with_reducible repeat' first | exact ae.bK _ | refine aHa _ (λ _=>?_) | exact iz _ | exact hy _ _ | refine ae.bN ?_ λ _=>?_
def d187(x0:dp)(x1:bz):{c // ae c (Ff x0 x1)}:=⟨_,by
 unfold Ff
 with_reducible repeat' first | intro _ | apply ae.bN | exact ae.bK _⟩
def d162(x0:aj)(x1:bz):{c // ae c (Ck x0 x1)}:=⟨_,by
 unfold Ck
 with_reducible repeat' first | intro _ | apply aG8 | apply (d187 _ _).2 | apply ae.bN | exact ae.bK _⟩
abbrev ael(x0:aj)(x1:bz):=(d162 x0 x1).1
theorem aG3(x0:aj)(x1:bz):ae (ael x0 x1) (Ck x0 x1):=(d162 x0 x1).2
def OM{S:Type}(ys:bz→S→Option (S × Bool)):Nat→Int→aj→bz→S→Option (S × (bz × Bool))
 | 0,_,_,_,_=>none
 | k+1,x0,x1,x2,s0 =>
  af (x0 == (x1.aK.length:Int))
  (((((ael x1 x2).bind λ eW =>
  af (!eW)
  (some (s0,true))
  ((ys x2 s0).bind λ jy =>
  some (jy.1,jy.2))):Option (S × Bool))).bind (λ (z9:(S × Bool)) =>
  some (z9.1,(x2,z9.2))))
  ((idx x1.aK x0).bind λ cy =>
  (pO (O:=((S × (List Int)) ⊕ (S × (bz × Bool)))) (λ (bP:(S × Int × (List Int))) =>
  (idx x1.aK x0).bind λ fR =>
  af (decide (bP.2.1≤fR.eA))
  ((idx bP.2.2 x0).bind λ _ =>
  (OM ys k (i64 (x0+1)) x1 (⟨bP.2.2.set x0.toNat bP.2.1⟩:bz) bP.1).bind λ jd =>
  af (!jd.2.2)
  (some (.inr (.inr (jd.1,(jd.2.1,false)))))
  (some (.inl (jd.1,i64 (bP.2.1+1),jd.2.1.deep))))
  (some (.inr (.inl (bP.1,bP.2.2))))) (s0,cy.c6,x2.deep)).bind (Sum.elim (λ (oY:(S × (List Int))) =>
  some (oY.1,((⟨oY.2⟩:bz),true)))
   (λ q=>some q)))
theorem ahA{S:Type}{ys lz:bz→S→Option (S × Bool)}(h:∀ y s,ae (ys y s) (lz y s)):∀ k x0 x1 x2 s0,ae (OM ys k x0 x1 x2 s0) (sY lz k x0 x1 x2 s0)
 | 0,_,_,_,_=>ae.none
 | k+1,x0,x1,x2,s0=>by
  have ih:=ahA h k
  rw [OM,sY]
  with_reducible repeat' first | exact ae.bK _ | refine ae.fZ λ _=>?_ | refine ae.af ?_ ?_ | refine ae.jB (λ _=>?_) (λ _=>?_) _ | exact aG3 _ _ | exact h _ _ | exact ih _ _ _ _ | refine ae.bN ?_ λ _=>?_
def OT{S:Type}(ys:bz→S→Option (S × Bool))(x0:aj)(s0:S):Option S :=
 (OM ys 9 0 x0 (⟨[0,0,0]⟩:bz) s0).bind λ mL =>
  some mL.1
theorem Rc{S:Type}{ys lz:bz→S→Option (S × Bool)}(h:∀ y s,ae (ys y s) (lz y s))(x0:aj)(s0:S):ae (OT ys x0 s0) (qH lz x0 s0):=by
 unfold OT qH
 with_reducible repeat' first | exact ae.bK _ | refine ahA (λ _ _=>?_) _ _ _ _ _ | exact h _ _ | refine ae.bN ?_ λ _=>?_
def d23(x0:aj):{c // ae c (ye x0)}:=⟨_,by
 unfold ye
 with_reducible repeat' first | intro _ | apply (d82 _).2 | apply aau | apply Rc | apply ae.af | apply ae.bN | exact ae.bK _ | exact ‹∀ _ _,ae _ _› _ _⟩
abbrev c23(x0:aj):=(d23 x0).1
theorem aHl(x0:aj):ae (c23 x0) (ye x0):=(d23 x0).2
def c94(x0:aj)(x1:(aj→Option Int)):Option (cD × Int) :=
 (U4 x0).bind λ ja =>
 af (ja != 0)
 (some ((⟨⟨0,[],[],[],[],[]⟩,[]⟩:cD),ja))
 ((x1 x0).bind λ gu =>
 af (gu != 0)
 (some ((⟨⟨0,[],[],[],[],[]⟩,[]⟩:cD),gu))
 ((OS (λ y s=>OT y x0 s)).bind λ iE =>
 af ((iE.length:Int) == 0)
 (some ((⟨⟨0,[],[],[],[],[]⟩,[]⟩:cD),9))
 (some ((⟨⟨x0.Rest,x0.Rows,x0.aK,x0.ax,x0.ay,x0.bg⟩,iE⟩:cD),0))))
theorem zD(x0:aj){x1 gK:(aj→Option Int)}(iz:∀ y,ae (x1 y) (gK y)):ae (c94 x0 x1) (pP x0 gK):=by
 unfold c94 pP
 with_reducible repeat' first | exact ae.bK _ | refine ae.af ?_ ?_ | exact ahF _ | refine aau (λ _ _ hy _=>?_) | refine Rc (λ _ _=>?_) _ _ | exact iz _ | exact hy _ _ | refine ae.bN ?_ λ _=>?_
def d163(x0:aj)(x1:Int):{c // ae c (rI x0 x1)}:=⟨_,by
 unfold rI
 with_reducible repeat' first | intro _ | apply (d107 _ _).2 | apply ae.bN | exact ae.bK _⟩
def d95(x0:Int):{c // ae c (FB x0)}:=⟨_,by
 unfold FB
 with_reducible repeat' first | intro _ | apply ae.bN | exact ae.bK _⟩
def d235(x0:Int):{c // ae c (zR x0)}:=⟨_,by
 unfold zR
 with_reducible repeat' first | intro _ | apply ae.bN | exact ae.bK _⟩
def d221(x0:Int)(x1:Int):{c // ae c (hZ x0 x1)}:=⟨_,by
 unfold hZ
 with_reducible repeat' first | intro _ | apply (d235 _).2 | apply ae.af | apply ae.bN | exact ae.bK _⟩
abbrev aex(x0:Int)(x1:Int):=(d221 x0 x1).1
theorem aHi(x0:Int)(x1:Int):ae (aex x0 x1) (hZ x0 x1):=(d221 x0 x1).2
def d215(x0:(List Int))(x1:Int)(x2:Int):{c // ae c (Cp x0 x1 x2)}:=⟨_,by
 unfold Cp
 with_reducible repeat' first | intro _ | apply (d221 _ _).2 | apply ae.fZ | apply ae.af | apply ae.bN | exact ae.bK _⟩
abbrev aer(x0:(List Int))(x1:Int)(x2:Int):=(d215 x0 x1 x2).1
theorem aHb(x0:(List Int))(x1:Int)(x2:Int):ae (aer x0 x1 x2) (Cp x0 x1 x2):=(d215 x0 x1 x2).2
def d236(x0:(List Int))(x1:Int)(x2:Int)(x3:Int):{c // ae c (Cv x0 x1 x2 x3)}:=⟨_,by
 unfold Cv
 with_reducible repeat' first | intro _ | apply (d221 _ _).2 | apply ae.fZ | apply ae.af | apply ae.jB | apply ae.bN | exact ae.bK _⟩
def d216(x0:(List Int))(x1:Int)(x2:Int):{c // ae c (Cq x0 x1 x2)}:=⟨_,by
 unfold Cq
 with_reducible repeat' first | intro _ | apply (d236 _ _ _ _).2 | apply ae.fZ | apply ae.af | apply ae.bN | exact ae.bK _⟩
abbrev aes(x0:(List Int))(x1:Int)(x2:Int):=(d216 x0 x1 x2).1
theorem aHc(x0:(List Int))(x1:Int)(x2:Int):ae (aes x0 x1 x2) (Cq x0 x1 x2):=(d216 x0 x1 x2).2
def d225(x0:Int):{c // ae c (MN x0)}:=⟨_,by
 unfold MN
 with_reducible repeat' first | intro _ | apply ae.af | apply ae.bN | exact ae.bK _⟩
def d189(x0:Int):{c // ae c (Co x0)}:=⟨_,by
 unfold Co
 with_reducible repeat' first | intro _ | apply (d225 _).2 | apply ae.bN | exact ae.bK _⟩
abbrev UO(x0:Int):=(d189 x0).1
theorem aG9(x0:Int):ae (UO x0) (Co x0):=(d189 x0).2
def d237(x0:Int):{c // ae c (Fh x0)}:=⟨_,by
 unfold Fh
 with_reducible repeat' first | intro _ | apply (d189 _).2 | apply ae.bN | exact ae.bK _⟩
abbrev US(x0:Int):=(d237 x0).1
theorem aHm(x0:Int):ae (US x0) (Fh x0):=(d237 x0).2
def d238(x0:Int):{c // ae c (Fi x0)}:=⟨_,by
 unfold Fi
 with_reducible repeat' first | intro _ | apply ae.bN | exact ae.bK _⟩
def d217(x0:(List Int))(x1:Int)(x2:Int):{c // ae c (zP x0 x1 x2)}:=⟨_,by
 unfold zP
 with_reducible repeat' first | intro _ | apply (d237 _).2 | apply (d238 _).2 | apply ae.fZ | apply ae.af | apply ae.bN | exact ae.bK _⟩
abbrev aet(x0:(List Int))(x1:Int)(x2:Int):=(d217 x0 x1 x2).1
theorem aHd(x0:(List Int))(x1:Int)(x2:Int):ae (aet x0 x1 x2) (zP x0 x1 x2):=(d217 x0 x1 x2).2
def d248(x0:(List Int))(x1:Int)(x2:Int)(x3:Int):{c // ae c (uq x0 x1 x2 x3)}:=⟨_,by
 unfold uq
 with_reducible repeat' first | intro _ | apply (d221 _ _).2 | apply ae.af | apply ae.bN | exact ae.bK _⟩
def d240(x0:(List Int))(x1:Int)(x2:Int)(x3:Int)(x4:Int):{c // ae c (vU x0 x1 x2 x3 x4)}:=⟨_,by
 unfold vU
 with_reducible repeat' first | intro _ | apply (d248 _ _ _ _).2 | apply ae.bN | exact ae.bK _⟩
def d239(x0:(List Int))(x1:Int)(x2:Int):{c // ae c (uo x0 x1 x2)}:=⟨_,by
 unfold uo
 with_reducible repeat' first | intro _ | apply (d240 _ _ _ _ _).2 | apply ae.bN | exact ae.bK _⟩
def d218(x0:(List Int))(x1:Int)(x2:Int):{c // ae c (Cr x0 x1 x2)}:=⟨_,by
 unfold Cr
 with_reducible repeat' first | intro _ | apply (d239 _ _ _).2 | apply (d240 _ _ _ _ _).2 | apply ae.af | apply ae.bN | exact ae.bK _⟩
abbrev aeu(x0:(List Int))(x1:Int)(x2:Int):=(d218 x0 x1 x2).1
theorem aHe(x0:(List Int))(x1:Int)(x2:Int):ae (aeu x0 x1 x2) (Cr x0 x1 x2):=(d218 x0 x1 x2).2
def d219(x0:(List Int))(x1:Int)(x2:Int):{c // ae c (zQ x0 x1 x2)}:=⟨_,by
 unfold zQ
 with_reducible repeat' first | intro _ | apply ae.fZ | apply ae.af | apply ae.bN | exact ae.bK _⟩
abbrev aev(x0:(List Int))(x1:Int)(x2:Int):=(d219 x0 x1 x2).1
theorem aHf(x0:(List Int))(x1:Int)(x2:Int):ae (aev x0 x1 x2) (zQ x0 x1 x2):=(d219 x0 x1 x2).2
def d220(x0:(List Int))(x1:Int)(x2:Int):{c // ae c (yd x0 x1 x2)}:=⟨_,by
 unfold yd
 with_reducible repeat' first | intro _ | apply (d221 _ _).2 | apply ae.fZ | apply ae.af | apply ae.jB | apply ae.bN | exact ae.bK _⟩
abbrev aew(x0:(List Int))(x1:Int)(x2:Int):=(d220 x0 x1 x2).1
theorem aHh(x0:(List Int))(x1:Int)(x2:Int):ae (aew x0 x1 x2) (yd x0 x1 x2):=(d220 x0 x1 x2).2
def d222(x0:(List Int))(x1:Int)(x2:Int)(x3:Int):{c // ae c (Ct x0 x1 x2 x3)}:=⟨_,by
 unfold Ct
 with_reducible repeat' first | intro _ | apply (d221 _ _).2 | apply ae.fZ | apply ae.af | apply ae.bN | exact ae.bK _⟩
abbrev aey(x0:(List Int))(x1:Int)(x2:Int)(x3:Int):=(d222 x0 x1 x2 x3).1
theorem aHj(x0:(List Int))(x1:Int)(x2:Int)(x3:Int):ae (aey x0 x1 x2 x3) (Ct x0 x1 x2 x3):=(d222 x0 x1 x2 x3).2
def d223(x0:(List Int))(x1:Int)(x2:Int)(x3:Int):{c // ae c (Cu x0 x1 x2 x3)}:=⟨_,by
 unfold Cu
 with_reducible repeat' first | intro _ | apply (d221 _ _).2 | apply ae.fZ | apply ae.af | apply ae.bN | exact ae.bK _⟩
abbrev aez(x0:(List Int))(x1:Int)(x2:Int)(x3:Int):=(d223 x0 x1 x2 x3).1
theorem aHk(x0:(List Int))(x1:Int)(x2:Int)(x3:Int):ae (aez x0 x1 x2 x3) (Cu x0 x1 x2 x3):=(d223 x0 x1 x2 x3).2
def OO:Nat→(List Int)→Int→Int→Int→Option (List Int)
 | 0,_,_,_,_=>none
 | k+1,x0,x1,x2,x3 =>
  (pO (O:=(List Int)) (λ (br:((List Int) × Int × Int × Int × Bool × Bool)) =>
  af (decide (i64 (br.2.2.1 - br.2.1)≤12))
  ((aer br.1 br.2.1 br.2.2.1).bind λ AN =>
  some (.inr AN))
  (af (br.2.2.2.1 == 0)
  ((aes br.1 br.2.1 br.2.2.1).bind λ TD =>
  some (.inr TD))
  ((((af (!br.2.2.2.2.1)
  ((aet br.1 br.2.1 br.2.2.1).bind λ Js =>
  some (Js,i64 (br.2.2.2.1 - 1)))
  (some (br.1,br.2.2.2.1))):Option ((List Int) × Int))).bind (λ (iX:((List Int) × Int)) =>
  (aeu iX.1 br.2.1 br.2.2.1).bind λ yE =>
  (((af (yE.2 == 2)
  ((aev iX.1 br.2.1 br.2.2.1).bind λ AO =>
  some (AO,i64 ((i64 (br.2.2.1 - 1)) - (i64 (yE.1 - br.2.1))),1))
  (some (iX.1,yE.1,yE.2))):Option ((List Int) × Int × Int))).bind (λ (lp:((List Int) × Int × Int)) =>
  (((af br.2.2.2.2.1
  (af br.2.2.2.2.2
  (some (lp.2.2 == 1))
  (some false))
  (some false)):Option Bool)).bind (λ (IM:Bool) =>
  (((af IM
  ((aew lp.1 br.2.1 br.2.2.1).bind λ p5 =>
  af p5.2
  (some (.inr p5.1))
  (some (.inl p5.1)))
  (some (.inl lp.1))):Option ((List Int) ⊕ (List Int)))).bind (Sum.elim (λ (rP:(List Int)) =>
  (((af (decide (br.2.1 > 0))
  ((idx rP (i64 (br.2.1 - 1))).bind λ GD =>
  (idx rP lp.2.1).bind λ GF =>
  (aex GD GF).bind λ Ju =>
  some (!Ju))
  (some false)):Option Bool)).bind (λ (IN:Bool) =>
  af IN
  ((aey rP br.2.1 br.2.2.1 lp.2.1).bind λ Jv =>
  some (.inl (Jv.1,Jv.2,br.2.2.1,iX.2,br.2.2.2.2.1,br.2.2.2.2.2)))
  ((aez rP br.2.1 br.2.2.1 lp.2.1).bind λ iN =>
  (oZ (i64 (br.2.2.1 - br.2.1)) 8).bind λ Jw =>
  af (decide (i64 (iN.2.1 - br.2.1) < i64 (br.2.2.1 - iN.2.1)))
  ((OO k iN.1 br.2.1 iN.2.1 iX.2).bind λ TG =>
  some (.inl (TG,i64 (iN.2.1+1),br.2.2.1,iX.2,decide (i64 (iN.2.1 - br.2.1) ≥ Jw),iN.2.2)))
  ((OO k iN.1 (i64 (iN.2.1+1)) br.2.2.1 iX.2).bind λ TH =>
  some (.inl (TH,br.2.1,iN.2.1,iX.2,decide (i64 (br.2.2.1 - iN.2.1) ≥ Jw),iN.2.2))))))
   (λ q=>some (.inr q))))))))) (x0,x1,x2,x3,true,true)).bind (λ q=>some q)
theorem ahD:∀ k x0 x1 x2 x3,ae (OO k x0 x1 x2 x3) (vT k x0 x1 x2 x3)
 | 0,_,_,_,_=>ae.none
 | k+1,x0,x1,x2,x3=>by
  have ih:=ahD k
  rw [OO,vT]
  with_reducible repeat' first | exact ae.bK _ | refine ae.fZ λ _=>?_ | refine ae.af ?_ ?_ | refine ae.jB (λ _=>?_) (λ _=>?_) _ | exact aHb _ _ _ | exact aHc _ _ _ | exact aHd _ _ _ | exact aHe _ _ _ | exact aHf _ _ _ | exact aHh _ _ _ | exact aHi _ _ | exact aHj _ _ _ _ | exact aHk _ _ _ _ | exact ih _ _ _ _ | refine ae.bN ?_ λ _=>?_
def d164(x0:(List Int)):{c // ae c (Cl x0)}:=⟨_,by
 unfold Cl
 with_reducible repeat' first | intro _ | apply ahD | apply (d189 _).2 | apply ae.bN | exact ae.bK _⟩
abbrev aem(x0:(List Int)):=(d164 x0).1
theorem aG4(x0:(List Int)):ae (aem x0) (Cl x0):=(d164 x0).2
def d165(x0:(List Int)):{c // ae c (Cm x0)}:=⟨_,by
 unfold Cm
 with_reducible repeat' first | intro _ | apply ae.fZ | apply ae.af | apply ae.jB | apply ae.bN | exact ae.bK _⟩
abbrev aen(x0:(List Int)):=(d165 x0).1
theorem aG5(x0:(List Int)):ae (aen x0) (Cm x0):=(d165 x0).2
def c96(x0:cD)(x1:(bz→Option Int)):Option (List Int) :=
 (pO (O:=(List Int)) (λ (qQ:((List Int) × Int)) =>
 af (decide (qQ.2 < (x0.fH.length:Int)))
 ((idx x0.fH qQ.2).bind λ my =>
 (x1 my).bind λ pj =>
 (ij qQ.1 [pj]).bind λ oy =>
 some (.inl (oy,i64 (qQ.2+1))))
 (some (.inr qQ.1))) ([],0)).bind (λ (uE:(List Int)) =>
 (aem uE).bind λ wY =>
 (aen wY).bind λ np =>
 some np)
theorem ahG(x0:cD){x1 gK:(bz→Option Int)}(iz:∀ y,ae (x1 y) (gK y)):ae (c96 x0 x1) (Cx x0 gK):=by
 unfold c96 Cx
 with_reducible repeat' first | exact ae.bK _ | refine ae.fZ λ _=>?_ | refine ae.af ?_ ?_ | exact aG4 _ | exact aG5 _ | exact iz _ | exact hy _ _ | refine ae.bN ?_ λ _=>?_
def d97(x0:bz)(x1:Int):{c // ae c (FC x0 x1)}:=⟨_,by
 unfold FC
 with_reducible repeat' first | intro _ | apply ae.bN | exact ae.bK _⟩
def d25(x0:aj)(x1:Int):{c // ae c (yf x0 x1)}:=⟨_,by
 unfold yf
 with_reducible repeat' first | intro _ | apply zD | apply (d95 _).2 | apply ahG | apply (d97 _ _).2 | apply (d163 _ _).2 | apply ae.af | apply ae.bN | exact ae.bK _⟩
abbrev c25(x0:aj)(x1:Int):=(d25 x0 x1).1
theorem aHn(x0:aj)(x1:Int):ae (c25 x0 x1) (yf x0 x1):=(d25 x0 x1).2
def d103(x0:bz)(x1:cD)(x2:Int):{c // ae c (H6 x0 x1 x2)}:=⟨_,by
 unfold H6
 with_reducible repeat' first | intro _ | apply (d104 _ _).2 | apply ae.bN | exact ae.bK _⟩
def d28(x0:aj)(x1:Int):{c // ae c (Ik x0 x1)}:=⟨_,by
 unfold Ik
 with_reducible repeat' first | intro _ | apply zD | apply (d95 _).2 | apply ahG | apply (d103 _ _ _).2 | apply (d163 _ _).2 | apply ae.af | apply ae.bN | exact ae.bK _⟩
abbrev c28(x0:aj)(x1:Int):=(d28 x0 x1).1
theorem aHu(x0:aj)(x1:Int):ae (c28 x0 x1) (Ik x0 x1):=(d28 x0 x1).2
def d106(x0:aj)(x1:Int)(x2:Int):{c // ae c (Cf x0 x1 x2)}:=⟨_,by
 unfold Cf
 with_reducible repeat' first | intro _ | apply (d107 _ _).2 | apply ae.bN | exact ae.bK _⟩
def d108(x0:cD)(x1:Int):{c // ae c (zF x0 x1)}:=⟨_,by
 unfold zF
 with_reducible repeat' first | intro _ | apply ae.af | apply ae.bN | exact ae.bK _⟩
abbrev aed(x0:cD)(x1:Int):=(d108 x0 x1).1
theorem aGT(x0:cD)(x1:Int):ae (aed x0 x1) (zF x0 x1):=(d108 x0 x1).2
def d110(x0:bz)(x1:cD)(x2:Int)(x3:Int):{c // ae c (E2 x0 x1 x2 x3)}:=⟨_,by
 unfold E2
 with_reducible repeat' first | intro _ | apply (d111 _ _ _ _).2 | apply ae.bN | exact ae.bK _⟩
def d30(x0:aj)(x1:Int)(x2:Int):{c // ae c (uu x0 x1 x2)}:=⟨_,by
 unfold uu
 with_reducible repeat' first | intro _ | apply zD | apply (d106 _ _ _).2 | apply (d108 _ _).2 | apply Ra | apply (d110 _ _ _ _).2 | apply ae.af | apply ae.bN | exact ae.bK _⟩
abbrev OP(x0:aj)(x1:Int)(x2:Int):=(d30 x0 x1 x2).1
theorem aHv(x0:aj)(x1:Int)(x2:Int):ae (OP x0 x1 x2) (uu x0 x1 x2):=(d30 x0 x1 x2).2
def d132(x0:(List Int)):{c // ae c (zK x0)}:=⟨_,by
 unfold zK
 with_reducible repeat' first | intro _ | apply ae.fZ | apply ae.af | apply ae.bN | exact ae.bK _⟩
abbrev aej(x0:(List Int)):=(d132 x0).1
theorem aG0(x0:(List Int)):ae (aej x0) (zK x0):=(d132 x0).2
def UJ(x0:aj)(x1:(List (List Int))):Option ((List Bool) × Int) :=
 af ((x1.length:Int) != (x0.ay.length:Int))
 (some ([false,false,false,false,false,false,false,false,false,false,false,false,false,false,false,false],2))
 ((pO (O:=((List Bool) ⊕ ((List Bool) × Int))) (λ (ie:(Int × (List Bool))) =>
 af (decide (ie.1 < (x1.length:Int)))
 ((idx x1 ie.1).bind λ qX =>
 (idx x0.ay ie.1).bind λ Tx =>
 af ((qX.length:Int) != Tx.ax)
 (some (.inr (.inr ([false,false,false,false,false,false,false,false,false,false,false,false,false,false,false,false],2))))
 ((pO (O:=(Unit ⊕ ((List Bool) × Int))) (λ (qO:Int) =>
 af (decide (qO < (qX.length:Int)))
 ((idx qX qO).bind λ GC =>
 (aec GC (x0.ax.length:Int)).bind λ Jr =>
 af (Jr != 0)
 (some (.inr (.inr ([false,false,false,false,false,false,false,false,false,false,false,false,false,false,false,false],Jr))))
 ((((af (decide (qO > 0))
 ((idx qX (i64 (qO - 1))).bind λ Ty =>
 some (decide (GC≤Ty)))
 (some false)):Option Bool)).bind (λ (IK:Bool) =>
 af IK
 (some (.inr (.inr ([false,false,false,false,false,false,false,false,false,false,false,false,false,false,false,false],7))))
 (some (.inl (i64 (qO+1)))))))
 (some (.inr (.inl ())))) 0).bind (Sum.elim (λ (_:Unit) =>
 (aej qX).bind λ Tz =>
 (ib 4 ie.2 ie.1).bind λ _ =>
 some (.inl (i64 (ie.1+1),IY 4 ie.2 ie.1 Tz)))
  (λ q=>some (.inr (.inr q))))))
 (some (.inr (.inl ie.2)))) (0,[false,false,false,false,false,false,false,false,false,false,false,false,false,false,false,false])).bind (Sum.elim (λ (FO:(List Bool)) =>
 some (FO,0))
  (λ q=>some q)))
theorem aGW(x0:aj)(x1:(List (List Int))):ae (UJ x0 x1) (MA x0 x1):=by
 unfold UJ MA
 with_reducible repeat' first | exact ae.bK _ | refine ae.fZ λ _=>?_ | refine ae.af ?_ ?_ | refine ae.jB (λ _=>?_) (λ _=>?_) _ | exact aGS _ _ | exact aG0 _ | exact hy _ _ | refine ae.bN ?_ λ _=>?_
def UI(x0:aj)(x1:(List (List Int)))(_:(List Bool)):Option ((List Bool) × Int) :=
 (UJ x0 x1).bind λ eG =>
 some (eG.1,eG.2)
theorem aGV(x0:aj)(x1:(List (List Int)))(x2:(List Bool)):ae (UI x0 x1 x2) (Mz x0 x1 x2):=by
 unfold UI Mz
 with_reducible repeat' first | exact ae.bK _ | exact aGW _ _ | exact hy _ _ | refine ae.bN ?_ λ _=>?_
def d149(x0:aj)(x1:Int)(x2:Int):{c // ae c (Cj x0 x1 x2)}:=⟨_,by
 unfold Cj
 with_reducible repeat' first | intro _ | apply ae.af | apply ae.bN | exact ae.bK _⟩
def d117(x0:aj)(x1:(List Bool))(x2:Int):{c // ae c (zH x0 x1 x2)}:=⟨_,by
 unfold zH
 with_reducible repeat' first | intro _ | apply (d149 _ _ _).2 | apply ae.fZ | apply ae.af | apply ae.jB | apply ae.bN | exact ae.bK _⟩
abbrev UK(x0:aj)(x1:(List Bool))(x2:Int):=(d117 x0 x1 x2).1
theorem aas(x0:aj)(x1:(List Bool))(x2:Int):ae (UK x0 x1 x2) (zH x0 x1 x2):=(d117 x0 x1 x2).2
def d118(x0:bz)(x1:aj)(x2:(List Bool))(x3:cD):{c // ae c (E3 x0 x1 x2 x3)}:=⟨_,by
 unfold E3
 with_reducible repeat' first | intro _ | apply (d111 _ _ _ _).2 | apply ae.fZ | apply ae.af | apply ae.jB | apply ae.bN | exact ae.bK _⟩
abbrev aee(x0:bz)(x1:aj)(x2:(List Bool))(x3:cD):=(d118 x0 x1 x2 x3).1
theorem aGX(x0:bz)(x1:aj)(x2:(List Bool))(x3:cD):ae (aee x0 x1 x2 x3) (E3 x0 x1 x2 x3):=(d118 x0 x1 x2 x3).2
def UH(x0:aj)(yz:(List (List Int)))(tG:(List Bool)):Option ((List Bool) × cD × Int) :=
 (U4 x0).bind λ ja =>
 af (ja != 0)
 (some (tG,(⟨⟨0,[],[],[],[],[]⟩,[]⟩:cD),ja))
 ((UI x0 yz tG).bind λ gu =>
 af (gu.2 != 0)
 (some (gu.1,(⟨⟨0,[],[],[],[],[]⟩,[]⟩:cD),gu.2))
 ((OS (λ y s=>OT y x0 s)).bind λ iE =>
 af ((iE.length:Int) == 0)
 (some (gu.1,(⟨⟨0,[],[],[],[],[]⟩,[]⟩:cD),9))
 (some (gu.1,(⟨⟨x0.Rest,x0.Rows,x0.aK,x0.ax,x0.ay,x0.bg⟩,iE⟩:cD),0))))
theorem aGU(x0:aj)(yz:(List (List Int)))(tG:(List Bool)):ae (UH x0 yz tG) (My x0 yz tG):=by
 unfold UH My
 with_reducible repeat' first | exact ae.bK _ | refine ae.af ?_ ?_ | exact ahF _ | refine aau (λ _ _ hy _=>?_) | refine Rc (λ _ _=>?_) _ _ | exact aGV _ _ _ | exact hy _ _ | refine ae.bN ?_ λ _=>?_
def OQ(x0:aj)(x1:(List (List Int))):Option (Int × Int) :=
 (UH x0 x1 [false,false,false,false,false,false,false,false,false,false,false,false,false,false,false,false]).bind λ fR =>
 af (fR.2.2 != 0)
 (some (0,fR.2.2))
 ((pO (O:=(Unit ⊕ (Int × Int))) (λ (wB:Int) =>
 af (decide (wB < (x0.ay.length:Int)))
 ((UK fR.2.1.book fR.1 wB).bind λ p7 =>
 af (!p7)
 (some (.inr (.inr (2,0))))
 (some (.inl (i64 (wB+1)))))
 (some (.inr (.inl ())))) 0).bind (Sum.elim (λ (_:Unit) =>
 (OL fR.2.1 (λ y=>aee y x0 fR.1 fR.2.1)).bind λ my =>
 (aed fR.2.1 my).bind λ Dl =>
 some (Dl,0))
  (λ q=>some q)))
theorem aHw(x0:aj)(x1:(List (List Int))):ae (OQ x0 x1) (m32 x0 x1):=by
 unfold OQ m32
 with_reducible repeat' first | exact ae.bK _ | refine ae.fZ λ _=>?_ | refine ae.af ?_ ?_ | refine ae.jB (λ _=>?_) (λ _=>?_) _ | exact aGT _ _ | refine Ra _ (λ _=>?_) | exact aas _ _ _ | exact aGX _ _ _ _ | exact aGU _ _ _ | exact hy _ _ | refine ae.bN ?_ λ _=>?_
def d121(x0:aj):{c // ae c (oo x0)}:=⟨_,by
 unfold oo
 with_reducible repeat' first | intro _ | apply ae.bN | exact ae.bK _⟩
def Bg{S:Type}(ys:(List Bool)→S→Option (S × Bool)):Nat→((List Bool)→Int→cD→Int→(List Bool)→(List Bool)→S→Option (S × Bool)) × ((List Bool)→Int→Int→Int→cD→Int→(List Bool)→(List Bool)→S→Option (S × Bool))
 | 0=>(λ _ _ _ _ _ _ _=>none,λ _ _ _ _ _ _ _ _ _=>none)
 | k+1=>(λ x0 x1 xX xO xG xA s0 =>
  af (x1 == (xX.book.ay.length:Int))
  ((ys x0 s0).bind λ lx =>
  some (lx.1,lx.2))
  ((lT .i64 xO x1).bind λ eW =>
  (fP .and .i64 eW 1).bind λ iM =>
  af (iM == 1)
  (((Bg ys k).1 x0 (i64 (x1+1)) xX xO xG xA s0).bind λ jz =>
  some (jz.1,jz.2))
  ((idx xX.book.ay x1).bind λ gB =>
  ((Bg ys k).2 x0 x1 0 gB.ax xX xO xG xA s0).bind λ fh =>
  some (fh.1,fh.2))),
  λ x0 x1 x2 x3 xX xO xG xA s0 =>
  af (x3 == 0)
  (((((UK xX.book x0 x1).bind λ iM =>
  af (!iM)
  (some (s0,true))
  (((Bg ys k).1 x0 (i64 (x1+1)) xX xO xG xA s0).bind λ cy =>
  some (cy.1,cy.2))):Option (S × Bool))).bind (λ (Aa:(S × Bool)) =>
  some (Aa.1,Aa.2)))
  ((pO (O:=(S ⊕ (S × Bool))) (λ (bP:(S × Int × (List Bool))) =>
  af (decide (bP.2.1 < (xX.book.ax.length:Int)))
  (((((idx xG bP.2.1).bind λ JB =>
  af (!JB)
  (some true)
  ((ib 4 xA x1).bind λ AR =>
  (idx AR bP.2.1).bind λ JD =>
  some (!JD))):Option Bool)).bind (λ (CH:Bool) =>
  af CH
  (some (.inl (bP.1,i64 (bP.2.1+1),bP.2.2)))
  ((ib 4 bP.2.2 x1).bind λ JE =>
  (idx JE bP.2.1).bind λ _ =>
  ((Bg ys k).2 (lS 4 bP.2.2 x1 bP.2.1 true) x1 (i64 (bP.2.1+1)) (i64 (x3 - 1)) xX xO xG xA bP.1).bind λ mA =>
  af (!mA.2)
  (some (.inr (.inr (mA.1,false))))
  ((ib 4 (lS 4 bP.2.2 x1 bP.2.1 true) x1).bind λ pe =>
  (idx pe bP.2.1).bind λ _ =>
  some (.inl (mA.1,i64 (bP.2.1+1),lS 4 (lS 4 bP.2.2 x1 bP.2.1 true) x1 bP.2.1 false))))))
  (some (.inr (.inl bP.1)))) (s0,x2,x0)).bind (Sum.elim (λ (oY:S) =>
  some (oY,true))
   (λ q=>some q))))
theorem ahB{S:Type}{ys lz:(List Bool)→S→Option (S × Bool)}(h:∀ y s,ae (ys y s) (lz y s)):∀ k,(∀ x0 x1 x2 x3 x4 x5 s0,ae ((Bg ys k).1 x0 x1 x2 x3 x4 x5 s0) ((kP lz k).1 x0 x1 x2 x3 x4 x5 s0))∧(∀ x0 x1 x2 x3 x4 x5 x6 x7 s0,ae ((Bg ys k).2 x0 x1 x2 x3 x4 x5 x6 x7 s0) ((kP lz k).2 x0 x1 x2 x3 x4 x5 x6 x7 s0))
 | 0=>⟨λ _ _ _ _ _ _ _=>ae.none,λ _ _ _ _ _ _ _ _ _=>ae.none⟩
 | k+1=>by
  have ih:=ahB h k
  have ih1:=ih.1
  have ih2:=ih.2
  rw [Bg,kP]
  constructor
  ·intro x0 x1 x2 x3 x4 x5 s0
   dsimp only
   with_reducible repeat' first | exact ae.bK _ | refine ae.fZ λ _=>?_ | refine ae.af ?_ ?_ | refine ae.jB (λ _=>?_) (λ _=>?_) _ | exact aas _ _ _ | exact h _ _ | exact ih1 _ _ _ _ _ _ _ | exact ih2 _ _ _ _ _ _ _ _ _ | refine ae.bN ?_ λ _=>?_
  ·intro x0 x1 x2 x3 x4 x5 x6 x7 s0
   dsimp only
   repeat' (first | with_reducible exact ae.bK _ | with_reducible refine ae.fZ λ _=>?_ | with_reducible refine ae.af ?_ ?_ | with_reducible refine ae.jB (λ _=>?_) (λ _=>?_) _ | with_reducible refine ae.ic (λ _ _=>?_) _ _ | with_reducible exact aas _ _ _ | with_reducible exact h _ _ | with_reducible exact ih1 _ _ _ _ _ _ _ | with_reducible exact ih2 _ _ _ _ _ _ _ _ _ | with_reducible refine ae.bN ?_ λ _=>?_)
def aeo{S:Type}(ys:(List Bool)→S→Option (S × Bool))(x1:cD)(x2:Int)(x3:(List Bool))(x4:(List Bool))(s0:S):Option S :=
 ((Bg ys 40).1 [false,false,false,false,false,false,false,false,false,false,false,false,false,false,false,false] 0 x1 x2 x3 x4 s0).bind λ rU =>
  some rU.1
theorem Rb{S:Type}{ys lz:(List Bool)→S→Option (S × Bool)}(h:∀ y s,ae (ys y s) (lz y s))(x1:cD)(x2:Int)(x3:(List Bool))(x4:(List Bool))(s0:S):ae (aeo ys x1 x2 x3 x4 s0) (qF lz x1 x2 x3 x4 s0):=by
 unfold aeo qF
 with_reducible repeat' first | exact ae.bK _ | refine (ahB (λ _ _=>?_) 40).1 _ _ _ _ _ _ _ | exact h _ _ | refine ae.bN ?_ λ _=>?_
def d122(x0:cD)(x1:(List Bool))(x2:(List Bool))(x3:Int):{c // ae c (vR x0 x1 x2 x3)}:=⟨_,by
 unfold vR
 with_reducible repeat' first | intro _ | apply ae.bN | exact ae.bK _⟩
def d124(x0:aj):{c // ae c (vS x0)}:=⟨_,by
 unfold vS
 with_reducible repeat' first | intro _ | apply ae.fZ | apply ae.af | apply ae.bN | exact ae.bK _⟩
def d34(x0:aj):{c // ae c (vV x0)}:=⟨_,by
 unfold vV
 with_reducible repeat' first | intro _ | apply zD | apply (d121 _).2 | apply (d122 _ _ _ _).2 | apply Mr | apply (d124 _).2 | apply Rb | apply ae.af | apply ae.jB | apply ae.ic | apply ae.bN | exact ae.bK _⟩
abbrev UY(x0:aj):=(d34 x0).1
theorem aHx(x0:aj):ae (UY x0) (vV x0):=(d34 x0).2
def d126(x0:aj)(x1:(List Bool)):{c // ae c (Ch x0 x1)}:=⟨_,by
 unfold Ch
 with_reducible repeat' first | intro _ | apply ae.fZ | apply ae.af | apply ae.bN | exact ae.bK _⟩
def d36(x0:aj):{c // ae c (Il x0)}:=⟨_,by
 unfold Il
 with_reducible repeat' first | intro _ | apply zD | apply (d121 _).2 | apply (d122 _ _ _ _).2 | apply Mr | apply (d124 _).2 | apply (d126 _ _).2 | apply Rb | apply ae.af | apply ae.jB | apply ae.ic | apply ae.bN | exact ae.bK _⟩
abbrev c36(x0:aj):=(d36 x0).1
theorem aHy(x0:aj):ae (c36 x0) (Il x0):=(d36 x0).2
def UN (x1:((List Bool)→((List (List Bool)) ⊕ Empty)→Option (((List (List Bool)) ⊕ Empty) × Bool))→((List (List Bool)) ⊕ Empty)→Option ((List (List Bool)) ⊕ Empty)):Option (List (List Bool)) :=
 (x1 (ic (λ (tI:(List Bool)) (kV:(List (List Bool)))=>(((ij kV [tI]).bind λ gC =>
 some (.inl gC)):Option ((List (List Bool)) ⊕ Empty)))) (.inl [])).bind (Sum.elim (λ (kV:(List (List Bool))) =>
 some kV)
  (λ (o:Empty)=>o.elim))
theorem aG7{x1 gK:((List Bool)→((List (List Bool)) ⊕ Empty)→Option (((List (List Bool)) ⊕ Empty) × Bool))→((List (List Bool)) ⊕ Empty)→Option ((List (List Bool)) ⊕ Empty)}(iz:∀ ys lz,(∀ y s,ae (ys y s) (lz y s))→∀ s,ae (x1 ys s) (gK lz s)):ae (UN x1) (Ic gK):=by
 unfold UN Ic
 with_reducible repeat' first | exact ae.bK _ | refine ae.jB (λ _=>?_) (λ _=>?_) _ | refine ae.ic (λ _ _=>?_) _ _ | refine iz _ _ (λ _ _=>?_) _ | exact iz | exact hy _ _ | refine ae.bN ?_ λ _=>?_
def aeg (x0:((List Bool)→((List (List Bool)) ⊕ Empty)→Option (((List (List Bool)) ⊕ Empty) × Bool))→((List (List Bool)) ⊕ Empty)→Option ((List (List Bool)) ⊕ Empty)):Option (List (List Bool)) :=
 (UN x0).bind λ di =>
 some di
theorem aGY{x0 Dc:((List Bool)→((List (List Bool)) ⊕ Empty)→Option (((List (List Bool)) ⊕ Empty) × Bool))→((List (List Bool)) ⊕ Empty)→Option ((List (List Bool)) ⊕ Empty)}(sJ:∀ ys lz,(∀ y s,ae (ys y s) (lz y s))→∀ s,ae (x0 ys s) (Dc lz s)):ae (aeg x0) (E5 Dc):=by
 unfold aeg E5
 with_reducible repeat' first | exact ae.bK _ | refine aG7 (λ _ _ hy _=>?_) | refine sJ _ _ (λ _ _=>?_) _ | exact sJ | exact hy _ _ | refine ae.bN ?_ λ _=>?_
def aeh(x0:((List Bool)→Option Int))(x1:(List (List Bool))):Option (List Bool) :=
 (idx x1 0).bind λ mx =>
 (lH x1 1 (x1.length:Int)).bind λ wX =>
 (pO (O:=(List Bool)) (λ (nb:(Int × (List Bool))) =>
 af (decide (nb.1 < (wX.length:Int)))
 ((idx wX nb.1).bind λ AQ =>
 (x0 AQ).bind λ wY =>
 (x0 nb.2).bind λ np =>
 af (decide (wY < np))
 (some (.inl (i64 (nb.1+1),AQ)))
 (some (.inl (i64 (nb.1+1),nb.2))))
 (some (.inr nb.2))) (0,mx)).bind (λ (FP:(List Bool)) =>
 some FP)
theorem aGZ{x0 Dc:((List Bool)→Option Int)}(sJ:∀ y,ae (x0 y) (Dc y))(x1:(List (List Bool))):ae (aeh x0 x1) (E6 Dc x1):=by
 unfold aeh E6
 with_reducible repeat' first | exact ae.bK _ | refine ae.fZ λ _=>?_ | refine ae.af ?_ ?_ | exact sJ _ | exact hy _ _ | refine ae.bN ?_ λ _=>?_
def d129(x0:aj)(x1:(List Bool)):{c // ae c (zI x0 x1)}:=⟨_,by
 unfold zI
 with_reducible repeat' first | intro _ | apply ae.fZ | apply ae.af | apply ae.bN | exact ae.bK _⟩
def d39(x0:aj):{c // ae c (yg x0)}:=⟨_,by
 unfold yg
 with_reducible repeat' first | intro _ | apply zD | apply (d121 _).2 | apply (d122 _ _ _ _).2 | apply Mr | apply (d124 _).2 | apply (d126 _ _).2 | apply aGY | apply aGZ | apply (d129 _ _).2 | apply Rb | apply ae.af | apply ae.bN | exact ae.bK _ | exact ‹∀ _ _,ae _ _› _ _⟩
abbrev c39(x0:aj):=(d39 x0).1
theorem aHA(x0:aj):ae (c39 x0) (yg x0):=(d39 x0).2
def d133(x0:Int):{c // ae c (zL x0)}:=⟨_,by
 unfold zL
 with_reducible repeat' first | intro _ | apply ae.fZ | apply ae.af | apply ae.bN | exact ae.bK _⟩
abbrev UL(x0:Int):=(d133 x0).1
theorem ahz(x0:Int):ae (UL x0) (zL x0):=(d133 x0).2
def d211(x0:Int)(x1:Int):{c // ae c (MK x0 x1)}:=⟨_,by
 unfold MK
 with_reducible repeat' first | intro _ | apply (d235 _).2 | apply ae.af | apply ae.bN | exact ae.bK _⟩
def d178(x0:(List Int))(x1:(List Int)):{c // ae c (E9 x0 x1)}:=⟨_,by
 unfold E9
 with_reducible repeat' first | intro _ | apply (d211 _ _).2 | apply ae.fZ | apply ae.af | apply ae.jB | apply ae.bN | exact ae.bK _⟩
abbrev ON(x0:(List Int))(x1:(List Int)):=(d178 x0 x1).1
theorem ahC(x0:(List Int))(x1:(List Int)):ae (ON x0 x1) (E9 x0 x1):=(d178 x0 x1).2
def aei(x0:Int)(x1:(Int→Option Bool)):Option ((List Int) × Bool) :=
 (wF .i64 1 x0).bind λ oy =>
 (pO (O:=((List Int) × Bool)) (λ (fX:((List Int) × Bool × Int)) =>
 af (decide (fX.2.2 < oy))
 ((UL fX.2.2).bind λ kq =>
 (((af (!fX.2.1)
 ((x1 fX.2.2).bind λ pf =>
 some pf)
 (af (decide ((kq.length:Int) < (fX.1.length:Int)))
 ((x1 fX.2.2).bind λ wR =>
 some wR)
 (af ((kq.length:Int) == (fX.1.length:Int))
 ((ON kq fX.1).bind λ yy =>
 af (decide (yy < 0))
 ((x1 fX.2.2).bind λ Tm =>
 some Tm)
 (some false))
 (some false)))):Option Bool)).bind (λ (IB:Bool) =>
 af IB
 (some (.inl (kq,true,i64 (fX.2.2+1))))
 (some (.inl (fX.1,fX.2.1,i64 (fX.2.2+1))))))
 (some (.inr (fX.1,fX.2.1)))) ([],false,0)).bind (λ (Ad:((List Int) × Bool)) =>
 some (Ad.1,Ad.2))
theorem aat(x0:Int){x1 gK:(Int→Option Bool)}(iz:∀ y,ae (x1 y) (gK y)):ae (aei x0 x1) (zJ x0 gK):=by
 unfold aei zJ
 with_reducible repeat' first | exact ae.bK _ | refine ae.fZ λ _=>?_ | refine ae.af ?_ ?_ | exact ahz _ | exact ahC _ _ | exact iz _ | exact hy _ _ | refine ae.bN ?_ λ _=>?_
def d134(x0:cD)(x1:(List Bool))(x2:(List Bool))(x3:Int):{c // ae c (zM x0 x1 x2 x3)}:=⟨_,by
 unfold zM
 with_reducible repeat' first | intro _ | apply (d122 _ _ _ _).2 | apply Rb | apply ae.jB | apply ae.ic | apply ae.bN | exact ae.bK _⟩
def d131(x0:Int)(x1:cD)(x2:(List Bool))(x3:(List Bool)):{c // ae c (E7 x0 x1 x2 x3)}:=⟨_,by
 unfold E7
 with_reducible repeat' first | intro _ | apply (d132 _).2 | apply (d133 _).2 | apply (d134 _ _ _ _).2 | apply ae.af | apply ae.bN | exact ae.bK _⟩
def d41(x0:aj):{c // ae c (yh x0)}:=⟨_,by
 unfold yh
 with_reducible repeat' first | intro _ | apply zD | apply (d121 _).2 | apply Mr | apply (d124 _).2 | apply aat | apply (d131 _ _ _ _).2 | apply ae.af | apply ae.bN | exact ae.bK _⟩
abbrev c41(x0:aj):=(d41 x0).1
theorem aHB(x0:aj):ae (c41 x0) (yh x0):=(d41 x0).2
def d138(x0:Int)(x1:cD)(x2:(List Bool))(x3:(List Bool)):{c // ae c (E8 x0 x1 x2 x3)}:=⟨_,by
 unfold E8
 with_reducible repeat' first | intro _ | apply (d134 _ _ _ _).2 | apply ae.bN | exact ae.bK _⟩
def d43(x0:aj):{c // ae c (vW x0)}:=⟨_,by
 unfold vW
 with_reducible repeat' first | intro _ | apply zD | apply (d121 _).2 | apply Mr | apply (d124 _).2 | apply aat | apply (d138 _ _ _ _).2 | apply ae.af | apply ae.bN | exact ae.bK _⟩
abbrev U0(x0:aj):=(d43 x0).1
theorem aHC(x0:aj):ae (U0 x0) (vW x0):=(d43 x0).2
def d46(x0:aj)(x1:dp):{c // ae c (yi x0 x1)}:=⟨_,by
 unfold yi
 with_reducible repeat' first | intro _ | apply ae.bN | exact ae.bK _⟩
abbrev U1(x0:aj)(x1:dp):=(d46 x0 x1).1
theorem aHD(x0:aj)(x1:dp):ae (U1 x0 x1) (yi x0 x1):=(d46 x0 x1).2
def d48(x0:aj)(x1:Int):{c // ae c (Fw x0 x1)}:=⟨_,by
 unfold Fw
 with_reducible repeat' first | intro _ | apply (d82 _).2 | apply (d104 _ _).2 | apply (d139 _ _ _).2 | apply ae.af | apply ae.bN | exact ae.bK _⟩
abbrev U2(x0:aj)(x1:Int):=(d48 x0 x1).1
theorem aHE(x0:aj)(x1:Int):ae (U2 x0 x1) (Fw x0 x1):=(d48 x0 x1).2
def d49(x0:Int)(x1:Int):{c // ae c (Fy x0 x1)}:=⟨_,by
 unfold Fy
 with_reducible repeat' first | intro _ | apply ae.bN | exact ae.bK _⟩
abbrev U3(x0:Int)(x1:Int):=(d49 x0 x1).1
theorem ahE(x0:Int)(x1:Int):ae (U3 x0 x1) (Fy x0 x1):=(d49 x0 x1).2
def d151(x0:(List dp)):{c // ae c (zN x0)}:=⟨_,by
 unfold zN
 with_reducible repeat' first | intro _ | apply ae.bN | exact ae.bK _⟩
def d179(x0:(List gm)):{c // ae c (Fa x0)}:=⟨_,by
 unfold Fa
 with_reducible repeat' first | intro _ | apply ae.bN | exact ae.bK _⟩
def d180(x0:(List Reach)):{c // ae c (Fb x0)}:=⟨_,by
 unfold Fb
 with_reducible repeat' first | intro _ | apply ae.bN | exact ae.bK _⟩
def d181(x0:(List fG)):{c // ae c (Fc x0)}:=⟨_,by
 unfold Fc
 with_reducible repeat' first | intro _ | apply ae.bN | exact ae.bK _⟩
def d182(x0:(List mB)):{c // ae c (Fe x0)}:=⟨_,by
 unfold Fe
 with_reducible repeat' first | intro _ | apply ae.bN | exact ae.bK _⟩
def d140(x0:aj):{c // ae c (Ci x0)}:=⟨_,by
 unfold Ci
 with_reducible repeat' first | intro _ | apply (d151 _).2 | apply (d179 _).2 | apply (d180 _).2 | apply (d181 _).2 | apply (d182 _).2 | apply ae.bN | exact ae.bK _⟩
def d50(x0:aj)(x1:Int)(x2:Int):{c // ae c (Im x0 x1 x2)}:=⟨_,by
 unfold Im
 with_reducible repeat' first | intro _ | apply (d82 _).2 | apply (d104 _ _).2 | apply (d139 _ _ _).2 | apply (d140 _).2 | apply ae.fZ | apply ae.af | apply ae.bN | exact ae.bK _⟩
abbrev c50(x0:aj)(x1:Int)(x2:Int):=(d50 x0 x1 x2).1
theorem aHF(x0:aj)(x1:Int)(x2:Int):ae (c50 x0 x1 x2) (Im x0 x1 x2):=(d50 x0 x1 x2).2
def d144(x0:aj)(x1:Int):{c // ae c (MD x0 x1)}:=⟨_,by
 unfold MD
 with_reducible repeat' first | intro _ | apply (d133 _).2 | apply ae.fZ | apply ae.af | apply ae.bN | exact ae.bK _⟩
def d145(x0:aj):{c // ae c (ME x0)}:=⟨_,by
 unfold ME
 with_reducible repeat' first | intro _ | apply Rc | apply ae.jB | apply ae.ic | apply ae.bN | exact ae.bK _⟩
def d143(x0:Int)(x1:aj):{c // ae c (H7 x0 x1)}:=⟨_,by
 unfold H7
 with_reducible repeat' first | intro _ | apply (d144 _ _).2 | apply (d145 _).2 | apply ae.bN | exact ae.bK _⟩
def d54(x0:aj):{c // ae c (Ip x0)}:=⟨_,by
 unfold Ip
 with_reducible repeat' first | intro _ | apply (d82 _).2 | apply aat | apply (d143 _ _).2 | apply ae.af | apply ae.bN | exact ae.bK _⟩
abbrev c54(x0:aj):=(d54 x0).1
theorem aHG(x0:aj):ae (c54 x0) (Ip x0):=(d54 x0).2
def d146(x0:bz)(x1:Int)(x2:Int):{c // ae c (H8 x0 x1 x2)}:=⟨_,by
 unfold H8
 with_reducible repeat' first | intro _ | apply ae.bN | exact ae.bK _⟩
def d59(x0:aj):{c // ae c (Iq x0)}:=⟨_,by
 unfold Iq
 with_reducible repeat' first | intro _ | apply zD | apply Ra | apply (d121 _).2 | apply (d146 _ _ _).2 | apply ae.fZ | apply ae.af | apply ae.bN | exact ae.bK _⟩
abbrev c59(x0:aj):=(d59 x0).1
theorem aHI(x0:aj):ae (c59 x0) (Iq x0):=(d59 x0).2
def d66(x0:aj)(x1:Int)(x2:Int):{c // ae c (Ir x0 x1 x2)}:=⟨_,by
 unfold Ir
 with_reducible repeat' first | intro _ | apply (d82 _).2 | apply (d107 _ _).2 | apply (d149 _ _ _).2 | apply ae.af | apply ae.bN | exact ae.bK _⟩
abbrev c66(x0:aj)(x1:Int)(x2:Int):=(d66 x0 x1 x2).1
theorem aHJ(x0:aj)(x1:Int)(x2:Int):ae (c66 x0 x1 x2) (Ir x0 x1 x2):=(d66 x0 x1 x2).2
def d159(x0:Int):{c // ae c (H9 x0)}:=⟨_,by
 unfold H9
 with_reducible repeat' first | intro _ | apply ae.bN | exact ae.bK _⟩
abbrev aek(x0:Int):=(d159 x0).1
theorem aG1(x0:Int):ae (aek x0) (H9 x0):=(d159 x0).2
def U5  : Option aj :=
 (U3 9 11).bind λ cy =>
 (aek 15).bind λ yD =>
 some (⟨10,[(⟨10,40⟩:gm),(⟨20,20⟩:gm)],[cy,yD],[(⟨⟨#[97,110,110]⟩,20⟩:fG),(⟨⟨#[98,111]⟩,12⟩:fG)],[(⟨0,0,20,2⟩:mB),(⟨1,30,15,1⟩:mB),(⟨0,60,30,1⟩:mB)],[]⟩:aj)
theorem aHK  : ae (U5 ) (MX ):=by
 unfold U5 MX
 with_reducible repeat' first | exact ae.bK _ | exact ahE _ _ | exact aG1 _ | exact hy _ _ | refine ae.bN ?_ λ _=>?_
def d102(x0:(List Int))(x1:(List Int)):{c // ae c (E1 x0 x1)}:=⟨_,by
 unfold E1
 with_reducible repeat' first | intro _ | apply ae.fZ | apply ae.af | apply ae.jB | apply ae.bN | exact ae.bK _⟩
def d27(x0:(List Int))(x1:(List Int)):{c // ae c (Fq x0 x1)}:=⟨_,by
 unfold Fq
 with_reducible repeat' first | intro _ | apply (d102 _ _).2 | apply ae.af | apply ae.bN | exact ae.bK _⟩
abbrev c27(x0:(List Int))(x1:(List Int)):=(d27 x0 x1).1
theorem aHo(x0:(List Int))(x1:(List Int)):ae (c27 x0 x1) (Fq x0 x1):=(d27 x0 x1).2
def d89(x0:(List Int))(x1:(List Int)):{c // ae c (zS x0 x1)}:=⟨_,by
 unfold zS
 with_reducible repeat' first | intro _ | apply (d27 _ _).2 | apply ae.bN | exact ae.bK _⟩
abbrev Kh(x0:(List Int))(x1:(List Int)):=(d89 x0 x1).1
theorem aHL(x0:(List Int))(x1:(List Int)):ae (Kh x0 x1) (zS x0 x1):=(d89 x0 x1).2
def UZ(x0:(List (List Int)))(x1:(List (List Int))):Option Bool :=
 af ((x0.length:Int) != (x1.length:Int))
 (some false)
 ((pO (O:=(Unit ⊕ Bool)) (λ (gq:Int) =>
 af (decide (gq < (x0.length:Int)))
 ((idx x0 gq).bind λ AP =>
 (idx x1 gq).bind λ p6 =>
 (c27 AP p6).bind λ p7 =>
 af (!p7)
 (some (.inr (.inr false)))
 (some (.inl (i64 (gq+1)))))
 (some (.inr (.inl ())))) 0).bind (Sum.elim (λ (_:Unit) =>
 some true)
  (λ q=>some q)))
theorem aHz(x0:(List (List Int)))(x1:(List (List Int))):ae (UZ x0 x1) (MS x0 x1):=by
 unfold UZ MS
 with_reducible repeat' first | exact ae.bK _ | refine ae.fZ λ _=>?_ | refine ae.af ?_ ?_ | refine ae.jB (λ _=>?_) (λ _=>?_) _ | exact aHo _ _ | exact hy _ _ | refine ae.bN ?_ λ _=>?_
def OR(x0:(List (List Int)))(x1:(List (List Int))):Option Bool :=
 (UZ x0 x1).bind λ di =>
 some di
theorem aHM(x0:(List (List Int)))(x1:(List (List Int))):ae (OR x0 x1) (Is x0 x1):=by
 unfold OR Is
 with_reducible repeat' first | exact ae.bK _ | exact aHz _ _ | exact hy _ _ | refine ae.bN ?_ λ _=>?_
def c22  : Option Bool :=
 (U5).bind λ fx =>
 (U1 fx (⟨0,10,true⟩:dp)).bind λ jw =>
 (U2 fx 10).bind λ Gq =>
 (U2 fx 21).bind λ Gr =>
 (c23 fx).bind λ Gs =>
 (c25 jw 0).bind λ Gt =>
 (c28 fx 0).bind λ rT =>
 (OP fx 1 0).bind λ yA =>
 (OP fx 1 1).bind λ Dh =>
 (OP fx 1 2).bind λ AM =>
 (c66 fx 0 1).bind λ Di =>
 (OQ fx ([[0,1],[0],[1]])).bind λ Gu =>
 (OQ jw ([[0,1],[0],[1]])).bind λ wS =>
 (((af (Gq.2 != 0)
 (some true)
 (af (Gr.2 != 0)
 (some true)
 (af (Gs.2 != 0)
 (some true)
 (af (Gt.2 != 0)
 (some true)
 (af (rT.2 != 0)
 (some true)
 (af (yA.2 != 0)
 (some true)
 (af (Dh.2 != 0)
 (some true)
 (af (AM.2 != 0)
 (some true)
 (af (Di.2 != 0)
 (some true)
 (af (Gu.2 != 0)
 (some true)
 (some (wS.2 != 0)))))))))))):Option Bool)).bind (λ (IG:Bool) =>
 af IG
 (some false)
 ((((af (Gq.1 != 40)
 (some true)
 (af (Gr.1 != 0)
 (some true)
 (af (Gs.1 != 3)
 (some true)
 ((Kh Gt.1 [9,10]).bind λ Tv =>
 af (!Tv)
 (some true)
 ((U3 20 40).bind λ NI =>
 af (!(KA rT.1 NI == true))
 (some true)
 (af (yA.1 != 1)
 (some true)
 (af (Dh.1 != 2)
 (some true)
 (af (AM.1 != 0)
 (some true)
 (af (!Di.1)
 (some true)
 (af (Gu.1 != 0)
 (some true)
 (some (wS.1 != 1)))))))))))):Option Bool)).bind (λ (IH:Bool) =>
 af IH
 (some false)
 ((UY fx).bind λ Gy =>
 (UY jw).bind λ Gz =>
 (c36 jw).bind λ yB =>
 (c39 jw).bind λ tH =>
 (c41 jw).bind λ yC =>
 (U0 fx).bind λ GA =>
 (c59 fx).bind λ pZ =>
 (c50 jw 12 15).bind λ qW =>
 (U0 qW.1).bind λ Jq =>
 (U1 jw (⟨0,8,true⟩:dp)).bind λ NJ =>
 (c54 NJ).bind λ GB =>
 (((af (Gy.2 != 0)
 (some true)
 (af (Gz.2 != 0)
 (some true)
 (af (yB.2.2 != 0)
 (some true)
 (af (tH.2.2.2 != 0)
 (some true)
 (af (yC.2.2 != 0)
 (some true)
 (af (GA.2 != 0)
 (some true)
 (af (pZ.2.2.2 != 0)
 (some true)
 (af (qW.2 != 0)
 (some true)
 (af (Jq.2 != 0)
 (some true)
 (some (GB.2 != 0))))))))))):Option Bool)).bind (λ (II:Bool) =>
 af II
 (some false)
 ((((af (Gy.1 != 0)
 (some true)
 (af (Gz.1 != 2)
 (some true)
 (af (!yB.2.1)
 (some true)
 ((OR yB.1 ([[0,1],[0],[0]])).bind λ TA =>
 af (!TA)
 (some true)
 (af (!tH.2.2.1)
 (some true)
 (af (tH.2.1 != 50)
 (some true)
 ((OR tH.1 ([[0,1],[0],[1]])).bind λ Dk =>
 af (!Dk)
 (some true)
 (af (!yC.2.1)
 (some true)
 ((Kh yC.1 [0,1]).bind λ AN =>
 af (!AN)
 (some true)
 ((Kh GA.1 [2]).bind λ TC =>
 some (!TC))))))))))):Option Bool)).bind (λ (IJ:Bool) =>
 af IJ
 (some false)
 (af (pZ.1 == 0)
 (af (pZ.2.1 == 9)
 (af (pZ.2.2.1 == 2)
 (af ((Jq.1.length:Int) == 0)
 ((Kh GB.1 [1]).bind λ NM =>
 af NM
 (af ((qW.1.Rows.length:Int) == 3)
 ((idx qW.1.Rows 1).bind λ yF =>
 af (DO yF (⟨12,15⟩:gm) == true)
 ((idx qW.1.Rows 2).bind λ Jt =>
 some (DO Jt (⟨20,15⟩:gm) == true))
 (some false))
 (some false))
 (some false))
 (some false))
 (some false))
 (some false))
 (some false)))))))))
theorem aHg  : ae (c22 ) (Cs ):=by
 unfold c22 Cs
 with_reducible repeat' first | exact ae.bK _ | refine ae.af ?_ ?_ | exact aHl _ | exact aHn _ _ | exact aHu _ _ | exact aHv _ _ _ | exact aHw _ _ | exact aHx _ | exact aHy _ | exact aHA _ | exact aHB _ | exact aHC _ | exact aHD _ _ | exact aHE _ _ | exact ahE _ _ | exact aHF _ _ _ | exact aHG _ | exact aHI _ | exact aHJ _ _ _ | exact aHK | exact aHL _ _ | exact aHM _ _ | exact hy _ _ | refine ae.bN ?_ λ _=>?_
def d58(x0:(List Int))(x1:(List Int)):{c // ae c (Rw x0 x1)}:=⟨_,by
 unfold Rw
 with_reducible repeat' first | intro _ | apply (d102 _ _).2 | apply ae.af | apply ae.bN | exact ae.bK _⟩
abbrev c58(x0:(List Int))(x1:(List Int)):=(d58 x0 x1).1
theorem aHH(x0:(List Int))(x1:(List Int)):ae (c58 x0 x1) (Rw x0 x1):=(d58 x0 x1).2
def c57(x0:(List Int))(x1:Int):Option (List Int) :=
 (pO (O:=(List Int)) (λ (C1:((List Int) × Int)) =>
 af (decide (C1.2 < (x0.length:Int)))
 (af (C1.2 != x1)
 ((idx x0 C1.2).bind λ nQ =>
 (ij C1.1 [nQ]).bind λ Jz =>
 some (.inl (Jz,i64 (C1.2+1))))
 (some (.inl (C1.1,i64 (C1.2+1)))))
 (some (.inr C1.1))) ([],0)).bind (λ (aLv:(List Int)) =>
 some aLv)
theorem aMp:Cs=some true:=aHg _ (by decide +kernel)
end
end Go.Proofs.YtihapemckcdicaaGreatDoor
