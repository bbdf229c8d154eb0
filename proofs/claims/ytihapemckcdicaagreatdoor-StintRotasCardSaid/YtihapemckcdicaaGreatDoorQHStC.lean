/- The chapter's examples, by reckoning. Conditions: none. -/
import Derived.Test.YtihapemckcdicaaGreatDoorQHStM
import Derived.Test.YtihapemckcdicaaGreatDoorQHLgC
namespace Go.Proofs.YtihapemckcdicaaGreatDoor
open Go.Lg Go.Proofs
noncomputable section
set_option maxRecDepth 100000
set_option maxHeartbeats 4000000
def d139(x0:Int)(x1:Int)(x2:Int):{c // ae c (kL x0 x1 x2)}:=⟨_,by
 unfold kL
 with_reducible repeat' first | intro _ | apply ae.af | apply ae.bZ | exact ae.bR _⟩
def aoi(x0:ByteArray):Option Bool:=L7 x0
theorem aDJ(x0:ByteArray):ae (aoi x0) (L7 x0):=ae.bR _
def N7(x0:cy)(x1:(bt→Option Bool)):Option Int :=
 (qg (O:=Int) (λ (fL:(Int × Int)) =>
 af (decide (fL.2 < (x0.fq.length:Int)))
 ((idx x0.fq fL.2).bind λ oQ =>
 (x1 oQ).bind λ Ao =>
 af Ao
 (some (.inl (i64 (fL.1+1),i64 (fL.2+1))))
 (some (.inl (fL.1,i64 (fL.2+1)))))
 (some (.inr fL.1))) (0,0)).bind (λ (rk:Int) =>
 some rk)
theorem Qi(x0:cy){x1 gB:(bt→Option Bool)}(iy:∀ y,ae (x1 y) (gB y)):ae (N7 x0 x1) (vB x0 gB):=by
 unfold N7 vB
 with_reducible repeat' first | exact ae.bR _ | refine ae.gK λ _=>?_ | refine ae.af ?_ ?_ | exact iy _ | exact hy _ _ | refine ae.bZ ?_ λ _=>?_
def d104(x0:aj)(x1:Int):{c // ae c (xH x0 x1)}:=⟨_,by
 unfold xH
 with_reducible repeat' first | intro _ | apply ae.gK | apply ae.af | apply ae.kE | apply ae.bZ | exact ae.bR _⟩
def d111(x0:aj)(x1:bt)(x2:Int)(x3:Int):{c // ae c (zb x0 x1 x2 x3)}:=⟨_,by
 unfold zb
 with_reducible repeat' first | intro _ | apply (d104 _ _).2 | apply ae.af | apply ae.bZ | exact ae.bR _⟩
def d172(x0:bt)(x1:cy)(x2:Int)(x3:Int):{c // ae c (zk x0 x1 x2 x3)}:=⟨_,by
 unfold zk
 with_reducible repeat' first | intro _ | apply (d111 _ _ _ _).2 | apply ae.bZ | exact ae.bR _⟩
abbrev aec(x0:bt)(x1:cy)(x2:Int)(x3:Int):=(d172 x0 x1 x2 x3).1
theorem aDA(x0:bt)(x1:cy)(x2:Int)(x3:Int):ae (aec x0 x1 x2 x3) (zk x0 x1 x2 x3):=(d172 x0 x1 x2 x3).2
def Z4(x0:cy)(i k:Nat):Option Bool:=(N7 x0 (λ y=>aec y x0 (k:Int) (i:Int))).bind λ n=>some (n == (x0.fq.length:Int))
theorem aD6(x0:cy)(i k:Nat):ae (Z4 x0 i k) (q9 x0 i k):=by
 unfold Z4 q9
 with_reducible repeat' first | exact ae.bR _ | refine Qi _ (λ _=>?_) | exact aDA _ _ _ _ | refine ae.bZ ?_ λ _=>?_
def ad2(x0:cy):Option (List Bool) :=
 if (0 < x0.book.ao.length∧x0.book.ao.length≤4)∧(0 < x0.book.an.length∧x0.book.an.length≤4) then
  (((List.range 16).mapM λ (p:Nat)=>if p / 4 < x0.book.ao.length∧p % 4 < x0.book.an.length then Z4 x0 (p / 4) (p % 4) else some false):Option (List Bool))
 else none
theorem Lz(x0:cy):ae (ad2 x0) (tH x0):=by
 unfold ad2 tH
 split
 ·refine ae.mapM (λ p=>?_) _
  split
  ·exact aD6 _ _ _
  ·exact ae.bR _
 ·exact ae.none
def d265(x0:aj):{c // ae c (G2 x0)}:=⟨_,by
 unfold G2
 with_reducible repeat' first | intro _ | apply (d139 _ _ _).2 | apply ae.af | apply ae.bZ | exact ae.bR _⟩
def d266(x0:aj):{c // ae c (Ee x0)}:=⟨_,by
 unfold Ee
 with_reducible repeat' first | intro _ | apply (d139 _ _ _).2 | apply ae.gK | apply ae.af | apply ae.kE | apply ae.bZ | exact ae.bR _⟩
def Uj(x0:(List Reach))(x1:(Reach→Option Bool)):Option Int :=
 (qg (O:=(Unit ⊕ Int)) (λ (dO:Int) =>
 af (decide (dO < (x0.length:Int)))
 ((idx x0 dO).bind λ n6 =>
 (x1 n6).bind λ mV =>
 af mV
 (some (.inr (.inr dO)))
 (some (.inl (i64 (dO+1)))))
 (some (.inr (.inl ())))) 0).bind (Sum.elim (λ (_:Unit) =>
 some (-1))
  (λ q=>some q))
theorem aDL(x0:(List Reach)){x1 gB:(Reach→Option Bool)}(iy:∀ y,ae (x1 y) (gB y)):ae (Uj x0 x1) (L8 x0 gB):=by
 unfold Uj L8
 with_reducible repeat' first | exact ae.bR _ | refine ae.gK λ _=>?_ | refine ae.af ?_ ?_ | refine ae.kE (λ _=>?_) (λ _=>?_) _ | exact iy _ | exact hy _ _ | refine ae.bZ ?_ λ _=>?_
def aee(x0:(List Reach))(x1:(Reach→Option Bool)):Option Bool :=
 (Uj x0 x1).bind λ df =>
 some (decide (df ≥ 0))
theorem aDI(x0:(List Reach)){x1 gB:(Reach→Option Bool)}(iy:∀ y,ae (x1 y) (gB y)):ae (aee x0 x1) (G3 x0 gB):=by
 unfold aee G3
 with_reducible repeat' first | exact ae.bR _ | refine aDL _ (λ _=>?_) | exact iy _ | exact hy _ _ | refine ae.bZ ?_ λ _=>?_
def d273(x0:Reach)(x1:Int)(x2:Int)(x3:Int):{c // ae c (Ek x0 x1 x2 x3)}:=⟨_,by
 unfold Ek
 with_reducible repeat' first | intro _ | apply ae.af | apply ae.bZ | exact ae.bR _⟩
def d272(x0:Reach):{c // ae c (Ej x0)}:=⟨_,by
 unfold Ej
 with_reducible repeat' first | intro _ | apply (d273 _ _ _ _).2 | apply ae.bZ | exact ae.bR _⟩
def d267(x0:aj):{c // ae c (Ef x0)}:=⟨_,by
 unfold Ef
 with_reducible repeat' first | intro _ | apply (d139 _ _ _).2 | apply aDI | apply (d272 _).2 | apply ae.af | apply ae.bZ | exact ae.bR _⟩
def Uk(x0:(List ft))(x1:(ft→Option Bool)):Option Int :=
 (qg (O:=(Unit ⊕ Int)) (λ (dO:Int) =>
 af (decide (dO < (x0.length:Int)))
 ((idx x0 dO).bind λ n6 =>
 (x1 n6).bind λ mV =>
 af mV
 (some (.inr (.inr dO)))
 (some (.inl (i64 (dO+1)))))
 (some (.inr (.inl ())))) 0).bind (Sum.elim (λ (_:Unit) =>
 some (-1))
  (λ q=>some q))
theorem aDM(x0:(List ft)){x1 gB:(ft→Option Bool)}(iy:∀ y,ae (x1 y) (gB y)):ae (Uk x0 x1) (L9 x0 gB):=by
 unfold Uk L9
 with_reducible repeat' first | exact ae.bR _ | refine ae.gK λ _=>?_ | refine ae.af ?_ ?_ | refine ae.kE (λ _=>?_) (λ _=>?_) _ | exact iy _ | exact hy _ _ | refine ae.bZ ?_ λ _=>?_
def aef(x0:(List ft))(x1:(ft→Option Bool)):Option Bool :=
 (Uk x0 x1).bind λ df =>
 some (decide (df ≥ 0))
theorem aDK(x0:(List ft)){x1 gB:(ft→Option Bool)}(iy:∀ y,ae (x1 y) (gB y)):ae (aef x0 x1) (G4 x0 gB):=by
 unfold aef G4
 with_reducible repeat' first | exact ae.bR _ | refine aDM _ (λ _=>?_) | exact iy _ | exact hy _ _ | refine ae.bZ ?_ λ _=>?_
def d276(x0:ft)(x1:ft):{c // ae c (El x0 x1)}:=⟨_,by
 unfold El
 with_reducible repeat' first | intro _ | apply ae.bZ | exact ae.bR _⟩
def d268(x0:aj):{c // ae c (Eg x0)}:=⟨_,by
 unfold Eg
 with_reducible repeat' first | intro _ | apply (d139 _ _ _).2 | apply aDJ | apply aDK | apply (d276 _ _).2 | apply ae.gK | apply ae.af | apply ae.kE | apply ae.bZ | exact ae.bR _⟩
def d107(x0:Int)(x1:Int):{c // ae c (qh x0 x1)}:=⟨_,by
 unfold qh
 with_reducible repeat' first | intro _ | apply (d139 _ _ _).2 | apply ae.af | apply ae.bZ | exact ae.bR _⟩
abbrev adZ(x0:Int)(x1:Int):=(d107 x0 x1).1
theorem aDl(x0:Int)(x1:Int):ae (adZ x0 x1) (qh x0 x1):=(d107 x0 x1).2
def d269(x0:aj):{c // ae c (Eh x0)}:=⟨_,by
 unfold Eh
 with_reducible repeat' first | intro _ | apply (d107 _ _).2 | apply (d139 _ _ _).2 | apply ae.gK | apply ae.af | apply ae.kE | apply ae.bZ | exact ae.bR _⟩
def d270(x0:aj):{c // ae c (Ei x0)}:=⟨_,by
 unfold Ei
 with_reducible repeat' first | intro _ | apply (d107 _ _).2 | apply (d139 _ _ _).2 | apply ae.gK | apply ae.af | apply ae.kE | apply ae.bZ | exact ae.bR _⟩
def d82(x0:aj):{c // ae c (rh x0)}:=⟨_,by
 unfold rh
 with_reducible repeat' first | intro _ | apply (d265 _).2 | apply (d266 _).2 | apply (d267 _).2 | apply (d268 _).2 | apply (d269 _).2 | apply (d270 _).2 | apply ae.af | apply ae.bZ | exact ae.bR _⟩
abbrev Ut(x0:aj):=(d82 x0).1
theorem agY(x0:aj):ae (Ut x0) (rh x0):=(d82 x0).2
def Ue (x1:(bt→((List bt) ⊕ Empty)→Option (((List bt) ⊕ Empty) × Bool))→((List bt) ⊕ Empty)→Option ((List bt) ⊕ Empty)):Option (List bt) :=
 (x1 (gm (λ (sS:bt) (kC:(List bt))=>(((eV kC [sS]).bind λ jR =>
 some (.inl jR)):Option ((List bt) ⊕ Empty)))) (.inl [])).bind (Sum.elim (λ (kC:(List bt)) =>
 some kC)
  (λ (o:Empty)=>o.elim))
theorem aDw{x1 gB:(bt→((List bt) ⊕ Empty)→Option (((List bt) ⊕ Empty) × Bool))→((List bt) ⊕ Empty)→Option ((List bt) ⊕ Empty)}(iy:∀ ys kS,(∀ y s,ae (ys y s) (kS y s))→∀ s,ae (x1 ys s) (gB kS s)):ae (Ue x1) (GI gB):=by
 unfold Ue GI
 with_reducible repeat' first | exact ae.bR _ | refine ae.kE (λ _=>?_) (λ _=>?_) _ | refine ae.gm (λ _ _=>?_) _ _ | refine iy _ _ (λ _ _=>?_) _ | exact iy | exact hy _ _ | refine ae.bZ ?_ λ _=>?_
def Od (x0:(bt→((List bt) ⊕ Empty)→Option (((List bt) ⊕ Empty) × Bool))→((List bt) ⊕ Empty)→Option ((List bt) ⊕ Empty)):Option (List bt) :=
 (Ue x0).bind λ df =>
 some df
theorem aac{x0 B2:(bt→((List bt) ⊕ Empty)→Option (((List bt) ⊕ Empty) × Bool))→((List bt) ⊕ Empty)→Option ((List bt) ⊕ Empty)}(Dt:∀ ys kS,(∀ y s,ae (ys y s) (kS y s))→∀ s,ae (x0 ys s) (B2 kS s)):ae (Od x0) (zq B2):=by
 unfold Od zq
 with_reducible repeat' first | exact ae.bR _ | refine aDw (λ _ _ hy _=>?_) | refine Dt _ _ (λ _ _=>?_) _ | exact Dt | exact hy _ _ | refine ae.bZ ?_ λ _=>?_
def Ui(x0:(List eS))(x1:(eS→Option Bool)):Option Int :=
 (qg (O:=(Unit ⊕ Int)) (λ (dO:Int) =>
 af (decide (dO < (x0.length:Int)))
 ((idx x0 dO).bind λ n6 =>
 (x1 n6).bind λ mV =>
 af mV
 (some (.inr (.inr dO)))
 (some (.inl (i64 (dO+1)))))
 (some (.inr (.inl ())))) 0).bind (Sum.elim (λ (_:Unit) =>
 some (-1))
  (λ q=>some q))
theorem aDD(x0:(List eS)){x1 gB:(eS→Option Bool)}(iy:∀ y,ae (x1 y) (gB y)):ae (Ui x0 x1) (L3 x0 gB):=by
 unfold Ui L3
 with_reducible repeat' first | exact ae.bR _ | refine ae.gK λ _=>?_ | refine ae.af ?_ ?_ | refine ae.kE (λ _=>?_) (λ _=>?_) _ | exact iy _ | exact hy _ _ | refine ae.bZ ?_ λ _=>?_
def aed(x0:(List eS))(x1:(eS→Option Bool)):Option Bool :=
 (Ui x0 x1).bind λ df =>
 some (decide (df ≥ 0))
theorem aDC(x0:(List eS)){x1 gB:(eS→Option Bool)}(iy:∀ y,ae (x1 y) (gB y)):ae (aed x0 x1) (GV x0 gB):=by
 unfold aed GV
 with_reducible repeat' first | exact ae.bR _ | refine aDD _ (λ _=>?_) | exact iy _ | exact hy _ _ | refine ae.bZ ?_ λ _=>?_
def d187(x0:eS)(x1:bt):{c // ae c (Eb x0 x1)}:=⟨_,by
 unfold Eb
 with_reducible repeat' first | intro _ | apply ae.bZ | exact ae.bR _⟩
def d162(x0:aj)(x1:bt):{c // ae c (BB x0 x1)}:=⟨_,by
 unfold BB
 with_reducible repeat' first | intro _ | apply aDC | apply (d187 _ _).2 | apply ae.bZ | exact ae.bR _⟩
abbrev ad8(x0:aj)(x1:bt):=(d162 x0 x1).1
theorem aDx(x0:aj)(x1:bt):ae (ad8 x0 x1) (BB x0 x1):=(d162 x0 x1).2
def N8{S:Type}(ys:bt→S→Option (S × Bool)):Nat→Int→aj→bt→S→Option (S × (bt × Bool))
 | 0,_,_,_,_=>none
 | k+1,x0,x1,x2,s0 =>
  af (x0 == (x1.aR.length:Int))
  (((((ad8 x1 x2).bind λ eU =>
  af (!eU)
  (some (s0,true))
  ((ys x2 s0).bind λ ik =>
  some (ik.1,ik.2))):Option (S × Bool))).bind (λ (zx:(S × Bool)) =>
  some (zx.1,(x2,zx.2))))
  ((idx x1.aR x0).bind λ cb =>
  (qg (O:=((S × (List Int)) ⊕ (S × (bt × Bool)))) (λ (bJ:(S × Int × (List Int))) =>
  (idx x1.aR x0).bind λ fx =>
  af (decide (bJ.2.1≤fx.dt))
  ((idx bJ.2.2 x0).bind λ _ =>
  (N8 ys k (i64 (x0+1)) x1 (⟨bJ.2.2.set x0.toNat bJ.2.1⟩:bt) bJ.1).bind λ iQ =>
  af (!iQ.2.2)
  (some (.inr (.inr (iQ.1,(iQ.2.1,false)))))
  (some (.inl (iQ.1,i64 (bJ.2.1+1),iQ.2.1.deep))))
  (some (.inr (.inl (bJ.1,bJ.2.2))))) (s0,cb.cz,x2.deep)).bind (Sum.elim (λ (oD:(S × (List Int))) =>
  some (oD.1,((⟨oD.2⟩:bt),true)))
   (λ q=>some q)))
theorem agU{S:Type}{ys kS:bt→S→Option (S × Bool)}(h:∀ y s,ae (ys y s) (kS y s)):∀ k x0 x1 x2 s0,ae (N8 ys k x0 x1 x2 s0) (sj kS k x0 x1 x2 s0)
 | 0,_,_,_,_=>ae.none
 | k+1,x0,x1,x2,s0=>by
  have ih:=agU h k
  rw [N8,sj]
  with_reducible repeat' first | exact ae.bR _ | refine ae.gK λ _=>?_ | refine ae.af ?_ ?_ | refine ae.kE (λ _=>?_) (λ _=>?_) _ | exact aDx _ _ | exact h _ _ | exact ih _ _ _ _ | refine ae.bZ ?_ λ _=>?_
def Oe{S:Type}(ys:bt→S→Option (S × Bool))(x0:aj)(s0:S):Option S :=
 (N8 ys 9 0 x0 (⟨[0,0,0]⟩:bt) s0).bind λ pB =>
  some pB.1
theorem Qk{S:Type}{ys kS:bt→S→Option (S × Bool)}(h:∀ y s,ae (ys y s) (kS y s))(x0:aj)(s0:S):ae (Oe ys x0 s0) (qj kS x0 s0):=by
 unfold Oe qj
 with_reducible repeat' first | exact ae.bR _ | refine agU (λ _ _=>?_) _ _ _ _ _ | exact h _ _ | refine ae.bZ ?_ λ _=>?_
def d23(x0:aj):{c // ae c (G0 x0)}:=⟨_,by
 unfold G0
 with_reducible repeat' first | intro _ | apply (d82 _).2 | apply aac | apply Qk | apply ae.af | apply ae.bZ | exact ae.bR _ | exact ‹∀ _ _,ae _ _› _ _⟩
abbrev c23(x0:aj):=(d23 x0).1
theorem aDF(x0:aj):ae (c23 x0) (G0 x0):=(d23 x0).2
def c94(x0:aj)(x1:(aj→Option Int)):Option (cy × Int) :=
 (Ut x0).bind λ gq =>
 af (gq != 0)
 (some ((⟨⟨0,[],[],[],[],[]⟩,[]⟩:cy),gq))
 ((x1 x0).bind λ gd =>
 af (gd != 0)
 (some ((⟨⟨0,[],[],[],[],[]⟩,[]⟩:cy),gd))
 ((Od (λ y s=>Oe y x0 s)).bind λ jD =>
 af ((jD.length:Int) == 0)
 (some ((⟨⟨0,[],[],[],[],[]⟩,[]⟩:cy),9))
 (some ((⟨⟨x0.Rest,x0.Rows,x0.aR,x0.an,x0.ao,x0.bd⟩,jD⟩:cy),0))))
theorem y9(x0:aj){x1 gB:(aj→Option Int)}(iy:∀ y,ae (x1 y) (gB y)):ae (c94 x0 x1) (qk x0 gB):=by
 unfold c94 qk
 with_reducible repeat' first | exact ae.bR _ | refine ae.af ?_ ?_ | exact agY _ | refine aac (λ _ _ hy _=>?_) | refine Qk (λ _ _=>?_) _ _ | exact iy _ | exact hy _ _ | refine ae.bZ ?_ λ _=>?_
def d163(x0:aj)(x1:Int):{c // ae c (tI x0 x1)}:=⟨_,by
 unfold tI
 with_reducible repeat' first | intro _ | apply (d107 _ _).2 | apply ae.bZ | exact ae.bR _⟩
def d95(x0:Int):{c // ae c (Hb x0)}:=⟨_,by
 unfold Hb
 with_reducible repeat' first | intro _ | apply ae.bZ | exact ae.bR _⟩
def d235(x0:Int):{c // ae c (BC x0)}:=⟨_,by
 unfold BC
 with_reducible repeat' first | intro _ | apply ae.bZ | exact ae.bR _⟩
def d221(x0:Int)(x1:Int):{c // ae c (L5 x0 x1)}:=⟨_,by
 unfold L5
 with_reducible repeat' first | intro _ | apply (d235 _).2 | apply ae.af | apply ae.bZ | exact ae.bR _⟩
def d215(x0:(List Int))(x1:Int)(x2:Int):{c // ae c (L4 x0 x1 x2)}:=⟨_,by
 unfold L4
 with_reducible repeat' first | intro _ | apply (d221 _ _).2 | apply ae.gK | apply ae.af | apply ae.bZ | exact ae.bR _⟩
def d225(x0:Int):{c // ae c (L6 x0)}:=⟨_,by
 unfold L6
 with_reducible repeat' first | intro _ | apply ae.af | apply ae.bZ | exact ae.bR _⟩
def d189(x0:Int):{c // ae c (GX x0)}:=⟨_,by
 unfold GX
 with_reducible repeat' first | intro _ | apply (d225 _).2 | apply ae.bZ | exact ae.bR _⟩
abbrev aoh(x0:Int):=(d189 x0).1
theorem aT9(x0:Int):ae (aoh x0) (GX x0):=(d189 x0).2
def d188(x0:(List Int))(x1:Int)(x2:Int)(x3:Int):{c // ae c (L0 x0 x1 x2 x3)}:=⟨_,by
 unfold L0
 with_reducible repeat' first | intro _ | apply (d215 _ _ _).2 | apply ae.gK | apply ae.af | apply ae.bZ | exact ae.bR _⟩
def d164(x0:(List Int)):{c // ae c (GK x0)}:=⟨_,by
 unfold GK
 with_reducible repeat' first | intro _ | apply (d188 _ _ _ _).2 | apply (d189 _).2 | apply ae.bZ | exact ae.bR _⟩
abbrev ad9(x0:(List Int)):=(d164 x0).1
theorem aDy(x0:(List Int)):ae (ad9 x0) (GK x0):=(d164 x0).2
def d165(x0:(List Int)):{c // ae c (GL x0)}:=⟨_,by
 unfold GL
 with_reducible repeat' first | intro _ | apply ae.gK | apply ae.af | apply ae.kE | apply ae.bZ | exact ae.bR _⟩
abbrev aea(x0:(List Int)):=(d165 x0).1
theorem aDz(x0:(List Int)):ae (aea x0) (GL x0):=(d165 x0).2
def c96(x0:cy)(x1:(bt→Option Int)):Option (List Int) :=
 (qg (O:=(List Int)) (λ (qx:((List Int) × Int)) =>
 af (decide (qx.2 < (x0.fq.length:Int)))
 ((idx x0.fq qx.2).bind λ pG =>
 (x1 pG).bind λ uB =>
 (eV qx.1 [uB]).bind λ wC =>
 some (.inl (wC,i64 (qx.2+1))))
 (some (.inr qx.1))) ([],0)).bind (λ (tR:(List Int)) =>
 (ad9 tR).bind λ wD =>
 (aea wD).bind λ oR =>
 some oR)
theorem agZ(x0:cy){x1 gB:(bt→Option Int)}(iy:∀ y,ae (x1 y) (gB y)):ae (c96 x0 x1) (Hc x0 gB):=by
 unfold c96 Hc
 with_reducible repeat' first | exact ae.bR _ | refine ae.gK λ _=>?_ | refine ae.af ?_ ?_ | exact aDy _ | exact aDz _ | exact iy _ | exact hy _ _ | refine ae.bZ ?_ λ _=>?_
def d97(x0:bt)(x1:Int):{c // ae c (Hd x0 x1)}:=⟨_,by
 unfold Hd
 with_reducible repeat' first | intro _ | apply ae.bZ | exact ae.bR _⟩
def d25(x0:aj)(x1:Int):{c // ae c (G1 x0 x1)}:=⟨_,by
 unfold G1
 with_reducible repeat' first | intro _ | apply y9 | apply (d95 _).2 | apply agZ | apply (d97 _ _).2 | apply (d163 _ _).2 | apply ae.af | apply ae.bZ | exact ae.bR _⟩
abbrev c25(x0:aj)(x1:Int):=(d25 x0 x1).1
theorem aDG(x0:aj)(x1:Int):ae (c25 x0 x1) (G1 x0 x1):=(d25 x0 x1).2
def d103(x0:bt)(x1:cy)(x2:Int):{c // ae c (Gy x0 x1 x2)}:=⟨_,by
 unfold Gy
 with_reducible repeat' first | intro _ | apply (d104 _ _).2 | apply ae.bZ | exact ae.bR _⟩
def d28(x0:aj)(x1:Int):{c // ae c (G5 x0 x1)}:=⟨_,by
 unfold G5
 with_reducible repeat' first | intro _ | apply y9 | apply (d95 _).2 | apply agZ | apply (d103 _ _ _).2 | apply (d163 _ _).2 | apply ae.af | apply ae.bZ | exact ae.bR _⟩
abbrev c28(x0:aj)(x1:Int):=(d28 x0 x1).1
theorem aDN(x0:aj)(x1:Int):ae (c28 x0 x1) (G5 x0 x1):=(d28 x0 x1).2
def d106(x0:aj)(x1:Int)(x2:Int):{c // ae c (Gz x0 x1 x2)}:=⟨_,by
 unfold Gz
 with_reducible repeat' first | intro _ | apply (d107 _ _).2 | apply ae.bZ | exact ae.bR _⟩
def d108(x0:cy)(x1:Int):{c // ae c (D3 x0 x1)}:=⟨_,by
 unfold D3
 with_reducible repeat' first | intro _ | apply ae.af | apply ae.bZ | exact ae.bR _⟩
abbrev ad0(x0:cy)(x1:Int):=(d108 x0 x1).1
theorem aDm(x0:cy)(x1:Int):ae (ad0 x0 x1) (D3 x0 x1):=(d108 x0 x1).2
def d110(x0:bt)(x1:cy)(x2:Int)(x3:Int):{c // ae c (GA x0 x1 x2 x3)}:=⟨_,by
 unfold GA
 with_reducible repeat' first | intro _ | apply (d111 _ _ _ _).2 | apply ae.bZ | exact ae.bR _⟩
def d30(x0:aj)(x1:Int)(x2:Int):{c // ae c (BD x0 x1 x2)}:=⟨_,by
 unfold BD
 with_reducible repeat' first | intro _ | apply y9 | apply (d106 _ _ _).2 | apply (d108 _ _).2 | apply Qi | apply (d110 _ _ _ _).2 | apply ae.af | apply ae.bZ | exact ae.bR _⟩
abbrev Oa(x0:aj)(x1:Int)(x2:Int):=(d30 x0 x1 x2).1
theorem aDO(x0:aj)(x1:Int)(x2:Int):ae (Oa x0 x1 x2) (BD x0 x1 x2):=(d30 x0 x1 x2).2
def d132(x0:(List Int)):{c // ae c (zf x0)}:=⟨_,by
 unfold zf
 with_reducible repeat' first | intro _ | apply ae.gK | apply ae.af | apply ae.bZ | exact ae.bR _⟩
abbrev ad6(x0:(List Int)):=(d132 x0).1
theorem aDt(x0:(List Int)):ae (ad6 x0) (zf x0):=(d132 x0).2
def Ua(x0:aj)(x1:(List (List Int))):Option ((List Bool) × Int) :=
 af ((x1.length:Int) != (x0.ao.length:Int))
 (some ([false,false,false,false,false,false,false,false,false,false,false,false,false,false,false,false],2))
 ((qg (O:=((List Bool) ⊕ ((List Bool) × Int))) (λ (gU:(Int × (List Bool))) =>
 af (decide (gU.1 < (x1.length:Int)))
 ((idx x1 gU.1).bind λ qF =>
 (idx x0.ao gU.1).bind λ SM =>
 af ((qF.length:Int) != SM.an)
 (some (.inr (.inr ([false,false,false,false,false,false,false,false,false,false,false,false,false,false,false,false],2))))
 ((qg (O:=(Unit ⊕ ((List Bool) × Int))) (λ (qu:Int) =>
 af (decide (qu < (qF.length:Int)))
 ((idx qF qu).bind λ uz =>
 (adZ uz (x0.an.length:Int)).bind λ Ie =>
 af (Ie != 0)
 (some (.inr (.inr ([false,false,false,false,false,false,false,false,false,false,false,false,false,false,false,false],Ie))))
 ((((af (decide (qu > 0))
 ((idx qF (i64 (qu - 1))).bind λ SP =>
 some (decide (uz≤SP)))
 (some false)):Option Bool)).bind (λ (Hz:Bool) =>
 af Hz
 (some (.inr (.inr ([false,false,false,false,false,false,false,false,false,false,false,false,false,false,false,false],7))))
 (some (.inl (i64 (qu+1)))))))
 (some (.inr (.inl ())))) 0).bind (Sum.elim (λ (_:Unit) =>
 (ad6 qF).bind λ Nj =>
 (gT 4 gU.2 gU.1).bind λ _ =>
 some (.inl (i64 (gU.1+1),HK 4 gU.2 gU.1 Nj)))
  (λ q=>some (.inr (.inr q))))))
 (some (.inr (.inl gU.2)))) (0,[false,false,false,false,false,false,false,false,false,false,false,false,false,false,false,false])).bind (Sum.elim (λ (ED:(List Bool)) =>
 some (ED,0))
  (λ q=>some q)))
theorem aDp(x0:aj)(x1:(List (List Int))):ae (Ua x0 x1) (LI x0 x1):=by
 unfold Ua LI
 with_reducible repeat' first | exact ae.bR _ | refine ae.gK λ _=>?_ | refine ae.af ?_ ?_ | refine ae.kE (λ _=>?_) (λ _=>?_) _ | exact aDl _ _ | exact aDt _ | exact hy _ _ | refine ae.bZ ?_ λ _=>?_
def T9(x0:aj)(x1:(List (List Int)))(_:(List Bool)):Option ((List Bool) × Int) :=
 (Ua x0 x1).bind λ fw =>
 some (fw.1,fw.2)
theorem aDo(x0:aj)(x1:(List (List Int)))(x2:(List Bool)):ae (T9 x0 x1 x2) (LH x0 x1 x2):=by
 unfold T9 LH
 with_reducible repeat' first | exact ae.bR _ | exact aDp _ _ | exact hy _ _ | refine ae.bZ ?_ λ _=>?_
def d149(x0:aj)(x1:Int)(x2:Int):{c // ae c (BA x0 x1 x2)}:=⟨_,by
 unfold BA
 with_reducible repeat' first | intro _ | apply ae.af | apply ae.bZ | exact ae.bR _⟩
def d117(x0:aj)(x1:(List Bool))(x2:Int):{c // ae c (zc x0 x1 x2)}:=⟨_,by
 unfold zc
 with_reducible repeat' first | intro _ | apply (d149 _ _ _).2 | apply ae.gK | apply ae.af | apply ae.kE | apply ae.bZ | exact ae.bR _⟩
abbrev Ub(x0:aj)(x1:(List Bool))(x2:Int):=(d117 x0 x1 x2).1
theorem aaa(x0:aj)(x1:(List Bool))(x2:Int):ae (Ub x0 x1 x2) (zc x0 x1 x2):=(d117 x0 x1 x2).2
def d118(x0:bt)(x1:aj)(x2:(List Bool))(x3:cy):{c // ae c (D4 x0 x1 x2 x3)}:=⟨_,by
 unfold D4
 with_reducible repeat' first | intro _ | apply (d111 _ _ _ _).2 | apply ae.gK | apply ae.af | apply ae.kE | apply ae.bZ | exact ae.bR _⟩
abbrev ad1(x0:bt)(x1:aj)(x2:(List Bool))(x3:cy):=(d118 x0 x1 x2 x3).1
theorem aDq(x0:bt)(x1:aj)(x2:(List Bool))(x3:cy):ae (ad1 x0 x1 x2 x3) (D4 x0 x1 x2 x3):=(d118 x0 x1 x2 x3).2
def T8(x0:aj)(yg:(List (List Int)))(sO:(List Bool)):Option ((List Bool) × cy × Int) :=
 (Ut x0).bind λ gq =>
 af (gq != 0)
 (some (sO,(⟨⟨0,[],[],[],[],[]⟩,[]⟩:cy),gq))
 ((T9 x0 yg sO).bind λ gd =>
 af (gd.2 != 0)
 (some (gd.1,(⟨⟨0,[],[],[],[],[]⟩,[]⟩:cy),gd.2))
 ((Od (λ y s=>Oe y x0 s)).bind λ jD =>
 af ((jD.length:Int) == 0)
 (some (gd.1,(⟨⟨0,[],[],[],[],[]⟩,[]⟩:cy),9))
 (some (gd.1,(⟨⟨x0.Rest,x0.Rows,x0.aR,x0.an,x0.ao,x0.bd⟩,jD⟩:cy),0))))
theorem aDn(x0:aj)(yg:(List (List Int)))(sO:(List Bool)):ae (T8 x0 yg sO) (LG x0 yg sO):=by
 unfold T8 LG
 with_reducible repeat' first | exact ae.bR _ | refine ae.af ?_ ?_ | exact agY _ | refine aac (λ _ _ hy _=>?_) | refine Qk (λ _ _=>?_) _ _ | exact aDo _ _ _ | exact hy _ _ | refine ae.bZ ?_ λ _=>?_
def Ob(x0:aj)(x1:(List (List Int))):Option (Int × Int) :=
 (T8 x0 x1 [false,false,false,false,false,false,false,false,false,false,false,false,false,false,false,false]).bind λ fx =>
 af (fx.2.2 != 0)
 (some (0,fx.2.2))
 ((qg (O:=(Unit ⊕ (Int × Int))) (λ (vU:Int) =>
 af (decide (vU < (x0.ao.length:Int)))
 ((Ub fx.2.1.book fx.1 vU).bind λ pF =>
 af (!pF)
 (some (.inr (.inr (2,0))))
 (some (.inl (i64 (vU+1)))))
 (some (.inr (.inl ())))) 0).bind (Sum.elim (λ (_:Unit) =>
 (N7 fx.2.1 (λ y=>ad1 y x0 fx.1 fx.2.1)).bind λ pG =>
 (ad0 fx.2.1 pG).bind λ SY =>
 some (SY,0))
  (λ q=>some q)))
theorem aDP(x0:aj)(x1:(List (List Int))):ae (Ob x0 x1) (m32 x0 x1):=by
 unfold Ob m32
 with_reducible repeat' first | exact ae.bR _ | refine ae.gK λ _=>?_ | refine ae.af ?_ ?_ | refine ae.kE (λ _=>?_) (λ _=>?_) _ | exact aDm _ _ | refine Qi _ (λ _=>?_) | exact aaa _ _ _ | exact aDq _ _ _ _ | exact aDn _ _ _ | exact hy _ _ | refine ae.bZ ?_ λ _=>?_
def d121(x0:aj):{c // ae c (po x0)}:=⟨_,by
 unfold po
 with_reducible repeat' first | intro _ | apply ae.bZ | exact ae.bR _⟩
def AJ{S:Type}(ys:(List Bool)→S→Option (S × Bool)):Nat→((List Bool)→Int→cy→Int→(List Bool)→(List Bool)→S→Option (S × Bool)) × ((List Bool)→Int→Int→Int→cy→Int→(List Bool)→(List Bool)→S→Option (S × Bool))
 | 0=>(λ _ _ _ _ _ _ _=>none,λ _ _ _ _ _ _ _ _ _=>none)
 | k+1=>(λ x0 x1 xX xO xG xA s0 =>
  af (x1 == (xX.book.ao.length:Int))
  ((ys x0 s0).bind λ fN =>
  some (fN.1,fN.2))
  ((mJ .i64 xO x1).bind λ eU =>
  (gu .and .i64 eU 1).bind λ gI =>
  af (gI == 1)
  (((AJ ys k).1 x0 (i64 (x1+1)) xX xO xG xA s0).bind λ jf =>
  some (jf.1,jf.2))
  ((idx xX.book.ao x1).bind λ gb =>
  ((AJ ys k).2 x0 x1 0 gb.an xX xO xG xA s0).bind λ dX =>
  some (dX.1,dX.2))),
  λ x0 x1 x2 x3 xX xO xG xA s0 =>
  af (x3 == 0)
  (((((Ub xX.book x0 x1).bind λ gI =>
  af (!gI)
  (some (s0,true))
  (((AJ ys k).1 x0 (i64 (x1+1)) xX xO xG xA s0).bind λ cb =>
  some (cb.1,cb.2))):Option (S × Bool))).bind (λ (zy:(S × Bool)) =>
  some (zy.1,zy.2)))
  ((qg (O:=(S ⊕ (S × Bool))) (λ (bJ:(S × Int × (List Bool))) =>
  af (decide (bJ.2.1 < (xX.book.an.length:Int)))
  (((((idx xG bJ.2.1).bind λ Ar =>
  af (!Ar)
  (some true)
  ((gT 4 xA x1).bind λ uD =>
  (idx uD bJ.2.1).bind λ Io =>
  some (!Io))):Option Bool)).bind (λ (BM:Bool) =>
  af BM
  (some (.inl (bJ.1,i64 (bJ.2.1+1),bJ.2.2)))
  ((gT 4 bJ.2.2 x1).bind λ sV =>
  (idx sV bJ.2.1).bind λ _ =>
  ((AJ ys k).2 (lB 4 bJ.2.2 x1 bJ.2.1 true) x1 (i64 (bJ.2.1+1)) (i64 (x3 - 1)) xX xO xG xA bJ.1).bind λ n7 =>
  af (!n7.2)
  (some (.inr (.inr (n7.1,false))))
  ((gT 4 (lB 4 bJ.2.2 x1 bJ.2.1 true) x1).bind λ wx =>
  (idx wx bJ.2.1).bind λ _ =>
  some (.inl (n7.1,i64 (bJ.2.1+1),lB 4 (lB 4 bJ.2.2 x1 bJ.2.1 true) x1 bJ.2.1 false))))))
  (some (.inr (.inl bJ.1)))) (s0,x2,x0)).bind (Sum.elim (λ (oD:S) =>
  some (oD,true))
   (λ q=>some q))))
theorem agV{S:Type}{ys kS:(List Bool)→S→Option (S × Bool)}(h:∀ y s,ae (ys y s) (kS y s)):∀ k,(∀ x0 x1 x2 x3 x4 x5 s0,ae ((AJ ys k).1 x0 x1 x2 x3 x4 x5 s0) ((ko kS k).1 x0 x1 x2 x3 x4 x5 s0))∧(∀ x0 x1 x2 x3 x4 x5 x6 x7 s0,ae ((AJ ys k).2 x0 x1 x2 x3 x4 x5 x6 x7 s0) ((ko kS k).2 x0 x1 x2 x3 x4 x5 x6 x7 s0))
 | 0=>⟨λ _ _ _ _ _ _ _=>ae.none,λ _ _ _ _ _ _ _ _ _=>ae.none⟩
 | k+1=>by
  have ih:=agV h k
  have ih1:=ih.1
  have ih2:=ih.2
  rw [AJ,ko]
  constructor
  ·intro x0 x1 x2 x3 x4 x5 s0
   dsimp only
   with_reducible repeat' first | exact ae.bR _ | refine ae.gK λ _=>?_ | refine ae.af ?_ ?_ | refine ae.kE (λ _=>?_) (λ _=>?_) _ | exact aaa _ _ _ | exact h _ _ | exact ih1 _ _ _ _ _ _ _ | exact ih2 _ _ _ _ _ _ _ _ _ | refine ae.bZ ?_ λ _=>?_
  ·intro x0 x1 x2 x3 x4 x5 x6 x7 s0
   dsimp only
   repeat' (first | with_reducible exact ae.bR _ | with_reducible refine ae.gK λ _=>?_ | with_reducible refine ae.af ?_ ?_ | with_reducible refine ae.kE (λ _=>?_) (λ _=>?_) _ | with_reducible refine ae.gm (λ _ _=>?_) _ _ | with_reducible exact aaa _ _ _ | with_reducible exact h _ _ | with_reducible exact ih1 _ _ _ _ _ _ _ | with_reducible exact ih2 _ _ _ _ _ _ _ _ _ | with_reducible refine ae.bZ ?_ λ _=>?_)
def aeb{S:Type}(ys:(List Bool)→S→Option (S × Bool))(x1:cy)(x2:Int)(x3:(List Bool))(x4:(List Bool))(s0:S):Option S :=
 ((AJ ys 40).1 [false,false,false,false,false,false,false,false,false,false,false,false,false,false,false,false] 0 x1 x2 x3 x4 s0).bind λ B8 =>
  some B8.1
theorem Qj{S:Type}{ys kS:(List Bool)→S→Option (S × Bool)}(h:∀ y s,ae (ys y s) (kS y s))(x1:cy)(x2:Int)(x3:(List Bool))(x4:(List Bool))(s0:S):ae (aeb ys x1 x2 x3 x4 s0) (qi kS x1 x2 x3 x4 s0):=by
 unfold aeb qi
 with_reducible repeat' first | exact ae.bR _ | refine (agV (λ _ _=>?_) 40).1 _ _ _ _ _ _ _ | exact h _ _ | refine ae.bZ ?_ λ _=>?_
def d122(x0:cy)(x1:(List Bool))(x2:(List Bool))(x3:Int):{c // ae c (tG x0 x1 x2 x3)}:=⟨_,by
 unfold tG
 with_reducible repeat' first | intro _ | apply ae.bZ | exact ae.bR _⟩
def d124(x0:aj):{c // ae c (vC x0)}:=⟨_,by
 unfold vC
 with_reducible repeat' first | intro _ | apply ae.gK | apply ae.af | apply ae.bZ | exact ae.bR _⟩
def d34(x0:aj):{c // ae c (xL x0)}:=⟨_,by
 unfold xL
 with_reducible repeat' first | intro _ | apply y9 | apply (d121 _).2 | apply (d122 _ _ _ _).2 | apply Lz | apply (d124 _).2 | apply Qj | apply ae.af | apply ae.kE | apply ae.gm | apply ae.bZ | exact ae.bR _⟩
abbrev Un(x0:aj):=(d34 x0).1
theorem aDQ(x0:aj):ae (Un x0) (xL x0):=(d34 x0).2
def d126(x0:aj)(x1:(List Bool)):{c // ae c (xJ x0 x1)}:=⟨_,by
 unfold xJ
 with_reducible repeat' first | intro _ | apply ae.gK | apply ae.af | apply ae.bZ | exact ae.bR _⟩
def d36(x0:aj):{c // ae c (zl x0)}:=⟨_,by
 unfold zl
 with_reducible repeat' first | intro _ | apply y9 | apply (d121 _).2 | apply (d122 _ _ _ _).2 | apply Lz | apply (d124 _).2 | apply (d126 _ _).2 | apply Qj | apply ae.af | apply ae.kE | apply ae.gm | apply ae.bZ | exact ae.bR _⟩
abbrev c36(x0:aj):=(d36 x0).1
theorem aDR(x0:aj):ae (c36 x0) (zl x0):=(d36 x0).2
def Uf (x1:((List Bool)→((List (List Bool)) ⊕ Empty)→Option (((List (List Bool)) ⊕ Empty) × Bool))→((List (List Bool)) ⊕ Empty)→Option ((List (List Bool)) ⊕ Empty)):Option (List (List Bool)) :=
 (x1 (gm (λ (sS:(List Bool)) (kC:(List (List Bool)))=>(((eV kC [sS]).bind λ jR =>
 some (.inl jR)):Option ((List (List Bool)) ⊕ Empty)))) (.inl [])).bind (Sum.elim (λ (kC:(List (List Bool))) =>
 some kC)
  (λ (o:Empty)=>o.elim))
theorem aDB{x1 gB:((List Bool)→((List (List Bool)) ⊕ Empty)→Option (((List (List Bool)) ⊕ Empty) × Bool))→((List (List Bool)) ⊕ Empty)→Option ((List (List Bool)) ⊕ Empty)}(iy:∀ ys kS,(∀ y s,ae (ys y s) (kS y s))→∀ s,ae (x1 ys s) (gB kS s)):ae (Uf x1) (GN gB):=by
 unfold Uf GN
 with_reducible repeat' first | exact ae.bR _ | refine ae.kE (λ _=>?_) (λ _=>?_) _ | refine ae.gm (λ _ _=>?_) _ _ | refine iy _ _ (λ _ _=>?_) _ | exact iy | exact hy _ _ | refine ae.bZ ?_ λ _=>?_
def ad3 (x0:((List Bool)→((List (List Bool)) ⊕ Empty)→Option (((List (List Bool)) ⊕ Empty) × Bool))→((List (List Bool)) ⊕ Empty)→Option ((List (List Bool)) ⊕ Empty)):Option (List (List Bool)) :=
 (Uf x0).bind λ df =>
 some df
theorem aDr{x0 B2:((List Bool)→((List (List Bool)) ⊕ Empty)→Option (((List (List Bool)) ⊕ Empty) × Bool))→((List (List Bool)) ⊕ Empty)→Option ((List (List Bool)) ⊕ Empty)}(Dt:∀ ys kS,(∀ y s,ae (ys y s) (kS y s))→∀ s,ae (x0 ys s) (B2 kS s)):ae (ad3 x0) (D5 B2):=by
 unfold ad3 D5
 with_reducible repeat' first | exact ae.bR _ | refine aDB (λ _ _ hy _=>?_) | refine Dt _ _ (λ _ _=>?_) _ | exact Dt | exact hy _ _ | refine ae.bZ ?_ λ _=>?_
def ad4(x0:((List Bool)→Option Int))(x1:(List (List Bool))):Option (List Bool) :=
 (idx x1 0).bind λ lS =>
 (kF x1 1 (x1.length:Int)).bind λ rz =>
 (qg (O:=(List Bool)) (λ (mI:(Int × (List Bool))) =>
 af (decide (mI.1 < (rz.length:Int)))
 ((idx rz mI.1).bind λ Ik =>
 (x0 Ik).bind λ wD =>
 (x0 mI.2).bind λ oR =>
 af (decide (wD < oR))
 (some (.inl (i64 (mI.1+1),Ik)))
 (some (.inl (i64 (mI.1+1),mI.2))))
 (some (.inr mI.2))) (0,lS)).bind (λ (EE:(List Bool)) =>
 some EE)
theorem aDs{x0 B2:((List Bool)→Option Int)}(Dt:∀ y,ae (x0 y) (B2 y))(x1:(List (List Bool))):ae (ad4 x0 x1) (D6 B2 x1):=by
 unfold ad4 D6
 with_reducible repeat' first | exact ae.bR _ | refine ae.gK λ _=>?_ | refine ae.af ?_ ?_ | exact Dt _ | exact hy _ _ | refine ae.bZ ?_ λ _=>?_
def d129(x0:aj)(x1:(List Bool)):{c // ae c (zd x0 x1)}:=⟨_,by
 unfold zd
 with_reducible repeat' first | intro _ | apply ae.gK | apply ae.af | apply ae.bZ | exact ae.bR _⟩
def d39(x0:aj):{c // ae c (zn x0)}:=⟨_,by
 unfold zn
 with_reducible repeat' first | intro _ | apply y9 | apply (d121 _).2 | apply (d122 _ _ _ _).2 | apply Lz | apply (d124 _).2 | apply (d126 _ _).2 | apply aDr | apply aDs | apply (d129 _ _).2 | apply Qj | apply ae.af | apply ae.bZ | exact ae.bR _ | exact ‹∀ _ _,ae _ _› _ _⟩
abbrev c39(x0:aj):=(d39 x0).1
theorem aDT(x0:aj):ae (c39 x0) (zn x0):=(d39 x0).2
def d133(x0:Int):{c // ae c (zh x0)}:=⟨_,by
 unfold zh
 with_reducible repeat' first | intro _ | apply ae.gK | apply ae.af | apply ae.bZ | exact ae.bR _⟩
abbrev Uc(x0:Int):=(d133 x0).1
theorem agT(x0:Int):ae (Uc x0) (zh x0):=(d133 x0).2
def d211(x0:Int)(x1:Int):{c // ae c (L2 x0 x1)}:=⟨_,by
 unfold L2
 with_reducible repeat' first | intro _ | apply (d235 _).2 | apply ae.af | apply ae.bZ | exact ae.bR _⟩
def d178(x0:(List Int))(x1:(List Int)):{c // ae c (Ea x0 x1)}:=⟨_,by
 unfold Ea
 with_reducible repeat' first | intro _ | apply (d211 _ _).2 | apply ae.gK | apply ae.af | apply ae.kE | apply ae.bZ | exact ae.bR _⟩
abbrev N9(x0:(List Int))(x1:(List Int)):=(d178 x0 x1).1
theorem agW(x0:(List Int))(x1:(List Int)):ae (N9 x0 x1) (Ea x0 x1):=(d178 x0 x1).2
def ad5(x0:Int)(x1:(Int→Option Bool)):Option ((List Int) × Bool) :=
 (HN .i64 1 x0).bind λ wC =>
 (qg (O:=((List Int) × Bool)) (λ (fF:((List Int) × Bool × Int)) =>
 af (decide (fF.2.2 < wC))
 ((Uc fF.2.2).bind λ qD =>
 (((af (!fF.2.1)
 ((x1 fF.2.2).bind λ oP =>
 some oP)
 (af (decide ((qD.length:Int) < (fF.1.length:Int)))
 ((x1 fF.2.2).bind λ B5 =>
 some B5)
 (af ((qD.length:Int) == (fF.1.length:Int))
 ((N9 qD fF.1).bind λ E1 =>
 af (decide (E1 < 0))
 ((x1 fF.2.2).bind λ Ah =>
 some Ah)
 (some false))
 (some false)))):Option Bool)).bind (λ (Hl:Bool) =>
 af Hl
 (some (.inl (qD,true,i64 (fF.2.2+1))))
 (some (.inl (fF.1,fF.2.1,i64 (fF.2.2+1))))))
 (some (.inr (fF.1,fF.2.1)))) ([],false,0)).bind (λ (zz:((List Int) × Bool)) =>
 some (zz.1,zz.2))
theorem aab(x0:Int){x1 gB:(Int→Option Bool)}(iy:∀ y,ae (x1 y) (gB y)):ae (ad5 x0 x1) (ze x0 gB):=by
 unfold ad5 ze
 with_reducible repeat' first | exact ae.bR _ | refine ae.gK λ _=>?_ | refine ae.af ?_ ?_ | exact agT _ | exact agW _ _ | exact iy _ | exact hy _ _ | refine ae.bZ ?_ λ _=>?_
def d134(x0:cy)(x1:(List Bool))(x2:(List Bool))(x3:Int):{c // ae c (zi x0 x1 x2 x3)}:=⟨_,by
 unfold zi
 with_reducible repeat' first | intro _ | apply (d122 _ _ _ _).2 | apply Qj | apply ae.kE | apply ae.gm | apply ae.bZ | exact ae.bR _⟩
def d131(x0:Int)(x1:cy)(x2:(List Bool))(x3:(List Bool)):{c // ae c (D7 x0 x1 x2 x3)}:=⟨_,by
 unfold D7
 with_reducible repeat' first | intro _ | apply (d132 _).2 | apply (d133 _).2 | apply (d134 _ _ _ _).2 | apply ae.af | apply ae.bZ | exact ae.bR _⟩
def d41(x0:aj):{c // ae c (zo x0)}:=⟨_,by
 unfold zo
 with_reducible repeat' first | intro _ | apply y9 | apply (d121 _).2 | apply Lz | apply (d124 _).2 | apply aab | apply (d131 _ _ _ _).2 | apply ae.af | apply ae.bZ | exact ae.bR _⟩
abbrev c41(x0:aj):=(d41 x0).1
theorem aDU(x0:aj):ae (c41 x0) (zo x0):=(d41 x0).2
def d138(x0:Int)(x1:cy)(x2:(List Bool))(x3:(List Bool)):{c // ae c (D9 x0 x1 x2 x3)}:=⟨_,by
 unfold D9
 with_reducible repeat' first | intro _ | apply (d134 _ _ _ _).2 | apply ae.bZ | exact ae.bR _⟩
def d43(x0:aj):{c // ae c (xM x0)}:=⟨_,by
 unfold xM
 with_reducible repeat' first | intro _ | apply y9 | apply (d121 _).2 | apply Lz | apply (d124 _).2 | apply aab | apply (d138 _ _ _ _).2 | apply ae.af | apply ae.bZ | exact ae.bR _⟩
abbrev Up(x0:aj):=(d43 x0).1
theorem aDV(x0:aj):ae (Up x0) (xM x0):=(d43 x0).2
def d46(x0:aj)(x1:eS):{c // ae c (Em x0 x1)}:=⟨_,by
 unfold Em
 with_reducible repeat' first | intro _ | apply ae.bZ | exact ae.bR _⟩
abbrev Uq(x0:aj)(x1:eS):=(d46 x0 x1).1
theorem aDW(x0:aj)(x1:eS):ae (Uq x0 x1) (Em x0 x1):=(d46 x0 x1).2
def d48(x0:aj)(x1:Int):{c // ae c (En x0 x1)}:=⟨_,by
 unfold En
 with_reducible repeat' first | intro _ | apply (d82 _).2 | apply (d104 _ _).2 | apply (d139 _ _ _).2 | apply ae.af | apply ae.bZ | exact ae.bR _⟩
abbrev Ur(x0:aj)(x1:Int):=(d48 x0 x1).1
theorem aDX(x0:aj)(x1:Int):ae (Ur x0 x1) (En x0 x1):=(d48 x0 x1).2
def d49(x0:Int)(x1:Int):{c // ae c (Eo x0 x1)}:=⟨_,by
 unfold Eo
 with_reducible repeat' first | intro _ | apply ae.bZ | exact ae.bR _⟩
abbrev Us(x0:Int)(x1:Int):=(d49 x0 x1).1
theorem agX(x0:Int)(x1:Int):ae (Us x0 x1) (Eo x0 x1):=(d49 x0 x1).2
def d151(x0:(List eS)):{c // ae c (GG x0)}:=⟨_,by
 unfold GG
 with_reducible repeat' first | intro _ | apply ae.bZ | exact ae.bR _⟩
def d179(x0:(List fW)):{c // ae c (GO x0)}:=⟨_,by
 unfold GO
 with_reducible repeat' first | intro _ | apply ae.bZ | exact ae.bR _⟩
def d180(x0:(List Reach)):{c // ae c (GQ x0)}:=⟨_,by
 unfold GQ
 with_reducible repeat' first | intro _ | apply ae.bZ | exact ae.bR _⟩
def d181(x0:(List ft)):{c // ae c (GR x0)}:=⟨_,by
 unfold GR
 with_reducible repeat' first | intro _ | apply ae.bZ | exact ae.bR _⟩
def d182(x0:(List m5)):{c // ae c (GU x0)}:=⟨_,by
 unfold GU
 with_reducible repeat' first | intro _ | apply ae.bZ | exact ae.bR _⟩
def d140(x0:aj):{c // ae c (LO x0)}:=⟨_,by
 unfold LO
 with_reducible repeat' first | intro _ | apply (d151 _).2 | apply (d179 _).2 | apply (d180 _).2 | apply (d181 _).2 | apply (d182 _).2 | apply ae.bZ | exact ae.bR _⟩
def d50(x0:aj)(x1:Int)(x2:Int):{c // ae c (G6 x0 x1 x2)}:=⟨_,by
 unfold G6
 with_reducible repeat' first | intro _ | apply (d82 _).2 | apply (d104 _ _).2 | apply (d139 _ _ _).2 | apply (d140 _).2 | apply ae.gK | apply ae.af | apply ae.bZ | exact ae.bR _⟩
abbrev c50(x0:aj)(x1:Int)(x2:Int):=(d50 x0 x1 x2).1
theorem aDY(x0:aj)(x1:Int)(x2:Int):ae (c50 x0 x1 x2) (G6 x0 x1 x2):=(d50 x0 x1 x2).2
def d144(x0:aj)(x1:Int):{c // ae c (LR x0 x1)}:=⟨_,by
 unfold LR
 with_reducible repeat' first | intro _ | apply (d133 _).2 | apply ae.gK | apply ae.af | apply ae.bZ | exact ae.bR _⟩
def d145(x0:aj):{c // ae c (LS x0)}:=⟨_,by
 unfold LS
 with_reducible repeat' first | intro _ | apply Qk | apply ae.kE | apply ae.gm | apply ae.bZ | exact ae.bR _⟩
def d143(x0:Int)(x1:aj):{c // ae c (GD x0 x1)}:=⟨_,by
 unfold GD
 with_reducible repeat' first | intro _ | apply (d144 _ _).2 | apply (d145 _).2 | apply ae.bZ | exact ae.bR _⟩
def d54(x0:aj):{c // ae c (G7 x0)}:=⟨_,by
 unfold G7
 with_reducible repeat' first | intro _ | apply (d82 _).2 | apply aab | apply (d143 _ _).2 | apply ae.af | apply ae.bZ | exact ae.bR _⟩
abbrev c54(x0:aj):=(d54 x0).1
theorem aDZ(x0:aj):ae (c54 x0) (G7 x0):=(d54 x0).2
def d146(x0:bt)(x1:Int)(x2:Int):{c // ae c (GF x0 x1 x2)}:=⟨_,by
 unfold GF
 with_reducible repeat' first | intro _ | apply ae.bZ | exact ae.bR _⟩
def d59(x0:aj):{c // ae c (G8 x0)}:=⟨_,by
 unfold G8
 with_reducible repeat' first | intro _ | apply y9 | apply Qi | apply (d121 _).2 | apply (d146 _ _ _).2 | apply ae.gK | apply ae.af | apply ae.bZ | exact ae.bR _⟩
abbrev c59(x0:aj):=(d59 x0).1
theorem aD1(x0:aj):ae (c59 x0) (G8 x0):=(d59 x0).2
def d66(x0:aj)(x1:Int)(x2:Int):{c // ae c (G9 x0 x1 x2)}:=⟨_,by
 unfold G9
 with_reducible repeat' first | intro _ | apply (d82 _).2 | apply (d107 _ _).2 | apply (d149 _ _ _).2 | apply ae.af | apply ae.bZ | exact ae.bR _⟩
abbrev c66(x0:aj)(x1:Int)(x2:Int):=(d66 x0 x1 x2).1
theorem aD2(x0:aj)(x1:Int)(x2:Int):ae (c66 x0 x1 x2) (G9 x0 x1 x2):=(d66 x0 x1 x2).2
def d159(x0:Int):{c // ae c (GH x0)}:=⟨_,by
 unfold GH
 with_reducible repeat' first | intro _ | apply ae.bZ | exact ae.bR _⟩
abbrev ad7(x0:Int):=(d159 x0).1
theorem aDv(x0:Int):ae (ad7 x0) (GH x0):=(d159 x0).2
def Uu  : Option aj :=
 (Us 9 11).bind λ cb =>
 (ad7 15).bind λ ry =>
 some (⟨10,[(⟨10,40⟩:fW),(⟨20,20⟩:fW)],[cb,ry],[(⟨⟨#[97,110,110]⟩,20⟩:ft),(⟨⟨#[98,111]⟩,12⟩:ft)],[(⟨0,0,20,2⟩:m5),(⟨1,30,15,1⟩:m5),(⟨0,60,30,1⟩:m5)],[]⟩:aj)
theorem aD3  : ae (Uu ) (Mi ):=by
 unfold Uu Mi
 with_reducible repeat' first | exact ae.bR _ | exact agX _ _ | exact aDv _ | exact hy _ _ | refine ae.bZ ?_ λ _=>?_
def d102(x0:(List Int))(x1:(List Int)):{c // ae c (tF x0 x1)}:=⟨_,by
 unfold tF
 with_reducible repeat' first | intro _ | apply ae.gK | apply ae.af | apply ae.kE | apply ae.bZ | exact ae.bR _⟩
def d27(x0:(List Int))(x1:(List Int)):{c // ae c (rf x0 x1)}:=⟨_,by
 unfold rf
 with_reducible repeat' first | intro _ | apply (d102 _ _).2 | apply ae.af | apply ae.bZ | exact ae.bR _⟩
abbrev c27(x0:(List Int))(x1:(List Int)):=(d27 x0 x1).1
theorem aDH(x0:(List Int))(x1:(List Int)):ae (c27 x0 x1) (rf x0 x1):=(d27 x0 x1).2
def d89(x0:(List Int))(x1:(List Int)):{c // ae c (zp x0 x1)}:=⟨_,by
 unfold zp
 with_reducible repeat' first | intro _ | apply (d27 _ _).2 | apply ae.bZ | exact ae.bR _⟩
abbrev I7(x0:(List Int))(x1:(List Int)):=(d89 x0 x1).1
theorem aD4(x0:(List Int))(x1:(List Int)):ae (I7 x0 x1) (zp x0 x1):=(d89 x0 x1).2
def Uo(x0:(List (List Int)))(x1:(List (List Int))):Option Bool :=
 af ((x0.length:Int) != (x1.length:Int))
 (some false)
 ((qg (O:=(Unit ⊕ Bool)) (λ (tX:Int) =>
 af (decide (tX < (x0.length:Int)))
 ((idx x0 tX).bind λ Ap =>
 (idx x1 tX).bind λ pE =>
 (c27 Ap pE).bind λ pF =>
 af (!pF)
 (some (.inr (.inr false)))
 (some (.inl (i64 (tX+1)))))
 (some (.inr (.inl ())))) 0).bind (Sum.elim (λ (_:Unit) =>
 some true)
  (λ q=>some q)))
theorem aDS(x0:(List (List Int)))(x1:(List (List Int))):ae (Uo x0 x1) (sm x0 x1):=by
 unfold Uo sm
 with_reducible repeat' first | exact ae.bR _ | refine ae.gK λ _=>?_ | refine ae.af ?_ ?_ | refine ae.kE (λ _=>?_) (λ _=>?_) _ | exact aDH _ _ | exact hy _ _ | refine ae.bZ ?_ λ _=>?_
def Oc(x0:(List (List Int)))(x1:(List (List Int))):Option Bool :=
 (Uo x0 x1).bind λ df =>
 some df
theorem aD5(x0:(List (List Int)))(x1:(List (List Int))):ae (Oc x0 x1) (Ha x0 x1):=by
 unfold Oc Ha
 with_reducible repeat' first | exact ae.bR _ | exact aDS _ _ | exact hy _ _ | refine ae.bZ ?_ λ _=>?_
def c22  : Option Bool :=
 (Uu).bind λ eZ =>
 (Uq eZ (⟨0,10,true⟩:eS)).bind λ gH =>
 (Ur eZ 10).bind λ yh =>
 (Ur eZ 21).bind λ B6 =>
 (c23 eZ).bind λ E4 =>
 (c25 gH 0).bind λ E5 =>
 (c28 eZ 0).bind λ Al =>
 (Oa eZ 1 0).bind λ yi =>
 (Oa eZ 1 1).bind λ E6 =>
 (Oa eZ 1 2).bind λ Am =>
 (c66 eZ 0 1).bind λ B7 =>
 (Ob eZ ([[0,1],[0],[1]])).bind λ E7 =>
 (Ob gH ([[0,1],[0],[1]])).bind λ E8 =>
 (((af (yh.2 != 0)
 (some true)
 (af (B6.2 != 0)
 (some true)
 (af (E4.2 != 0)
 (some true)
 (af (E5.2 != 0)
 (some true)
 (af (Al.2 != 0)
 (some true)
 (af (yi.2 != 0)
 (some true)
 (af (E6.2 != 0)
 (some true)
 (af (Am.2 != 0)
 (some true)
 (af (B7.2 != 0)
 (some true)
 (af (E7.2 != 0)
 (some true)
 (some (E8.2 != 0)))))))))))):Option Bool)).bind (λ (Hr:Bool) =>
 af Hr
 (some false)
 ((((af (yh.1 != 40)
 (some true)
 (af (B6.1 != 0)
 (some true)
 (af (E4.1 != 3)
 (some true)
 ((I7 E5.1 [9,10]).bind λ SL =>
 af (!SL)
 (some true)
 ((Us 20 40).bind λ B9 =>
 af (!(UY Al.1 B9 == true))
 (some true)
 (af (yi.1 != 1)
 (some true)
 (af (E6.1 != 2)
 (some true)
 (af (Am.1 != 0)
 (some true)
 (af (!B7.1)
 (some true)
 (af (E7.1 != 0)
 (some true)
 (some (E8.1 != 1)))))))))))):Option Bool)).bind (λ (Ht:Bool) =>
 af Ht
 (some false)
 ((Un eZ).bind λ E9 =>
 (Un gH).bind λ Fa =>
 (c36 gH).bind λ yj =>
 (c39 gH).bind λ sR =>
 (c41 gH).bind λ yl =>
 (Up eZ).bind λ Fb =>
 (c59 eZ).bind λ pC =>
 (c50 gH 12 15).bind λ qE =>
 (Up qE.1).bind λ Ic =>
 (Uq gH (⟨0,8,true⟩:eS)).bind λ Nf =>
 (c54 Nf).bind λ Fc =>
 (((af (E9.2 != 0)
 (some true)
 (af (Fa.2 != 0)
 (some true)
 (af (yj.2.2 != 0)
 (some true)
 (af (sR.2.2.2 != 0)
 (some true)
 (af (yl.2.2 != 0)
 (some true)
 (af (Fb.2 != 0)
 (some true)
 (af (pC.2.2.2 != 0)
 (some true)
 (af (qE.2 != 0)
 (some true)
 (af (Ic.2 != 0)
 (some true)
 (some (Fc.2 != 0))))))))))):Option Bool)).bind (λ (Hu:Bool) =>
 af Hu
 (some false)
 ((((af (E9.1 != 0)
 (some true)
 (af (Fa.1 != 2)
 (some true)
 (af (!yj.2.1)
 (some true)
 ((Oc yj.1 ([[0,1],[0],[0]])).bind λ SQ =>
 af (!SQ)
 (some true)
 (af (!sR.2.2.1)
 (some true)
 (af (sR.2.1 != 50)
 (some true)
 ((Oc sR.1 ([[0,1],[0],[1]])).bind λ sT =>
 af (!sT)
 (some true)
 (af (!yl.2.1)
 (some true)
 ((I7 yl.1 [0,1]).bind λ An =>
 af (!An)
 (some true)
 ((I7 Fb.1 [2]).bind λ SU =>
 some (!SU))))))))))):Option Bool)).bind (λ (Hv:Bool) =>
 af Hv
 (some false)
 (af (pC.1 == 0)
 (af (pC.2.1 == 9)
 (af (pC.2.2.1 == 2)
 (af ((Ic.1.length:Int) == 0)
 ((I7 Fc.1 [1]).bind λ sU =>
 af sU
 (af ((qE.1.Rows.length:Int) == 3)
 ((idx qE.1.Rows 1).bind λ Ih =>
 af (Jo Ih (⟨12,15⟩:fW) == true)
 ((idx qE.1.Rows 2).bind λ uA =>
 some (Jo uA (⟨20,15⟩:fW) == true))
 (some false))
 (some false))
 (some false))
 (some false))
 (some false))
 (some false))
 (some false)))))))))
theorem aDE  : ae (c22 ) (Ed ):=by
 unfold c22 Ed
 with_reducible repeat' first | exact ae.bR _ | refine ae.af ?_ ?_ | exact aDF _ | exact aDG _ _ | exact aDN _ _ | exact aDO _ _ _ | exact aDP _ _ | exact aDQ _ | exact aDR _ | exact aDT _ | exact aDU _ | exact aDV _ | exact aDW _ _ | exact aDX _ _ | exact agX _ _ | exact aDY _ _ _ | exact aDZ _ | exact aD1 _ | exact aD2 _ _ _ | exact aD3 | exact aD4 _ _ | exact aD5 _ _ | exact hy _ _ | refine ae.bZ ?_ λ _=>?_
def d135(x0:Int)(x1:Int):{c // ae c (zj x0 x1)}:=⟨_,by
 unfold zj
 with_reducible repeat' first | intro _ | apply ae.gK | apply ae.af | apply ae.bZ | exact ae.bR _⟩
abbrev Ud(x0:Int)(x1:Int):=(d135 x0 x1).1
theorem aDu(x0:Int)(x1:Int):ae (Ud x0 x1) (zj x0 x1):=(d135 x0 x1).2
def d58(x0:(List Int))(x1:(List Int)):{c // ae c (vD x0 x1)}:=⟨_,by
 unfold vD
 with_reducible repeat' first | intro _ | apply (d102 _ _).2 | apply ae.af | apply ae.bZ | exact ae.bR _⟩
abbrev c58(x0:(List Int))(x1:(List Int)):=(d58 x0 x1).1
theorem aD0(x0:(List Int))(x1:(List Int)):ae (c58 x0 x1) (vD x0 x1):=(d58 x0 x1).2
def c57(x0:(List Int))(x1:Int):Option (List Int) :=
 (qg (O:=(List Int)) (λ (BU:((List Int) × Int)) =>
 af (decide (BU.2 < (x0.length:Int)))
 (af (BU.2 != x1)
 ((idx x0 BU.2).bind λ oQ =>
 (eV BU.1 [oQ]).bind λ Ao =>
 some (.inl (Ao,i64 (BU.2+1))))
 (some (.inl (BU.1,i64 (BU.2+1)))))
 (some (.inr BU.1))) ([],0)).bind (λ (aHP:(List Int)) =>
 some aHP)
theorem aIL:Ed=some true:=aDE _ (by decide +kernel)
end
end Go.Proofs.YtihapemckcdicaaGreatDoor
