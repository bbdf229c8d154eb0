/- The chapter's examples, by reckoning. Conditions: none. -/
import Derived.Test.YtihapemckcdicaaGreatDoorQYStM
import Derived.Test.YtihapemckcdicaaGreatDoorQYLgC
namespace Go.Proofs.YtihapemckcdicaaGreatDoor
open Go.Lg Go.Proofs
noncomputable section
set_option maxRecDepth 100000
set_option maxHeartbeats 4000000
def d139(x0:Int)(x1:Int)(x2:Int):{c // ae c (eP x0 x1 x2)}:=⟨_,by
 unfold eP
 with_reducible repeat' first | intro _ | apply ae.af | apply ae.bf | exact ae.bb _⟩
def EK(x0:ByteArray):Option Bool:=qK x0
theorem Jp(x0:ByteArray):ae (EK x0) (qK x0):=ae.bb _
def rK(x0:bF)(x1:(aY→Option Bool)):Option Int :=
 (gH (O:=Int) (λ (a:(Int × Int)) =>
 af (decide (a.2 < (x0.cG.length:Int)))
 ((idx x0.cG a.2).bind λ c =>
 (x1 c).bind λ d =>
 af d
 (some (.inl (i64 (a.1+1),i64 (a.2+1))))
 (some (.inl (a.1,i64 (a.2+1)))))
 (some (.inr a.1))) (0,0)).bind (λ (b:Int) =>
 some b)
theorem sX(x0:bF){x1 a:(aY→Option Bool)}(b:∀ y,ae (x1 y) (a y)):ae (rK x0 x1) (ju x0 a):=by
 unfold rK ju
 with_reducible repeat' first | exact ae.bb _ | refine ae.c0 λ _=>?_ | refine ae.af ?_ ?_ | exact b _ | exact c _ _ | refine ae.bf ?_ λ _=>?_
def d104(x0:aj)(x1:Int):{c // ae c (j2 x0 x1)}:=⟨_,by
 unfold j2
 with_reducible repeat' first | intro _ | apply ae.c0 | apply ae.af | apply ae.ei | apply ae.bf | exact ae.bb _⟩
def d111(x0:aj)(x1:aY)(x2:Int)(x3:Int):{c // ae c (kJ x0 x1 x2 x3)}:=⟨_,by
 unfold kJ
 with_reducible repeat' first | intro _ | apply (d104 _ _).2 | apply ae.af | apply ae.bf | exact ae.bb _⟩
def d172(x0:aY)(x1:bF)(x2:Int)(x3:Int):{c // ae c (kO x0 x1 x2 x3)}:=⟨_,by
 unfold kO
 with_reducible repeat' first | intro _ | apply (d111 _ _ _ _).2 | apply ae.bf | exact ae.bb _⟩
abbrev yQ(x0:aY)(x1:bF)(x2:Int)(x3:Int):=(d172 x0 x1 x2 x3).1
theorem I3(x0:aY)(x1:bF)(x2:Int)(x3:Int):ae (yQ x0 x1 x2 x3) (kO x0 x1 x2 x3):=(d172 x0 x1 x2 x3).2
def wj(x0:bF)(i k:Nat):Option Bool:=(rK x0 (λ y=>yQ y x0 (k:Int) (i:Int))).bind λ n=>some (n == (x0.cG.length:Int))
theorem JM(x0:bF)(i k:Nat):ae (wj x0 i k) (hE x0 i k):=by
 unfold wj hE
 with_reducible repeat' first | exact ae.bb _ | refine sX _ (λ _=>?_) | exact I3 _ _ _ _ | refine ae.bf ?_ λ _=>?_
def yG(x0:bF):Option (List Bool) :=
 if (0 < x0.book.av.length∧x0.book.av.length≤4)∧(0 < x0.book.az.length∧x0.book.az.length≤4) then
  (((List.range 16).mapM λ (p:Nat)=>if p / 4 < x0.book.av.length∧p % 4 < x0.book.az.length then wj x0 (p / 4) (p % 4) else some false):Option (List Bool))
 else none
theorem qp(x0:bF):ae (yG x0) (iF x0):=by
 unfold yG iF
 split
 ·refine ae.mapM (λ p=>?_) _
  split
  ·exact JM _ _ _
  ·exact ae.bb _
 ·exact ae.none
def d265(x0:aj):{c // ae c (o1 x0)}:=⟨_,by
 unfold o1
 with_reducible repeat' first | intro _ | apply (d139 _ _ _).2 | apply ae.af | apply ae.bf | exact ae.bb _⟩
def d266(x0:aj):{c // ae c (nF x0)}:=⟨_,by
 unfold nF
 with_reducible repeat' first | intro _ | apply (d139 _ _ _).2 | apply ae.c0 | apply ae.af | apply ae.ei | apply ae.bf | exact ae.bb _⟩
def u9(x0:(List Reach))(x1:(Reach→Option Bool)):Option Int :=
 (gH (O:=(Unit ⊕ Int)) (λ (a:Int) =>
 af (decide (a < (x0.length:Int)))
 ((idx x0 a).bind λ b =>
 (x1 b).bind λ c =>
 af c
 (some (.inr (.inr a)))
 (some (.inl (i64 (a+1)))))
 (some (.inr (.inl ())))) 0).bind (Sum.elim (λ (_:Unit) =>
 some (-1))
  (λ q=>some q))
theorem Jr(x0:(List Reach)){x1 a:(Reach→Option Bool)}(b:∀ y,ae (x1 y) (a y)):ae (u9 x0 x1) (qL x0 a):=by
 unfold u9 qL
 with_reducible repeat' first | exact ae.bb _ | refine ae.c0 λ _=>?_ | refine ae.af ?_ ?_ | refine ae.ei (λ _=>?_) (λ _=>?_) _ | exact b _ | exact c _ _ | refine ae.bf ?_ λ _=>?_
def y5(x0:(List Reach))(x1:(Reach→Option Bool)):Option Bool :=
 (u9 x0 x1).bind λ a =>
 some (decide (a ≥ 0))
theorem Jo(x0:(List Reach)){x1 a:(Reach→Option Bool)}(b:∀ y,ae (x1 y) (a y)):ae (y5 x0 x1) (o2 x0 a):=by
 unfold y5 o2
 with_reducible repeat' first | exact ae.bb _ | refine Jr _ (λ _=>?_) | exact b _ | exact c _ _ | refine ae.bf ?_ λ _=>?_
def d273(x0:Reach)(x1:Int)(x2:Int)(x3:Int):{c // ae c (nM x0 x1 x2 x3)}:=⟨_,by
 unfold nM
 with_reducible repeat' first | intro _ | apply ae.af | apply ae.bf | exact ae.bb _⟩
def d272(x0:Reach):{c // ae c (nL x0)}:=⟨_,by
 unfold nL
 with_reducible repeat' first | intro _ | apply (d273 _ _ _ _).2 | apply ae.bf | exact ae.bb _⟩
def d267(x0:aj):{c // ae c (nG x0)}:=⟨_,by
 unfold nG
 with_reducible repeat' first | intro _ | apply (d139 _ _ _).2 | apply Jo | apply (d272 _).2 | apply ae.af | apply ae.bf | exact ae.bb _⟩
def vb(x0:(List cN))(x1:(cN→Option Bool)):Option Int :=
 (gH (O:=(Unit ⊕ Int)) (λ (a:Int) =>
 af (decide (a < (x0.length:Int)))
 ((idx x0 a).bind λ b =>
 (x1 b).bind λ c =>
 af c
 (some (.inr (.inr a)))
 (some (.inl (i64 (a+1)))))
 (some (.inr (.inl ())))) 0).bind (Sum.elim (λ (_:Unit) =>
 some (-1))
  (λ q=>some q))
theorem Js(x0:(List cN)){x1 a:(cN→Option Bool)}(b:∀ y,ae (x1 y) (a y)):ae (vb x0 x1) (qM x0 a):=by
 unfold vb qM
 with_reducible repeat' first | exact ae.bb _ | refine ae.c0 λ _=>?_ | refine ae.af ?_ ?_ | refine ae.ei (λ _=>?_) (λ _=>?_) _ | exact b _ | exact c _ _ | refine ae.bf ?_ λ _=>?_
def y6(x0:(List cN))(x1:(cN→Option Bool)):Option Bool :=
 (vb x0 x1).bind λ a =>
 some (decide (a ≥ 0))
theorem Jq(x0:(List cN)){x1 a:(cN→Option Bool)}(b:∀ y,ae (x1 y) (a y)):ae (y6 x0 x1) (o3 x0 a):=by
 unfold y6 o3
 with_reducible repeat' first | exact ae.bb _ | refine Js _ (λ _=>?_) | exact b _ | exact c _ _ | refine ae.bf ?_ λ _=>?_
def d276(x0:cN)(x1:cN):{c // ae c (nN x0 x1)}:=⟨_,by
 unfold nN
 with_reducible repeat' first | intro _ | apply ae.bf | exact ae.bb _⟩
def d268(x0:aj):{c // ae c (nH x0)}:=⟨_,by
 unfold nH
 with_reducible repeat' first | intro _ | apply (d139 _ _ _).2 | apply Jp | apply Jq | apply (d276 _ _).2 | apply ae.c0 | apply ae.af | apply ae.ei | apply ae.bf | exact ae.bb _⟩
def d107(x0:Int)(x1:Int):{c // ae c (gY x0 x1)}:=⟨_,by
 unfold gY
 with_reducible repeat' first | intro _ | apply (d139 _ _ _).2 | apply ae.af | apply ae.bf | exact ae.bb _⟩
abbrev yD(x0:Int)(x1:Int):=(d107 x0 x1).1
theorem IN(x0:Int)(x1:Int):ae (yD x0 x1) (gY x0 x1):=(d107 x0 x1).2
def d269(x0:aj):{c // ae c (nI x0)}:=⟨_,by
 unfold nI
 with_reducible repeat' first | intro _ | apply (d107 _ _).2 | apply (d139 _ _ _).2 | apply ae.c0 | apply ae.af | apply ae.ei | apply ae.bf | exact ae.bb _⟩
def d270(x0:aj):{c // ae c (nK x0)}:=⟨_,by
 unfold nK
 with_reducible repeat' first | intro _ | apply (d107 _ _).2 | apply (d139 _ _ _).2 | apply ae.c0 | apply ae.af | apply ae.ei | apply ae.bf | exact ae.bb _⟩
def d82(x0:aj):{c // ae c (g0 x0)}:=⟨_,by
 unfold g0
 with_reducible repeat' first | intro _ | apply (d265 _).2 | apply (d266 _).2 | apply (d267 _).2 | apply (d268 _).2 | apply (d269 _).2 | apply (d270 _).2 | apply ae.af | apply ae.bf | exact ae.bb _⟩
abbrev vk(x0:aj):=(d82 x0).1
theorem AQ(x0:aj):ae (vk x0) (g0 x0):=(d82 x0).2
def u1 (x1:(aY→((List aY) ⊕ Empty)→Option (((List aY) ⊕ Empty) × Bool))→((List aY) ⊕ Empty)→Option ((List aY) ⊕ Empty)):Option (List aY) :=
 (x1 (cY (λ (b:aY) (a:(List aY))=>(((dD a [b]).bind λ c =>
 some (.inl c)):Option ((List aY) ⊕ Empty)))) (.inl [])).bind (Sum.elim (λ (a:(List aY)) =>
 some a)
  (λ (o:Empty)=>o.elim))
theorem IZ{x1 b:(aY→((List aY) ⊕ Empty)→Option (((List aY) ⊕ Empty) × Bool))→((List aY) ⊕ Empty)→Option ((List aY) ⊕ Empty)}(a:∀ ys c,(∀ y s,ae (ys y s) (c y s))→∀ s,ae (x1 ys s) (b c s)):ae (u1 x1) (oQ b):=by
 unfold u1 oQ
 with_reducible repeat' first | exact ae.bb _ | refine ae.ei (λ _=>?_) (λ _=>?_) _ | refine ae.cY (λ _ _=>?_) _ _ | refine a _ _ (λ _ _=>?_) _ | exact a | exact d _ _ | refine ae.bf ?_ λ _=>?_
def rR (x0:(aY→((List aY) ⊕ Empty)→Option (((List aY) ⊕ Empty) × Bool))→((List aY) ⊕ Empty)→Option ((List aY) ⊕ Empty)):Option (List aY) :=
 (u1 x0).bind λ a =>
 some a
theorem wx{x0 b:(aY→((List aY) ⊕ Empty)→Option (((List aY) ⊕ Empty) × Bool))→((List aY) ⊕ Empty)→Option ((List aY) ⊕ Empty)}(a:∀ ys c,(∀ y s,ae (ys y s) (c y s))→∀ s,ae (x0 ys s) (b c s)):ae (rR x0) (lb b):=by
 unfold rR lb
 with_reducible repeat' first | exact ae.bb _ | refine IZ (λ _ _ d _=>?_) | refine a _ _ (λ _ _=>?_) _ | exact a | exact d _ _ | refine ae.bf ?_ λ _=>?_
def u6(x0:(List b7))(x1:(b7→Option Bool)):Option Int :=
 (gH (O:=(Unit ⊕ Int)) (λ (a:Int) =>
 af (decide (a < (x0.length:Int)))
 ((idx x0 a).bind λ b =>
 (x1 b).bind λ c =>
 af c
 (some (.inr (.inr a)))
 (some (.inl (i64 (a+1)))))
 (some (.inr (.inl ())))) 0).bind (Sum.elim (λ (_:Unit) =>
 some (-1))
  (λ q=>some q))
theorem I7(x0:(List b7)){x1 a:(b7→Option Bool)}(b:∀ y,ae (x1 y) (a y)):ae (u6 x0 x1) (qI x0 a):=by
 unfold u6 qI
 with_reducible repeat' first | exact ae.bb _ | refine ae.c0 λ _=>?_ | refine ae.af ?_ ?_ | refine ae.ei (λ _=>?_) (λ _=>?_) _ | exact b _ | exact c _ _ | refine ae.bf ?_ λ _=>?_
def yR(x0:(List b7))(x1:(b7→Option Bool)):Option Bool :=
 (u6 x0 x1).bind λ a =>
 some (decide (a ≥ 0))
theorem I5(x0:(List b7)){x1 a:(b7→Option Bool)}(b:∀ y,ae (x1 y) (a y)):ae (yR x0 x1) (oZ x0 a):=by
 unfold yR oZ
 with_reducible repeat' first | exact ae.bb _ | refine I7 _ (λ _=>?_) | exact b _ | exact c _ _ | refine ae.bf ?_ λ _=>?_
def d187(x0:b7)(x1:aY):{c // ae c (nB x0 x1)}:=⟨_,by
 unfold nB
 with_reducible repeat' first | intro _ | apply ae.bf | exact ae.bb _⟩
def d162(x0:aj)(x1:aY):{c // ae c (ma x0 x1)}:=⟨_,by
 unfold ma
 with_reducible repeat' first | intro _ | apply I5 | apply (d187 _ _).2 | apply ae.bf | exact ae.bb _⟩
abbrev yM(x0:aj)(x1:aY):=(d162 x0 x1).1
theorem I0(x0:aj)(x1:aY):ae (yM x0 x1) (ma x0 x1):=(d162 x0 x1).2
def rL{S:Type}(ys:aY→S→Option (S × Bool)):Nat→Int→aj→aY→S→Option (S × (aY × Bool))
 | 0,_,_,_,_=>none
 | k+1,x0,x1,x2,s0 =>
  af (x0 == (x1.aD.length:Int))
  (((((yM x1 x2).bind λ f =>
  af (!f)
  (some (s0,true))
  ((ys x2 s0).bind λ e =>
  some (e.1,e.2))):Option (S × Bool))).bind (λ (c:(S × Bool)) =>
  some (c.1,(x2,c.2))))
  ((idx x1.aD x0).bind λ g =>
  (gH (O:=((S × (List Int)) ⊕ (S × (aY × Bool)))) (λ (a:(S × Int × (List Int))) =>
  (idx x1.aD x0).bind λ h =>
  af (decide (a.2.1≤h.bT))
  ((idx a.2.2 x0).bind λ _ =>
  (rL ys k (i64 (x0+1)) x1 (⟨a.2.2.set x0.toNat a.2.1⟩:aY) a.1).bind λ b =>
  af (!b.2.2)
  (some (.inr (.inr (b.1,(b.2.1,false)))))
  (some (.inl (b.1,i64 (a.2.1+1),b.2.1.deep))))
  (some (.inr (.inl (a.1,a.2.2))))) (s0,g.bJ,x2.deep)).bind (Sum.elim (λ (d:(S × (List Int))) =>
  some (d.1,((⟨d.2⟩:aY),true)))
   (λ q=>some q)))
theorem AL{S:Type}{ys a:aY→S→Option (S × Bool)}(h:∀ y s,ae (ys y s) (a y s)):∀ k x0 x1 x2 s0,ae (rL ys k x0 x1 x2 s0) (ie a k x0 x1 x2 s0)
 | 0,_,_,_,_=>ae.none
 | k+1,x0,x1,x2,s0=>by
  have b:=AL h k
  rw [rL,ie]
  with_reducible repeat' first | exact ae.bb _ | refine ae.c0 λ _=>?_ | refine ae.af ?_ ?_ | refine ae.ei (λ _=>?_) (λ _=>?_) _ | exact I0 _ _ | exact h _ _ | exact b _ _ _ _ | refine ae.bf ?_ λ _=>?_
def rS{S:Type}(ys:aY→S→Option (S × Bool))(x0:aj)(s0:S):Option S :=
 (rL ys 9 0 x0 (⟨[0,0,0]⟩:aY) s0).bind λ a =>
  some a.1
theorem sZ{S:Type}{ys a:aY→S→Option (S × Bool)}(h:∀ y s,ae (ys y s) (a y s))(x0:aj)(s0:S):ae (rS ys x0 s0) (gr a x0 s0):=by
 unfold rS gr
 with_reducible repeat' first | exact ae.bb _ | refine AL (λ _ _=>?_) _ _ _ _ _ | exact h _ _ | refine ae.bf ?_ λ _=>?_
def d23(x0:aj):{c // ae c (kR x0)}:=⟨_,by
 unfold kR
 with_reducible repeat' first | intro _ | apply (d82 _).2 | apply wx | apply sZ | apply ae.af | apply ae.bf | exact ae.bb _ | exact ‹∀ _ _,ae _ _› _ _⟩
abbrev y2(x0:aj):=(d23 x0).1
theorem Jj(x0:aj):ae (y2 x0) (kR x0):=(d23 x0).2
def zh(x0:aj)(x1:(aj→Option Int)):Option (bF × Int) :=
 (vk x0).bind λ a =>
 af (a != 0)
 (some ((⟨⟨0,[],[],[],[],[]⟩,[]⟩:bF),a))
 ((x1 x0).bind λ b =>
 af (b != 0)
 (some ((⟨⟨0,[],[],[],[],[]⟩,[]⟩:bF),b))
 ((rR (λ y s=>rS y x0 s)).bind λ c =>
 af ((c.length:Int) == 0)
 (some ((⟨⟨0,[],[],[],[],[]⟩,[]⟩:bF),9))
 (some ((⟨⟨x0.Rest,x0.Rows,x0.aD,x0.az,x0.av,x0.aQ⟩,c⟩:bF),0))))
theorem kG(x0:aj){x1 a:(aj→Option Int)}(b:∀ y,ae (x1 y) (a y)):ae (zh x0 x1) (g1 x0 a):=by
 unfold zh g1
 with_reducible repeat' first | exact ae.bb _ | refine ae.af ?_ ?_ | exact AQ _ | refine wx (λ _ _ c _=>?_) | refine sZ (λ _ _=>?_) _ _ | exact b _ | exact c _ _ | refine ae.bf ?_ λ _=>?_
def d163(x0:aj)(x1:Int):{c // ae c (hG x0 x1)}:=⟨_,by
 unfold hG
 with_reducible repeat' first | intro _ | apply (d107 _ _).2 | apply ae.bf | exact ae.bb _⟩
def d95(x0:Int):{c // ae c (mw x0)}:=⟨_,by
 unfold mw
 with_reducible repeat' first | intro _ | apply ae.bf | exact ae.bb _⟩
def d235(x0:Int):{c // ae c (kS x0)}:=⟨_,by
 unfold kS
 with_reducible repeat' first | intro _ | apply ae.bf | exact ae.bb _⟩
def d221(x0:Int)(x1:Int):{c // ae c (dE x0 x1)}:=⟨_,by
 unfold dE
 with_reducible repeat' first | intro _ | apply (d235 _).2 | apply ae.af | apply ae.bf | exact ae.bb _⟩
abbrev yZ(x0:Int)(x1:Int):=(d221 x0 x1).1
theorem Jg(x0:Int)(x1:Int):ae (yZ x0 x1) (dE x0 x1):=(d221 x0 x1).2
def d215(x0:(List Int))(x1:Int)(x2:Int):{c // ae c (mf x0 x1 x2)}:=⟨_,by
 unfold mf
 with_reducible repeat' first | intro _ | apply (d221 _ _).2 | apply ae.c0 | apply ae.af | apply ae.bf | exact ae.bb _⟩
abbrev yS(x0:(List Int))(x1:Int)(x2:Int):=(d215 x0 x1 x2).1
theorem I8(x0:(List Int))(x1:Int)(x2:Int):ae (yS x0 x1 x2) (mf x0 x1 x2):=(d215 x0 x1 x2).2
def d236(x0:(List Int))(x1:Int)(x2:Int)(x3:Int):{c // ae c (mo x0 x1 x2 x3)}:=⟨_,by
 unfold mo
 with_reducible repeat' first | intro _ | apply (d221 _ _).2 | apply ae.c0 | apply ae.af | apply ae.ei | apply ae.bf | exact ae.bb _⟩
def d216(x0:(List Int))(x1:Int)(x2:Int):{c // ae c (mg x0 x1 x2)}:=⟨_,by
 unfold mg
 with_reducible repeat' first | intro _ | apply (d236 _ _ _ _).2 | apply ae.c0 | apply ae.af | apply ae.bf | exact ae.bb _⟩
abbrev yT(x0:(List Int))(x1:Int)(x2:Int):=(d216 x0 x1 x2).1
theorem I9(x0:(List Int))(x1:Int)(x2:Int):ae (yT x0 x1 x2) (mg x0 x1 x2):=(d216 x0 x1 x2).2
def d225(x0:Int):{c // ae c (qJ x0)}:=⟨_,by
 unfold qJ
 with_reducible repeat' first | intro _ | apply ae.af | apply ae.bf | exact ae.bb _⟩
def d189(x0:Int):{c // ae c (me x0)}:=⟨_,by
 unfold me
 with_reducible repeat' first | intro _ | apply (d225 _).2 | apply ae.bf | exact ae.bb _⟩
abbrev u3(x0:Int):=(d189 x0).1
theorem I6(x0:Int):ae (u3 x0) (me x0):=(d189 x0).2
def d237(x0:Int):{c // ae c (nD x0)}:=⟨_,by
 unfold nD
 with_reducible repeat' first | intro _ | apply (d189 _).2 | apply ae.bf | exact ae.bb _⟩
abbrev u7(x0:Int):=(d237 x0).1
theorem Jk(x0:Int):ae (u7 x0) (nD x0):=(d237 x0).2
def d238(x0:Int):{c // ae c (nE x0)}:=⟨_,by
 unfold nE
 with_reducible repeat' first | intro _ | apply ae.bf | exact ae.bb _⟩
def d217(x0:(List Int))(x1:Int)(x2:Int):{c // ae c (kP x0 x1 x2)}:=⟨_,by
 unfold kP
 with_reducible repeat' first | intro _ | apply (d237 _).2 | apply (d238 _).2 | apply ae.c0 | apply ae.af | apply ae.bf | exact ae.bb _⟩
abbrev yU(x0:(List Int))(x1:Int)(x2:Int):=(d217 x0 x1 x2).1
theorem Ja(x0:(List Int))(x1:Int)(x2:Int):ae (yU x0 x1 x2) (kP x0 x1 x2):=(d217 x0 x1 x2).2
def d248(x0:(List Int))(x1:Int)(x2:Int)(x3:Int):{c // ae c (iI x0 x1 x2 x3)}:=⟨_,by
 unfold iI
 with_reducible repeat' first | intro _ | apply (d221 _ _).2 | apply ae.af | apply ae.bf | exact ae.bb _⟩
def d240(x0:(List Int))(x1:Int)(x2:Int)(x3:Int)(x4:Int):{c // ae c (jy x0 x1 x2 x3 x4)}:=⟨_,by
 unfold jy
 with_reducible repeat' first | intro _ | apply (d248 _ _ _ _).2 | apply ae.bf | exact ae.bb _⟩
def d239(x0:(List Int))(x1:Int)(x2:Int):{c // ae c (iH x0 x1 x2)}:=⟨_,by
 unfold iH
 with_reducible repeat' first | intro _ | apply (d240 _ _ _ _ _).2 | apply ae.bf | exact ae.bb _⟩
def d218(x0:(List Int))(x1:Int)(x2:Int):{c // ae c (mh x0 x1 x2)}:=⟨_,by
 unfold mh
 with_reducible repeat' first | intro _ | apply (d239 _ _ _).2 | apply (d240 _ _ _ _ _).2 | apply ae.af | apply ae.bf | exact ae.bb _⟩
abbrev yV(x0:(List Int))(x1:Int)(x2:Int):=(d218 x0 x1 x2).1
theorem Jb(x0:(List Int))(x1:Int)(x2:Int):ae (yV x0 x1 x2) (mh x0 x1 x2):=(d218 x0 x1 x2).2
def d219(x0:(List Int))(x1:Int)(x2:Int):{c // ae c (kQ x0 x1 x2)}:=⟨_,by
 unfold kQ
 with_reducible repeat' first | intro _ | apply ae.c0 | apply ae.af | apply ae.bf | exact ae.bb _⟩
abbrev yW(x0:(List Int))(x1:Int)(x2:Int):=(d219 x0 x1 x2).1
theorem Jc(x0:(List Int))(x1:Int)(x2:Int):ae (yW x0 x1 x2) (kQ x0 x1 x2):=(d219 x0 x1 x2).2
def d220(x0:(List Int))(x1:Int)(x2:Int):{c // ae c (j4 x0 x1 x2)}:=⟨_,by
 unfold j4
 with_reducible repeat' first | intro _ | apply (d221 _ _).2 | apply ae.c0 | apply ae.af | apply ae.ei | apply ae.bf | exact ae.bb _⟩
abbrev yY(x0:(List Int))(x1:Int)(x2:Int):=(d220 x0 x1 x2).1
theorem Jf(x0:(List Int))(x1:Int)(x2:Int):ae (yY x0 x1 x2) (j4 x0 x1 x2):=(d220 x0 x1 x2).2
def d222(x0:(List Int))(x1:Int)(x2:Int)(x3:Int):{c // ae c (ml x0 x1 x2 x3)}:=⟨_,by
 unfold ml
 with_reducible repeat' first | intro _ | apply (d221 _ _).2 | apply ae.c0 | apply ae.af | apply ae.bf | exact ae.bb _⟩
abbrev y0(x0:(List Int))(x1:Int)(x2:Int)(x3:Int):=(d222 x0 x1 x2 x3).1
theorem Jh(x0:(List Int))(x1:Int)(x2:Int)(x3:Int):ae (y0 x0 x1 x2 x3) (ml x0 x1 x2 x3):=(d222 x0 x1 x2 x3).2
def d223(x0:(List Int))(x1:Int)(x2:Int)(x3:Int):{c // ae c (mm x0 x1 x2 x3)}:=⟨_,by
 unfold mm
 with_reducible repeat' first | intro _ | apply (d221 _ _).2 | apply ae.c0 | apply ae.af | apply ae.bf | exact ae.bb _⟩
abbrev y1(x0:(List Int))(x1:Int)(x2:Int)(x3:Int):=(d223 x0 x1 x2 x3).1
theorem Ji(x0:(List Int))(x1:Int)(x2:Int)(x3:Int):ae (y1 x0 x1 x2 x3) (mm x0 x1 x2 x3):=(d223 x0 x1 x2 x3).2
def rN:Nat→(List Int)→Int→Int→Int→Option (List Int)
 | 0,_,_,_,_=>none
 | k+1,x0,x1,x2,x3 =>
  (gH (O:=(List Int)) (λ (a:((List Int) × Int × Int × Int × Bool × Bool)) =>
  af (decide (i64 (a.2.2.1 - a.2.1)≤12))
  ((yS a.1 a.2.1 a.2.2.1).bind λ m =>
  some (.inr m))
  (af (a.2.2.2.1 == 0)
  ((yT a.1 a.2.1 a.2.2.1).bind λ n =>
  some (.inr n))
  ((((af (!a.2.2.2.2.1)
  ((yU a.1 a.2.1 a.2.2.1).bind λ o =>
  some (o,i64 (a.2.2.2.1 - 1)))
  (some (a.1,a.2.2.2.1))):Option ((List Int) × Int))).bind (λ (c:((List Int) × Int)) =>
  (yV c.1 a.2.1 a.2.2.1).bind λ f =>
  (((af (f.2 == 2)
  ((yW c.1 a.2.1 a.2.2.1).bind λ p =>
  some (p,i64 ((i64 (a.2.2.1 - 1)) - (i64 (f.1 - a.2.1))),1))
  (some (c.1,f.1,f.2))):Option ((List Int) × Int × Int))).bind (λ (d:((List Int) × Int × Int)) =>
  (((af a.2.2.2.2.1
  (af a.2.2.2.2.2
  (some (d.2.2 == 1))
  (some false))
  (some false)):Option Bool)).bind (λ (j:Bool) =>
  (((af j
  ((yY d.1 a.2.1 a.2.2.1).bind λ g =>
  af g.2
  (some (.inr g.1))
  (some (.inl g.1)))
  (some (.inl d.1))):Option ((List Int) ⊕ (List Int)))).bind (Sum.elim (λ (e:(List Int)) =>
  (((af (decide (a.2.1 > 0))
  ((idx e (i64 (a.2.1 - 1))).bind λ r =>
  (idx e d.2.1).bind λ s =>
  (yZ r s).bind λ t =>
  some (!t))
  (some false)):Option Bool)).bind (λ (l:Bool) =>
  af l
  ((y0 e a.2.1 a.2.2.1 d.2.1).bind λ h =>
  some (.inl (h.1,h.2,a.2.2.1,c.2,a.2.2.2.2.1,a.2.2.2.2.2)))
  ((y1 e a.2.1 a.2.2.1 d.2.1).bind λ b =>
  (gv (i64 (a.2.2.1 - a.2.1)) 8).bind λ i =>
  af (decide (i64 (b.2.1 - a.2.1) < i64 (a.2.2.1 - b.2.1)))
  ((rN k b.1 a.2.1 b.2.1 c.2).bind λ u =>
  some (.inl (u,i64 (b.2.1+1),a.2.2.1,c.2,decide (i64 (b.2.1 - a.2.1) ≥ i),b.2.2)))
  ((rN k b.1 (i64 (b.2.1+1)) a.2.2.1 c.2).bind λ v =>
  some (.inl (v,a.2.1,b.2.1,c.2,decide (i64 (a.2.2.1 - b.2.1) ≥ i),b.2.2))))))
   (λ q=>some (.inr q))))))))) (x0,x1,x2,x3,true,true)).bind (λ q=>some q)
theorem AO:∀ k x0 x1 x2 x3,ae (rN k x0 x1 x2 x3) (jx k x0 x1 x2 x3)
 | 0,_,_,_,_=>ae.none
 | k+1,x0,x1,x2,x3=>by
  have a:=AO k
  rw [rN,jx]
  with_reducible repeat' first | exact ae.bb _ | refine ae.c0 λ _=>?_ | refine ae.af ?_ ?_ | refine ae.ei (λ _=>?_) (λ _=>?_) _ | exact I8 _ _ _ | exact I9 _ _ _ | exact Ja _ _ _ | exact Jb _ _ _ | exact Jc _ _ _ | exact Jf _ _ _ | exact Jg _ _ | exact Jh _ _ _ _ | exact Ji _ _ _ _ | exact a _ _ _ _ | refine ae.bf ?_ λ _=>?_
def d164(x0:(List Int)):{c // ae c (mb x0)}:=⟨_,by
 unfold mb
 with_reducible repeat' first | intro _ | apply AO | apply (d189 _).2 | apply ae.bf | exact ae.bb _⟩
abbrev yN(x0:(List Int)):=(d164 x0).1
theorem I1(x0:(List Int)):ae (yN x0) (mb x0):=(d164 x0).2
def d165(x0:(List Int)):{c // ae c (mc x0)}:=⟨_,by
 unfold mc
 with_reducible repeat' first | intro _ | apply ae.c0 | apply ae.af | apply ae.ei | apply ae.bf | exact ae.bb _⟩
abbrev yO(x0:(List Int)):=(d165 x0).1
theorem I2(x0:(List Int)):ae (yO x0) (mc x0):=(d165 x0).2
def zi(x0:bF)(x1:(aY→Option Int)):Option (List Int) :=
 (gH (O:=(List Int)) (λ (a:((List Int) × Int)) =>
 af (decide (a.2 < (x0.cG.length:Int)))
 ((idx x0.cG a.2).bind λ c =>
 (x1 c).bind λ d =>
 (dD a.1 [d]).bind λ e =>
 some (.inl (e,i64 (a.2+1))))
 (some (.inr a.1))) ([],0)).bind (λ (b:(List Int)) =>
 (yN b).bind λ f =>
 (yO f).bind λ g =>
 some g)
theorem AR(x0:bF){x1 a:(aY→Option Int)}(b:∀ y,ae (x1 y) (a y)):ae (zi x0 x1) (mx x0 a):=by
 unfold zi mx
 with_reducible repeat' first | exact ae.bb _ | refine ae.c0 λ _=>?_ | refine ae.af ?_ ?_ | exact I1 _ | exact I2 _ | exact b _ | exact c _ _ | refine ae.bf ?_ λ _=>?_
def d97(x0:aY)(x1:Int):{c // ae c (nR x0 x1)}:=⟨_,by
 unfold nR
 with_reducible repeat' first | intro _ | apply ae.bf | exact ae.bb _⟩
def d25(x0:aj)(x1:Int):{c // ae c (kT x0 x1)}:=⟨_,by
 unfold kT
 with_reducible repeat' first | intro _ | apply kG | apply (d95 _).2 | apply AR | apply (d97 _ _).2 | apply (d163 _ _).2 | apply ae.af | apply ae.bf | exact ae.bb _⟩
abbrev y3(x0:aj)(x1:Int):=(d25 x0 x1).1
theorem Jl(x0:aj)(x1:Int):ae (y3 x0 x1) (kT x0 x1):=(d25 x0 x1).2
def d103(x0:aY)(x1:bF)(x2:Int):{c // ae c (nk x0 x1 x2)}:=⟨_,by
 unfold nk
 with_reducible repeat' first | intro _ | apply (d104 _ _).2 | apply ae.bf | exact ae.bb _⟩
def d28(x0:aj)(x1:Int):{c // ae c (kV x0 x1)}:=⟨_,by
 unfold kV
 with_reducible repeat' first | intro _ | apply kG | apply (d95 _).2 | apply AR | apply (d103 _ _ _).2 | apply (d163 _ _).2 | apply ae.af | apply ae.bf | exact ae.bb _⟩
abbrev y7(x0:aj)(x1:Int):=(d28 x0 x1).1
theorem Jt(x0:aj)(x1:Int):ae (y7 x0 x1) (kV x0 x1):=(d28 x0 x1).2
def d106(x0:aj)(x1:Int)(x2:Int):{c // ae c (l7 x0 x1 x2)}:=⟨_,by
 unfold l7
 with_reducible repeat' first | intro _ | apply (d107 _ _).2 | apply ae.bf | exact ae.bb _⟩
def d108(x0:bF)(x1:Int):{c // ae c (kH x0 x1)}:=⟨_,by
 unfold kH
 with_reducible repeat' first | intro _ | apply ae.af | apply ae.bf | exact ae.bb _⟩
abbrev yE(x0:bF)(x1:Int):=(d108 x0 x1).1
theorem IP(x0:bF)(x1:Int):ae (yE x0 x1) (kH x0 x1):=(d108 x0 x1).2
def d110(x0:aY)(x1:bF)(x2:Int)(x3:Int):{c // ae c (nm x0 x1 x2 x3)}:=⟨_,by
 unfold nm
 with_reducible repeat' first | intro _ | apply (d111 _ _ _ _).2 | apply ae.bf | exact ae.bb _⟩
def d30(x0:aj)(x1:Int)(x2:Int):{c // ae c (jz x0 x1 x2)}:=⟨_,by
 unfold jz
 with_reducible repeat' first | intro _ | apply kG | apply (d106 _ _ _).2 | apply (d108 _ _).2 | apply sX | apply (d110 _ _ _ _).2 | apply ae.af | apply ae.bf | exact ae.bb _⟩
abbrev rO(x0:aj)(x1:Int)(x2:Int):=(d30 x0 x1 x2).1
theorem Ju(x0:aj)(x1:Int)(x2:Int):ae (rO x0 x1 x2) (jz x0 x1 x2):=(d30 x0 x1 x2).2
def d132(x0:(List Int)):{c // ae c (nt x0)}:=⟨_,by
 unfold nt
 with_reducible repeat' first | intro _ | apply ae.c0 | apply ae.af | apply ae.bf | exact ae.bb _⟩
abbrev yK(x0:(List Int)):=(d132 x0).1
theorem IX(x0:(List Int)):ae (yK x0) (nt x0):=(d132 x0).2
def uX(x0:aj)(x1:(List (List Int))):Option ((List Bool) × Int) :=
 af ((x1.length:Int) != (x0.av.length:Int))
 (some ([false,false,false,false,false,false,false,false,false,false,false,false,false,false,false,false],2))
 ((gH (O:=((List Bool) ⊕ ((List Bool) × Int))) (λ (a:(Int × (List Bool))) =>
 af (decide (a.1 < (x1.length:Int)))
 ((idx x1 a.1).bind λ c =>
 (idx x0.av a.1).bind λ h =>
 af ((c.length:Int) != h.az)
 (some (.inr (.inr ([false,false,false,false,false,false,false,false,false,false,false,false,false,false,false,false],2))))
 ((gH (O:=(Unit ⊕ ((List Bool) × Int))) (λ (b:Int) =>
 af (decide (b < (c.length:Int)))
 ((idx c b).bind λ d =>
 (yD d (x0.az.length:Int)).bind λ e =>
 af (e != 0)
 (some (.inr (.inr ([false,false,false,false,false,false,false,false,false,false,false,false,false,false,false,false],e))))
 ((((af (decide (b > 0))
 ((idx c (i64 (b - 1))).bind λ i =>
 some (decide (d≤i)))
 (some false)):Option Bool)).bind (λ (g:Bool) =>
 af g
 (some (.inr (.inr ([false,false,false,false,false,false,false,false,false,false,false,false,false,false,false,false],7))))
 (some (.inl (i64 (b+1)))))))
 (some (.inr (.inl ())))) 0).bind (Sum.elim (λ (_:Unit) =>
 (yK c).bind λ j =>
 (dF 4 a.2 a.1).bind λ _ =>
 some (.inl (i64 (a.1+1),ps 4 a.2 a.1 j)))
  (λ q=>some (.inr (.inr q))))))
 (some (.inr (.inl a.2)))) (0,[false,false,false,false,false,false,false,false,false,false,false,false,false,false,false,false])).bind (Sum.elim (λ (f:(List Bool)) =>
 some (f,0))
  (λ q=>some q)))
theorem IT(x0:aj)(x1:(List (List Int))):ae (uX x0 x1) (qy x0 x1):=by
 unfold uX qy
 with_reducible repeat' first | exact ae.bb _ | refine ae.c0 λ _=>?_ | refine ae.af ?_ ?_ | refine ae.ei (λ _=>?_) (λ _=>?_) _ | exact IN _ _ | exact IX _ | exact a _ _ | refine ae.bf ?_ λ _=>?_
def uW(x0:aj)(x1:(List (List Int)))(_:(List Bool)):Option ((List Bool) × Int) :=
 (uX x0 x1).bind λ a =>
 some (a.1,a.2)
theorem IS(x0:aj)(x1:(List (List Int)))(x2:(List Bool)):ae (uW x0 x1 x2) (qx x0 x1 x2):=by
 unfold uW qx
 with_reducible repeat' first | exact ae.bb _ | exact IT _ _ | exact a _ _ | refine ae.bf ?_ λ _=>?_
def d149(x0:aj)(x1:Int)(x2:Int):{c // ae c (l9 x0 x1 x2)}:=⟨_,by
 unfold l9
 with_reducible repeat' first | intro _ | apply ae.af | apply ae.bf | exact ae.bb _⟩
def d117(x0:aj)(x1:(List Bool))(x2:Int):{c // ae c (kK x0 x1 x2)}:=⟨_,by
 unfold kK
 with_reducible repeat' first | intro _ | apply (d149 _ _ _).2 | apply ae.c0 | apply ae.af | apply ae.ei | apply ae.bf | exact ae.bb _⟩
abbrev uY(x0:aj)(x1:(List Bool))(x2:Int):=(d117 x0 x1 x2).1
theorem wo(x0:aj)(x1:(List Bool))(x2:Int):ae (uY x0 x1 x2) (kK x0 x1 x2):=(d117 x0 x1 x2).2
def d118(x0:aY)(x1:aj)(x2:(List Bool))(x3:bF):{c // ae c (np x0 x1 x2 x3)}:=⟨_,by
 unfold np
 with_reducible repeat' first | intro _ | apply (d111 _ _ _ _).2 | apply ae.c0 | apply ae.af | apply ae.ei | apply ae.bf | exact ae.bb _⟩
abbrev yF(x0:aY)(x1:aj)(x2:(List Bool))(x3:bF):=(d118 x0 x1 x2 x3).1
theorem IU(x0:aY)(x1:aj)(x2:(List Bool))(x3:bF):ae (yF x0 x1 x2 x3) (np x0 x1 x2 x3):=(d118 x0 x1 x2 x3).2
def uV(x0:aj)(e:(List (List Int)))(b:(List Bool)):Option ((List Bool) × bF × Int) :=
 (vk x0).bind λ c =>
 af (c != 0)
 (some (b,(⟨⟨0,[],[],[],[],[]⟩,[]⟩:bF),c))
 ((uW x0 e b).bind λ a =>
 af (a.2 != 0)
 (some (a.1,(⟨⟨0,[],[],[],[],[]⟩,[]⟩:bF),a.2))
 ((rR (λ y s=>rS y x0 s)).bind λ d =>
 af ((d.length:Int) == 0)
 (some (a.1,(⟨⟨0,[],[],[],[],[]⟩,[]⟩:bF),9))
 (some (a.1,(⟨⟨x0.Rest,x0.Rows,x0.aD,x0.az,x0.av,x0.aQ⟩,d⟩:bF),0))))
theorem IQ(x0:aj)(a:(List (List Int)))(b:(List Bool)):ae (uV x0 a b) (qw x0 a b):=by
 unfold uV qw
 with_reducible repeat' first | exact ae.bb _ | refine ae.af ?_ ?_ | exact AQ _ | refine wx (λ _ _ c _=>?_) | refine sZ (λ _ _=>?_) _ _ | exact IS _ _ _ | exact c _ _ | refine ae.bf ?_ λ _=>?_
def rP(x0:aj)(x1:(List (List Int))):Option (Int × Int) :=
 (uV x0 x1 [false,false,false,false,false,false,false,false,false,false,false,false,false,false,false,false]).bind λ a =>
 af (a.2.2 != 0)
 (some (0,a.2.2))
 ((gH (O:=(Unit ⊕ (Int × Int))) (λ (b:Int) =>
 af (decide (b < (x0.av.length:Int)))
 ((uY a.2.1.book a.1 b).bind λ c =>
 af (!c)
 (some (.inr (.inr (2,0))))
 (some (.inl (i64 (b+1)))))
 (some (.inr (.inl ())))) 0).bind (Sum.elim (λ (_:Unit) =>
 (rK a.2.1 (λ y=>yF y x0 a.1 a.2.1)).bind λ d =>
 (yE a.2.1 d).bind λ e =>
 some (e,0))
  (λ q=>some q)))
theorem Jv(x0:aj)(x1:(List (List Int))):ae (rP x0 x1) (m32 x0 x1):=by
 unfold rP m32
 with_reducible repeat' first | exact ae.bb _ | refine ae.c0 λ _=>?_ | refine ae.af ?_ ?_ | refine ae.ei (λ _=>?_) (λ _=>?_) _ | exact IP _ _ | refine sX _ (λ _=>?_) | exact wo _ _ _ | exact IU _ _ _ _ | exact IQ _ _ _ | exact a _ _ | refine ae.bf ?_ λ _=>?_
def d121(x0:aj):{c // ae c (gI x0)}:=⟨_,by
 unfold gI
 with_reducible repeat' first | intro _ | apply ae.bf | exact ae.bb _⟩
def lT{S:Type}(ys:(List Bool)→S→Option (S × Bool)):Nat→((List Bool)→Int→bF→Int→(List Bool)→(List Bool)→S→Option (S × Bool)) × ((List Bool)→Int→Int→Int→bF→Int→(List Bool)→(List Bool)→S→Option (S × Bool))
 | 0=>(λ _ _ _ _ _ _ _=>none,λ _ _ _ _ _ _ _ _ _=>none)
 | k+1=>(λ x0 x1 b e d c s0 =>
  af (x1 == (b.book.av.length:Int))
  ((ys x0 s0).bind λ i =>
  some (i.1,i.2))
  ((fa .i64 e x1).bind λ r =>
  (cO .and .i64 r 1).bind λ f =>
  af (f == 1)
  (((lT ys k).1 x0 (i64 (x1+1)) b e d c s0).bind λ l =>
  some (l.1,l.2))
  ((idx b.book.av x1).bind λ s =>
  ((lT ys k).2 x0 x1 0 s.az b e d c s0).bind λ m =>
  some (m.1,m.2))),
  λ x0 x1 x2 x3 b e d c s0 =>
  af (x3 == 0)
  (((((uY b.book x0 x1).bind λ f =>
  af (!f)
  (some (s0,true))
  (((lT ys k).1 x0 (i64 (x1+1)) b e d c s0).bind λ j =>
  some (j.1,j.2))):Option (S × Bool))).bind (λ (h:(S × Bool)) =>
  some (h.1,h.2)))
  ((gH (O:=(S ⊕ (S × Bool))) (λ (a:(S × Int × (List Bool))) =>
  af (decide (a.2.1 < (b.book.az.length:Int)))
  (((((idx d a.2.1).bind λ t =>
  af (!t)
  (some true)
  ((dF 4 c x1).bind λ u =>
  (idx u a.2.1).bind λ v =>
  some (!v))):Option Bool)).bind (λ (o:Bool) =>
  af o
  (some (.inl (a.1,i64 (a.2.1+1),a.2.2)))
  ((dF 4 a.2.2 x1).bind λ w =>
  (idx w a.2.1).bind λ _ =>
  ((lT ys k).2 (e9 4 a.2.2 x1 a.2.1 true) x1 (i64 (a.2.1+1)) (i64 (x3 - 1)) b e d c a.1).bind λ g =>
  af (!g.2)
  (some (.inr (.inr (g.1,false))))
  ((dF 4 (e9 4 a.2.2 x1 a.2.1 true) x1).bind λ p =>
  (idx p a.2.1).bind λ _ =>
  some (.inl (g.1,i64 (a.2.1+1),e9 4 (e9 4 a.2.2 x1 a.2.1 true) x1 a.2.1 false))))))
  (some (.inr (.inl a.1)))) (s0,x2,x0)).bind (Sum.elim (λ (n:S) =>
  some (n,true))
   (λ q=>some q))))
theorem AM{S:Type}{ys a:(List Bool)→S→Option (S × Bool)}(h:∀ y s,ae (ys y s) (a y s)):∀ k,(∀ x0 x1 x2 x3 x4 x5 s0,ae ((lT ys k).1 x0 x1 x2 x3 x4 x5 s0) ((eQ a k).1 x0 x1 x2 x3 x4 x5 s0))∧(∀ x0 x1 x2 x3 x4 x5 x6 x7 s0,ae ((lT ys k).2 x0 x1 x2 x3 x4 x5 x6 x7 s0) ((eQ a k).2 x0 x1 x2 x3 x4 x5 x6 x7 s0))
 | 0=>⟨λ _ _ _ _ _ _ _=>ae.none,λ _ _ _ _ _ _ _ _ _=>ae.none⟩
 | k+1=>by
  have b:=AM h k
  have c:=b.1
  have d:=b.2
  rw [lT,eQ]
  constructor
  ·intro x0 x1 x2 x3 x4 x5 s0
   dsimp only
   with_reducible repeat' first | exact ae.bb _ | refine ae.c0 λ _=>?_ | refine ae.af ?_ ?_ | refine ae.ei (λ _=>?_) (λ _=>?_) _ | exact wo _ _ _ | exact h _ _ | exact c _ _ _ _ _ _ _ | exact d _ _ _ _ _ _ _ _ _ | refine ae.bf ?_ λ _=>?_
  ·intro x0 x1 x2 x3 x4 x5 x6 x7 s0
   dsimp only
   repeat' (first | with_reducible exact ae.bb _ | with_reducible refine ae.c0 λ _=>?_ | with_reducible refine ae.af ?_ ?_ | with_reducible refine ae.ei (λ _=>?_) (λ _=>?_) _ | with_reducible refine ae.cY (λ _ _=>?_) _ _ | with_reducible exact wo _ _ _ | with_reducible exact h _ _ | with_reducible exact c _ _ _ _ _ _ _ | with_reducible exact d _ _ _ _ _ _ _ _ _ | with_reducible refine ae.bf ?_ λ _=>?_)
def yP{S:Type}(ys:(List Bool)→S→Option (S × Bool))(x1:bF)(x2:Int)(x3:(List Bool))(x4:(List Bool))(s0:S):Option S :=
 ((lT ys 40).1 [false,false,false,false,false,false,false,false,false,false,false,false,false,false,false,false] 0 x1 x2 x3 x4 s0).bind λ a =>
  some a.1
theorem sY{S:Type}{ys a:(List Bool)→S→Option (S × Bool)}(h:∀ y s,ae (ys y s) (a y s))(x1:bF)(x2:Int)(x3:(List Bool))(x4:(List Bool))(s0:S):ae (yP ys x1 x2 x3 x4 s0) (gZ a x1 x2 x3 x4 s0):=by
 unfold yP gZ
 with_reducible repeat' first | exact ae.bb _ | refine (AM (λ _ _=>?_) 40).1 _ _ _ _ _ _ _ | exact h _ _ | refine ae.bf ?_ λ _=>?_
def d122(x0:bF)(x1:(List Bool))(x2:(List Bool))(x3:Int):{c // ae c (jv x0 x1 x2 x3)}:=⟨_,by
 unfold jv
 with_reducible repeat' first | intro _ | apply ae.bf | exact ae.bb _⟩
def d124(x0:aj):{c // ae c (jw x0)}:=⟨_,by
 unfold jw
 with_reducible repeat' first | intro _ | apply ae.c0 | apply ae.af | apply ae.bf | exact ae.bb _⟩
def d34(x0:aj):{c // ae c (j5 x0)}:=⟨_,by
 unfold j5
 with_reducible repeat' first | intro _ | apply kG | apply (d121 _).2 | apply (d122 _ _ _ _).2 | apply qp | apply (d124 _).2 | apply sY | apply ae.af | apply ae.ei | apply ae.cY | apply ae.bf | exact ae.bb _⟩
abbrev ve(x0:aj):=(d34 x0).1
theorem Jw(x0:aj):ae (ve x0) (j5 x0):=(d34 x0).2
def d126(x0:aj)(x1:(List Bool)):{c // ae c (j3 x0 x1)}:=⟨_,by
 unfold j3
 with_reducible repeat' first | intro _ | apply ae.c0 | apply ae.af | apply ae.bf | exact ae.bb _⟩
def d36(x0:aj):{c // ae c (kW x0)}:=⟨_,by
 unfold kW
 with_reducible repeat' first | intro _ | apply kG | apply (d121 _).2 | apply (d122 _ _ _ _).2 | apply qp | apply (d124 _).2 | apply (d126 _ _).2 | apply sY | apply ae.af | apply ae.ei | apply ae.cY | apply ae.bf | exact ae.bb _⟩
abbrev y8(x0:aj):=(d36 x0).1
theorem Jx(x0:aj):ae (y8 x0) (kW x0):=(d36 x0).2
def u2 (x1:((List Bool)→((List (List Bool)) ⊕ Empty)→Option (((List (List Bool)) ⊕ Empty) × Bool))→((List (List Bool)) ⊕ Empty)→Option ((List (List Bool)) ⊕ Empty)):Option (List (List Bool)) :=
 (x1 (cY (λ (b:(List Bool)) (a:(List (List Bool)))=>(((dD a [b]).bind λ c =>
 some (.inl c)):Option ((List (List Bool)) ⊕ Empty)))) (.inl [])).bind (Sum.elim (λ (a:(List (List Bool))) =>
 some a)
  (λ (o:Empty)=>o.elim))
theorem I4{x1 b:((List Bool)→((List (List Bool)) ⊕ Empty)→Option (((List (List Bool)) ⊕ Empty) × Bool))→((List (List Bool)) ⊕ Empty)→Option ((List (List Bool)) ⊕ Empty)}(a:∀ ys c,(∀ y s,ae (ys y s) (c y s))→∀ s,ae (x1 ys s) (b c s)):ae (u2 x1) (oT b):=by
 unfold u2 oT
 with_reducible repeat' first | exact ae.bb _ | refine ae.ei (λ _=>?_) (λ _=>?_) _ | refine ae.cY (λ _ _=>?_) _ _ | refine a _ _ (λ _ _=>?_) _ | exact a | exact d _ _ | refine ae.bf ?_ λ _=>?_
def yH (x0:((List Bool)→((List (List Bool)) ⊕ Empty)→Option (((List (List Bool)) ⊕ Empty) × Bool))→((List (List Bool)) ⊕ Empty)→Option ((List (List Bool)) ⊕ Empty)):Option (List (List Bool)) :=
 (u2 x0).bind λ a =>
 some a
theorem IV{x0 b:((List Bool)→((List (List Bool)) ⊕ Empty)→Option (((List (List Bool)) ⊕ Empty) × Bool))→((List (List Bool)) ⊕ Empty)→Option ((List (List Bool)) ⊕ Empty)}(a:∀ ys c,(∀ y s,ae (ys y s) (c y s))→∀ s,ae (x0 ys s) (b c s)):ae (yH x0) (nq b):=by
 unfold yH nq
 with_reducible repeat' first | exact ae.bb _ | refine I4 (λ _ _ d _=>?_) | refine a _ _ (λ _ _=>?_) _ | exact a | exact d _ _ | refine ae.bf ?_ λ _=>?_
def yI(x0:((List Bool)→Option Int))(x1:(List (List Bool))):Option (List Bool) :=
 (idx x1 0).bind λ e =>
 (e7 x1 1 (x1.length:Int)).bind λ b =>
 (gH (O:=(List Bool)) (λ (a:(Int × (List Bool))) =>
 af (decide (a.1 < (b.length:Int)))
 ((idx b a.1).bind λ c =>
 (x0 c).bind λ f =>
 (x0 a.2).bind λ g =>
 af (decide (f < g))
 (some (.inl (i64 (a.1+1),c)))
 (some (.inl (i64 (a.1+1),a.2))))
 (some (.inr a.2))) (0,e)).bind (λ (d:(List Bool)) =>
 some d)
theorem IW{x0 a:((List Bool)→Option Int)}(b:∀ y,ae (x0 y) (a y))(x1:(List (List Bool))):ae (yI x0 x1) (ns a x1):=by
 unfold yI ns
 with_reducible repeat' first | exact ae.bb _ | refine ae.c0 λ _=>?_ | refine ae.af ?_ ?_ | exact b _ | exact c _ _ | refine ae.bf ?_ λ _=>?_
def d129(x0:aj)(x1:(List Bool)):{c // ae c (kL x0 x1)}:=⟨_,by
 unfold kL
 with_reducible repeat' first | intro _ | apply ae.c0 | apply ae.af | apply ae.bf | exact ae.bb _⟩
def d39(x0:aj):{c // ae c (kY x0)}:=⟨_,by
 unfold kY
 with_reducible repeat' first | intro _ | apply kG | apply (d121 _).2 | apply (d122 _ _ _ _).2 | apply qp | apply (d124 _).2 | apply (d126 _ _).2 | apply IV | apply IW | apply (d129 _ _).2 | apply sY | apply ae.af | apply ae.bf | exact ae.bb _ | exact ‹∀ _ _,ae _ _› _ _⟩
abbrev y9(x0:aj):=(d39 x0).1
theorem Jz(x0:aj):ae (y9 x0) (kY x0):=(d39 x0).2
def d133(x0:Int):{c // ae c (kN x0)}:=⟨_,by
 unfold kN
 with_reducible repeat' first | intro _ | apply ae.c0 | apply ae.af | apply ae.bf | exact ae.bb _⟩
abbrev uZ(x0:Int):=(d133 x0).1
theorem AK(x0:Int):ae (uZ x0) (kN x0):=(d133 x0).2
def d211(x0:Int)(x1:Int):{c // ae c (qH x0 x1)}:=⟨_,by
 unfold qH
 with_reducible repeat' first | intro _ | apply (d235 _).2 | apply ae.af | apply ae.bf | exact ae.bb _⟩
def d178(x0:(List Int))(x1:(List Int)):{c // ae c (nA x0 x1)}:=⟨_,by
 unfold nA
 with_reducible repeat' first | intro _ | apply (d211 _ _).2 | apply ae.c0 | apply ae.af | apply ae.ei | apply ae.bf | exact ae.bb _⟩
abbrev rM(x0:(List Int))(x1:(List Int)):=(d178 x0 x1).1
theorem AN(x0:(List Int))(x1:(List Int)):ae (rM x0 x1) (nA x0 x1):=(d178 x0 x1).2
def yJ(x0:Int)(x1:(Int→Option Bool)):Option ((List Int) × Bool) :=
 (jL .i64 1 x0).bind λ i =>
 (gH (O:=((List Int) × Bool)) (λ (a:((List Int) × Bool × Int)) =>
 af (decide (a.2.2 < i))
 ((uZ a.2.2).bind λ b =>
 (((af (!a.2.1)
 ((x1 a.2.2).bind λ e =>
 some e)
 (af (decide ((b.length:Int) < (a.1.length:Int)))
 ((x1 a.2.2).bind λ f =>
 some f)
 (af ((b.length:Int) == (a.1.length:Int))
 ((rM b a.1).bind λ g =>
 af (decide (g < 0))
 ((x1 a.2.2).bind λ h =>
 some h)
 (some false))
 (some false)))):Option Bool)).bind (λ (d:Bool) =>
 af d
 (some (.inl (b,true,i64 (a.2.2+1))))
 (some (.inl (a.1,a.2.1,i64 (a.2.2+1))))))
 (some (.inr (a.1,a.2.1)))) ([],false,0)).bind (λ (c:((List Int) × Bool)) =>
 some (c.1,c.2))
theorem wu(x0:Int){x1 a:(Int→Option Bool)}(b:∀ y,ae (x1 y) (a y)):ae (yJ x0 x1) (kM x0 a):=by
 unfold yJ kM
 with_reducible repeat' first | exact ae.bb _ | refine ae.c0 λ _=>?_ | refine ae.af ?_ ?_ | exact AK _ | exact AN _ _ | exact b _ | exact c _ _ | refine ae.bf ?_ λ _=>?_
def d134(x0:bF)(x1:(List Bool))(x2:(List Bool))(x3:Int):{c // ae c (nu x0 x1 x2 x3)}:=⟨_,by
 unfold nu
 with_reducible repeat' first | intro _ | apply (d122 _ _ _ _).2 | apply sY | apply ae.ei | apply ae.cY | apply ae.bf | exact ae.bb _⟩
def d131(x0:Int)(x1:bF)(x2:(List Bool))(x3:(List Bool)):{c // ae c (oJ x0 x1 x2 x3)}:=⟨_,by
 unfold oJ
 with_reducible repeat' first | intro _ | apply (d132 _).2 | apply (d133 _).2 | apply (d134 _ _ _ _).2 | apply ae.af | apply ae.bf | exact ae.bb _⟩
def d41(x0:aj):{c // ae c (o4 x0)}:=⟨_,by
 unfold o4
 with_reducible repeat' first | intro _ | apply kG | apply (d121 _).2 | apply qp | apply (d124 _).2 | apply wu | apply (d131 _ _ _ _).2 | apply ae.af | apply ae.bf | exact ae.bb _⟩
abbrev za(x0:aj):=(d41 x0).1
theorem JA(x0:aj):ae (za x0) (o4 x0):=(d41 x0).2
def d138(x0:Int)(x1:bF)(x2:(List Bool))(x3:(List Bool)):{c // ae c (oK x0 x1 x2 x3)}:=⟨_,by
 unfold oK
 with_reducible repeat' first | intro _ | apply (d134 _ _ _ _).2 | apply ae.bf | exact ae.bb _⟩
def d43(x0:aj):{c // ae c (nO x0)}:=⟨_,by
 unfold nO
 with_reducible repeat' first | intro _ | apply kG | apply (d121 _).2 | apply qp | apply (d124 _).2 | apply wu | apply (d138 _ _ _ _).2 | apply ae.af | apply ae.bf | exact ae.bb _⟩
abbrev vg(x0:aj):=(d43 x0).1
theorem JB(x0:aj):ae (vg x0) (nO x0):=(d43 x0).2
def d46(x0:aj)(x1:b7):{c // ae c (nP x0 x1)}:=⟨_,by
 unfold nP
 with_reducible repeat' first | intro _ | apply ae.bf | exact ae.bb _⟩
abbrev vh(x0:aj)(x1:b7):=(d46 x0 x1).1
theorem JC(x0:aj)(x1:b7):ae (vh x0 x1) (nP x0 x1):=(d46 x0 x1).2
def d48(x0:aj)(x1:Int):{c // ae c (j6 x0 x1)}:=⟨_,by
 unfold j6
 with_reducible repeat' first | intro _ | apply (d82 _).2 | apply (d104 _ _).2 | apply (d139 _ _ _).2 | apply ae.af | apply ae.bf | exact ae.bb _⟩
abbrev vi(x0:aj)(x1:Int):=(d48 x0 x1).1
theorem JD(x0:aj)(x1:Int):ae (vi x0 x1) (j6 x0 x1):=(d48 x0 x1).2
def d49(x0:Int)(x1:Int):{c // ae c (nQ x0 x1)}:=⟨_,by
 unfold nQ
 with_reducible repeat' first | intro _ | apply ae.bf | exact ae.bb _⟩
abbrev vj(x0:Int)(x1:Int):=(d49 x0 x1).1
theorem AP(x0:Int)(x1:Int):ae (vj x0 x1) (nQ x0 x1):=(d49 x0 x1).2
def d151(x0:(List b7)):{c // ae c (oN x0)}:=⟨_,by
 unfold oN
 with_reducible repeat' first | intro _ | apply ae.bf | exact ae.bb _⟩
def d179(x0:(List da)):{c // ae c (oU x0)}:=⟨_,by
 unfold oU
 with_reducible repeat' first | intro _ | apply ae.bf | exact ae.bb _⟩
def d180(x0:(List Reach)):{c // ae c (oV x0)}:=⟨_,by
 unfold oV
 with_reducible repeat' first | intro _ | apply ae.bf | exact ae.bb _⟩
def d181(x0:(List cN)):{c // ae c (oX x0)}:=⟨_,by
 unfold oX
 with_reducible repeat' first | intro _ | apply ae.bf | exact ae.bb _⟩
def d182(x0:(List fR)):{c // ae c (oY x0)}:=⟨_,by
 unfold oY
 with_reducible repeat' first | intro _ | apply ae.bf | exact ae.bb _⟩
def d140(x0:aj):{c // ae c (qz x0)}:=⟨_,by
 unfold qz
 with_reducible repeat' first | intro _ | apply (d151 _).2 | apply (d179 _).2 | apply (d180 _).2 | apply (d181 _).2 | apply (d182 _).2 | apply ae.bf | exact ae.bb _⟩
def d50(x0:aj)(x1:Int)(x2:Int):{c // ae c (o6 x0 x1 x2)}:=⟨_,by
 unfold o6
 with_reducible repeat' first | intro _ | apply (d82 _).2 | apply (d104 _ _).2 | apply (d139 _ _ _).2 | apply (d140 _).2 | apply ae.c0 | apply ae.af | apply ae.bf | exact ae.bb _⟩
abbrev zb(x0:aj)(x1:Int)(x2:Int):=(d50 x0 x1 x2).1
theorem JE(x0:aj)(x1:Int)(x2:Int):ae (zb x0 x1 x2) (o6 x0 x1 x2):=(d50 x0 x1 x2).2
def d144(x0:aj)(x1:Int):{c // ae c (ny x0 x1)}:=⟨_,by
 unfold ny
 with_reducible repeat' first | intro _ | apply (d133 _).2 | apply ae.c0 | apply ae.af | apply ae.bf | exact ae.bb _⟩
def d145(x0:aj):{c // ae c (nz x0)}:=⟨_,by
 unfold nz
 with_reducible repeat' first | intro _ | apply sZ | apply ae.ei | apply ae.cY | apply ae.bf | exact ae.bb _⟩
def d143(x0:Int)(x1:aj):{c // ae c (nv x0 x1)}:=⟨_,by
 unfold nv
 with_reducible repeat' first | intro _ | apply (d144 _ _).2 | apply (d145 _).2 | apply ae.bf | exact ae.bb _⟩
def d54(x0:aj):{c // ae c (kZ x0)}:=⟨_,by
 unfold kZ
 with_reducible repeat' first | intro _ | apply (d82 _).2 | apply wu | apply (d143 _ _).2 | apply ae.af | apply ae.bf | exact ae.bb _⟩
abbrev zc(x0:aj):=(d54 x0).1
theorem JF(x0:aj):ae (zc x0) (kZ x0):=(d54 x0).2
def d146(x0:aY)(x1:Int)(x2:Int):{c // ae c (oL x0 x1 x2)}:=⟨_,by
 unfold oL
 with_reducible repeat' first | intro _ | apply ae.bf | exact ae.bb _⟩
def d59(x0:aj):{c // ae c (o7 x0)}:=⟨_,by
 unfold o7
 with_reducible repeat' first | intro _ | apply kG | apply sX | apply (d121 _).2 | apply (d146 _ _ _).2 | apply ae.c0 | apply ae.af | apply ae.bf | exact ae.bb _⟩
abbrev ze(x0:aj):=(d59 x0).1
theorem JH(x0:aj):ae (ze x0) (o7 x0):=(d59 x0).2
def d66(x0:aj)(x1:Int)(x2:Int):{c // ae c (o8 x0 x1 x2)}:=⟨_,by
 unfold o8
 with_reducible repeat' first | intro _ | apply (d82 _).2 | apply (d107 _ _).2 | apply (d149 _ _ _).2 | apply ae.af | apply ae.bf | exact ae.bb _⟩
abbrev zf(x0:aj)(x1:Int)(x2:Int):=(d66 x0 x1 x2).1
theorem JI(x0:aj)(x1:Int)(x2:Int):ae (zf x0 x1 x2) (o8 x0 x1 x2):=(d66 x0 x1 x2).2
def d159(x0:Int):{c // ae c (oP x0)}:=⟨_,by
 unfold oP
 with_reducible repeat' first | intro _ | apply ae.bf | exact ae.bb _⟩
abbrev yL(x0:Int):=(d159 x0).1
theorem IY(x0:Int):ae (yL x0) (oP x0):=(d159 x0).2
def vl  : Option aj :=
 (vj 9 11).bind λ a =>
 (yL 15).bind λ b =>
 some (⟨10,[(⟨10,40⟩:da),(⟨20,20⟩:da)],[a,b],[(⟨⟨#[97,110,110]⟩,20⟩:cN),(⟨⟨#[98,111]⟩,12⟩:cN)],[(⟨0,0,20,2⟩:fR),(⟨1,30,15,1⟩:fR),(⟨0,60,30,1⟩:fR)],[]⟩:aj)
theorem JJ  : ae (vl ) (qY ):=by
 unfold vl qY
 with_reducible repeat' first | exact ae.bb _ | exact AP _ _ | exact IY _ | exact a _ _ | refine ae.bf ?_ λ _=>?_
def d102(x0:(List Int))(x1:(List Int)):{c // ae c (nj x0 x1)}:=⟨_,by
 unfold nj
 with_reducible repeat' first | intro _ | apply ae.c0 | apply ae.af | apply ae.ei | apply ae.bf | exact ae.bb _⟩
def d27(x0:(List Int))(x1:(List Int)):{c // ae c (nJ x0 x1)}:=⟨_,by
 unfold nJ
 with_reducible repeat' first | intro _ | apply (d102 _ _).2 | apply ae.af | apply ae.bf | exact ae.bb _⟩
abbrev y4(x0:(List Int))(x1:(List Int)):=(d27 x0 x1).1
theorem Jm(x0:(List Int))(x1:(List Int)):ae (y4 x0 x1) (nJ x0 x1):=(d27 x0 x1).2
def d89(x0:(List Int))(x1:(List Int)):{c // ae c (k0 x0 x1)}:=⟨_,by
 unfold k0
 with_reducible repeat' first | intro _ | apply (d27 _ _).2 | apply ae.bf | exact ae.bb _⟩
abbrev p0(x0:(List Int))(x1:(List Int)):=(d89 x0 x1).1
theorem JK(x0:(List Int))(x1:(List Int)):ae (p0 x0 x1) (k0 x0 x1):=(d89 x0 x1).2
def vf(x0:(List (List Int)))(x1:(List (List Int))):Option Bool :=
 af ((x0.length:Int) != (x1.length:Int))
 (some false)
 ((gH (O:=(Unit ⊕ Bool)) (λ (a:Int) =>
 af (decide (a < (x0.length:Int)))
 ((idx x0 a).bind λ b =>
 (idx x1 a).bind λ c =>
 (y4 b c).bind λ d =>
 af (!d)
 (some (.inr (.inr false)))
 (some (.inl (i64 (a+1)))))
 (some (.inr (.inl ())))) 0).bind (Sum.elim (λ (_:Unit) =>
 some true)
  (λ q=>some q)))
theorem Jy(x0:(List (List Int)))(x1:(List (List Int))):ae (vf x0 x1) (qN x0 x1):=by
 unfold vf qN
 with_reducible repeat' first | exact ae.bb _ | refine ae.c0 λ _=>?_ | refine ae.af ?_ ?_ | refine ae.ei (λ _=>?_) (λ _=>?_) _ | exact Jm _ _ | exact a _ _ | refine ae.bf ?_ λ _=>?_
def rQ(x0:(List (List Int)))(x1:(List (List Int))):Option Bool :=
 (vf x0 x1).bind λ a =>
 some a
theorem JL(x0:(List (List Int)))(x1:(List (List Int))):ae (rQ x0 x1) (pa x0 x1):=by
 unfold rQ pa
 with_reducible repeat' first | exact ae.bb _ | exact Jy _ _ | exact a _ _ | refine ae.bf ?_ λ _=>?_
def yX  : Option Bool :=
 (vl).bind λ a =>
 (vh a (⟨0,10,true⟩:b7)).bind λ b =>
 (vi a 10).bind λ h =>
 (vi a 21).bind λ i =>
 (y2 a).bind λ j =>
 (y3 b 0).bind λ k =>
 (y7 a 0).bind λ l =>
 (rO a 1 0).bind λ m =>
 (rO a 1 1).bind λ n =>
 (rO a 1 2).bind λ o =>
 (zf a 0 1).bind λ p =>
 (rP a ([[0,1],[0],[1]])).bind λ q =>
 (rP b ([[0,1],[0],[1]])).bind λ r =>
 (((af (h.2 != 0)
 (some true)
 (af (i.2 != 0)
 (some true)
 (af (j.2 != 0)
 (some true)
 (af (k.2 != 0)
 (some true)
 (af (l.2 != 0)
 (some true)
 (af (m.2 != 0)
 (some true)
 (af (n.2 != 0)
 (some true)
 (af (o.2 != 0)
 (some true)
 (af (p.2 != 0)
 (some true)
 (af (q.2 != 0)
 (some true)
 (some (r.2 != 0)))))))))))):Option Bool)).bind (λ (x:Bool) =>
 af x
 (some false)
 ((((af (h.1 != 40)
 (some true)
 (af (i.1 != 0)
 (some true)
 (af (j.1 != 3)
 (some true)
 ((p0 k.1 [9,10]).bind λ B =>
 af (!B)
 (some true)
 ((vj 20 40).bind λ C =>
 af (!(vR l.1 C == true))
 (some true)
 (af (m.1 != 1)
 (some true)
 (af (n.1 != 2)
 (some true)
 (af (o.1 != 0)
 (some true)
 (af (!p.1)
 (some true)
 (af (q.1 != 0)
 (some true)
 (some (r.1 != 1)))))))))))):Option Bool)).bind (λ (y:Bool) =>
 af y
 (some false)
 ((ve a).bind λ s =>
 (ve b).bind λ t =>
 (y8 b).bind λ f =>
 (y9 b).bind λ d =>
 (za b).bind λ g =>
 (vg a).bind λ u =>
 (ze a).bind λ e =>
 (zb b 12 15).bind λ c =>
 (vg c.1).bind λ v =>
 (vh b (⟨0,8,true⟩:b7)).bind λ D =>
 (zc D).bind λ w =>
 (((af (s.2 != 0)
 (some true)
 (af (t.2 != 0)
 (some true)
 (af (f.2.2 != 0)
 (some true)
 (af (d.2.2.2 != 0)
 (some true)
 (af (g.2.2 != 0)
 (some true)
 (af (u.2 != 0)
 (some true)
 (af (e.2.2.2 != 0)
 (some true)
 (af (c.2 != 0)
 (some true)
 (af (v.2 != 0)
 (some true)
 (some (w.2 != 0))))))))))):Option Bool)).bind (λ (z:Bool) =>
 af z
 (some false)
 ((((af (s.1 != 0)
 (some true)
 (af (t.1 != 2)
 (some true)
 (af (!f.2.1)
 (some true)
 ((rQ f.1 ([[0,1],[0],[0]])).bind λ E =>
 af (!E)
 (some true)
 (af (!d.2.2.1)
 (some true)
 (af (d.2.1 != 50)
 (some true)
 ((rQ d.1 ([[0,1],[0],[1]])).bind λ F =>
 af (!F)
 (some true)
 (af (!g.2.1)
 (some true)
 ((p0 g.1 [0,1]).bind λ G =>
 af (!G)
 (some true)
 ((p0 u.1 [2]).bind λ H =>
 some (!H))))))))))):Option Bool)).bind (λ (A:Bool) =>
 af A
 (some false)
 (af (e.1 == 0)
 (af (e.2.1 == 9)
 (af (e.2.2.1 == 2)
 (af ((v.1.length:Int) == 0)
 ((p0 w.1 [1]).bind λ I =>
 af I
 (af ((c.1.Rows.length:Int) == 3)
 ((idx c.1.Rows 1).bind λ J =>
 af (qj J (⟨12,15⟩:da) == true)
 ((idx c.1.Rows 2).bind λ K =>
 some (qj K (⟨20,15⟩:da) == true))
 (some false))
 (some false))
 (some false))
 (some false))
 (some false))
 (some false))
 (some false)))))))))
theorem Je  : ae (yX ) (mi ):=by
 unfold yX mi
 with_reducible repeat' first | exact ae.bb _ | refine ae.af ?_ ?_ | exact Jj _ | exact Jl _ _ | exact Jt _ _ | exact Ju _ _ _ | exact Jv _ _ | exact Jw _ | exact Jx _ | exact Jz _ | exact JA _ | exact JB _ | exact JC _ _ | exact JD _ _ | exact AP _ _ | exact JE _ _ _ | exact JF _ | exact JH _ | exact JI _ _ _ | exact JJ | exact JK _ _ | exact JL _ _ | exact a _ _ | refine ae.bf ?_ λ _=>?_
def d58(x0:(List Int))(x1:(List Int)):{c // ae c (tp x0 x1)}:=⟨_,by
 unfold tp
 with_reducible repeat' first | intro _ | apply (d102 _ _).2 | apply ae.af | apply ae.bf | exact ae.bb _⟩
abbrev zd(x0:(List Int))(x1:(List Int)):=(d58 x0 x1).1
theorem JG(x0:(List Int))(x1:(List Int)):ae (zd x0 x1) (tp x0 x1):=(d58 x0 x1).2
def EL(x0:(List Int))(x1:Int):Option (List Int) :=
 (gH (O:=(List Int)) (λ (a:((List Int) × Int)) =>
 af (decide (a.2 < (x0.length:Int)))
 (af (a.2 != x1)
 ((idx x0 a.2).bind λ c =>
 (dD a.1 [c]).bind λ d =>
 some (.inl (d,i64 (a.2+1))))
 (some (.inl (a.1,i64 (a.2+1)))))
 (some (.inr a.1))) ([],0)).bind (λ (b:(List Int)) =>
 some b)
theorem Ow:mi=some true:=Je _ (by decide +kernel)
end
end Go.Proofs.YtihapemckcdicaaGreatDoor
