/- The chapter's examples, by reckoning. Conditions: none. -/
import Derived.Test.YtikficpdfaajlaaGreatDoorQSWStM
import Derived.Test.YtikficpdfaajlaaGreatDoorQSWLgC
namespace Go.Proofs.YtikficpdfaajlaaGreatDoor
open Go.Lg Go.Proofs
noncomputable section
set_option maxRecDepth 100000
set_option maxHeartbeats 4000000
def d54(x0:Int)(x1:Int)(x2:Int):{c // ag c (fC x0 x1 x2)}:=⟨_,by
 unfold fC
 with_reducible repeat' first | intro _ | apply ag.ab | apply ag.bu | exact ag.br _⟩
def H5(x0:ByteArray):a5:=sC x0
theorem M0(x0:ByteArray):ag (H5 x0) (sC x0):=ag.br _
def tX(x0:bU)(x1:(bc→a5)):b5 :=
 (hP (O:=Int) (λ (b:(Int × Int)) =>
 ab (decide (b.2 < (x0.cY.length:Int)))
 ((idx x0.cY b.2).bind λ d =>
 (x1 d).bind λ f =>
 ab f
 (some (.inl (i64 (b.1+1),i64 (b.2+1))))
 (some (.inl (b.1,i64 (b.2+1)))))
 (some (.inr b.1))) (0,0)).bind (λ (c:Int) =>
 some c)
theorem uU(x0:bU){x1 b:(bc→a5)}(c:∀ y,ag (x1 y) (b y)):ag (tX x0 x1) (kF x0 b):=by
 unfold tX kF
 with_reducible repeat' first | exact ag.br _ | refine ag.dD λ _=>?_ | refine ag.ab ?_ ?_ | exact c _ | exact d _ _ | refine ag.bu ?_ λ _=>?_
def d55(x0:an)(x1:Int):{c // ag c (lA x0 x1)}:=⟨_,by
 unfold lA
 with_reducible repeat' first | intro _ | apply ag.dD | apply ag.ab | apply ag.e3 | apply ag.bu | exact ag.br _⟩
def d68(x0:an)(x1:bc)(x2:Int)(x3:Int):{c // ag c (l8 x0 x1 x2 x3)}:=⟨_,by
 unfold l8
 with_reducible repeat' first | intro _ | apply (d55 _ _).2 | apply ag.ab | apply ag.bu | exact ag.br _⟩
def d115(x0:bc)(x1:bU)(x2:Int)(x3:Int):{c // ag c (lW x0 x1 x2 x3)}:=⟨_,by
 unfold lW
 with_reducible repeat' first | intro _ | apply (d68 _ _ _ _).2 | apply ag.bu | exact ag.br _⟩
abbrev Bc(x0:bc)(x1:bU)(x2:Int)(x3:Int):=(d115 x0 x1 x2 x3).1
theorem MB(x0:bc)(x1:bU)(x2:Int)(x3:Int):ag (Bc x0 x1 x2 x3) (lW x0 x1 x2 x3):=(d115 x0 x1 x2 x3).2
def yF(x0:bU)(i k:Nat):a5:=(tX x0 (λ y=>Bc y x0 (k:Int) (i:Int))).bind λ n=>some (n == (x0.cY.length:Int))
theorem Nu(x0:bU)(i k:Nat):ag (yF x0 i k) (iy x0 i k):=by
 unfold yF iy
 with_reducible repeat' first | exact ag.br _ | refine uU _ (λ _=>?_) | exact MB _ _ _ _ | refine ag.bu ?_ λ _=>?_
def BJ(x0:bU):Option aW :=
 if (0 < x0.book.az.length∧x0.book.az.length≤4)∧(0 < x0.book.ay.length∧x0.book.ay.length≤4) then
  (((List.range 16).mapM λ (p:Nat)=>if p / 4 < x0.book.az.length∧p % 4 < x0.book.ay.length then yF x0 (p / 4) (p % 4) else some false):Option aW)
 else none
theorem rZ(x0:bU):ag (BJ x0) (jM x0):=by
 unfold BJ jM
 split
 ·refine ag.mapM (λ p=>?_) _
  split
  ·exact Nu _ _ _
  ·exact ag.br _
 ·exact ag.none
def d24(x0:Int)(x1:Int):{c // ag c (kB x0 x1)}:=⟨_,by
 unfold kB
 with_reducible repeat' first | intro _ | apply ag.bu | exact ag.br _⟩
abbrev xv(x0:Int)(x1:Int):=(d24 x0 x1).1
theorem Dz(x0:Int)(x1:Int):ag (xv x0 x1) (kB x0 x1):=(d24 x0 x1).2
def d52(x0:Int):{c // ag c (qx x0)}:=⟨_,by
 unfold qx
 with_reducible repeat' first | intro _ | apply ag.bu | exact ag.br _⟩
abbrev BC(x0:Int):=(d52 x0).1
theorem Ni(x0:Int):ag (BC x0) (qx x0):=(d52 x0).2
def xm  : Option an :=
 (xv 9 11).bind λ b =>
 (BC 15).bind λ c =>
 some (⟨10,[(⟨10,40⟩:dJ),(⟨20,20⟩:dJ)],[b,c],[(⟨⟨#[97,110,110]⟩,20⟩:dk),(⟨⟨#[98,111]⟩,12⟩:dk)],[(⟨0,0,20,2⟩:gD),(⟨1,30,15,1⟩:gD),(⟨0,60,30,1⟩:gD)],[]⟩:an)
theorem MO  : ag (xm ) (si ):=by
 unfold xm si
 with_reducible repeat' first | exact ag.br _ | exact Dz _ _ | exact Ni _ | exact b _ _ | refine ag.bu ?_ λ _=>?_
def d15(x0:an)(x1:c5):{c // ag c (oL x0 x1)}:=⟨_,by
 unfold oL
 with_reducible repeat' first | intro _ | apply ag.bu | exact ag.br _⟩
abbrev xn(x0:an)(x1:c5):=(d15 x0 x1).1
theorem MQ(x0:an)(x1:c5):ag (xn x0 x1) (oL x0 x1):=(d15 x0 x1).2
def d214(x0:an):{c // ag c (qg x0)}:=⟨_,by
 unfold qg
 with_reducible repeat' first | intro _ | apply (d54 _ _ _).2 | apply ag.ab | apply ag.bu | exact ag.br _⟩
def d215(x0:an):{c // ag c (oP x0)}:=⟨_,by
 unfold oP
 with_reducible repeat' first | intro _ | apply (d54 _ _ _).2 | apply ag.dD | apply ag.ab | apply ag.e3 | apply ag.bu | exact ag.br _⟩
def xt(x0:(List Reach))(x1:(Reach→a5)):b5 :=
 (hP (O:=(Unit ⊕ Int)) (λ (b:Int) =>
 ab (decide (b < (x0.length:Int)))
 ((idx x0 b).bind λ c =>
 (x1 c).bind λ d =>
 ab d
 (some (.inr (.inr b)))
 (some (.inl (i64 (b+1)))))
 (some (.inr (.inl ())))) 0).bind (Sum.elim (λ (_:Unit) =>
 some (-1))
  (λ q=>some q))
theorem M3(x0:(List Reach)){x1 b:(Reach→a5)}(c:∀ y,ag (x1 y) (b y)):ag (xt x0 x1) (sD x0 b):=by
 unfold xt sD
 with_reducible repeat' first | exact ag.br _ | refine ag.dD λ _=>?_ | refine ag.ab ?_ ?_ | refine ag.e3 (λ _=>?_) (λ _=>?_) _ | exact c _ | exact d _ _ | refine ag.bu ?_ λ _=>?_
def Bs(x0:(List Reach))(x1:(Reach→a5)):a5 :=
 (xt x0 x1).bind λ b =>
 some (decide (b ≥ 0))
theorem MZ(x0:(List Reach)){x1 b:(Reach→a5)}(c:∀ y,ag (x1 y) (b y)):ag (Bs x0 x1) (qi x0 b):=by
 unfold Bs qi
 with_reducible repeat' first | exact ag.br _ | refine M3 _ (λ _=>?_) | exact c _ | exact d _ _ | refine ag.bu ?_ λ _=>?_
def d222(x0:Reach)(x1:Int)(x2:Int)(x3:Int):{c // ag c (oX x0 x1 x2 x3)}:=⟨_,by
 unfold oX
 with_reducible repeat' first | intro _ | apply ag.ab | apply ag.bu | exact ag.br _⟩
def d221(x0:Reach):{c // ag c (oV x0)}:=⟨_,by
 unfold oV
 with_reducible repeat' first | intro _ | apply (d222 _ _ _ _).2 | apply ag.bu | exact ag.br _⟩
def d216(x0:an):{c // ag c (oQ x0)}:=⟨_,by
 unfold oQ
 with_reducible repeat' first | intro _ | apply (d54 _ _ _).2 | apply MZ | apply (d221 _).2 | apply ag.ab | apply ag.bu | exact ag.br _⟩
def xu(x0:(List dk))(x1:(dk→a5)):b5 :=
 (hP (O:=(Unit ⊕ Int)) (λ (b:Int) =>
 ab (decide (b < (x0.length:Int)))
 ((idx x0 b).bind λ c =>
 (x1 c).bind λ d =>
 ab d
 (some (.inr (.inr b)))
 (some (.inl (i64 (b+1)))))
 (some (.inr (.inl ())))) 0).bind (Sum.elim (λ (_:Unit) =>
 some (-1))
  (λ q=>some q))
theorem M4(x0:(List dk)){x1 b:(dk→a5)}(c:∀ y,ag (x1 y) (b y)):ag (xu x0 x1) (sE x0 b):=by
 unfold xu sE
 with_reducible repeat' first | exact ag.br _ | refine ag.dD λ _=>?_ | refine ag.ab ?_ ?_ | refine ag.e3 (λ _=>?_) (λ _=>?_) _ | exact c _ | exact d _ _ | refine ag.bu ?_ λ _=>?_
def Bt(x0:(List dk))(x1:(dk→a5)):a5 :=
 (xu x0 x1).bind λ b =>
 some (decide (b ≥ 0))
theorem M1(x0:(List dk)){x1 b:(dk→a5)}(c:∀ y,ag (x1 y) (b y)):ag (Bt x0 x1) (qj x0 b):=by
 unfold Bt qj
 with_reducible repeat' first | exact ag.br _ | refine M4 _ (λ _=>?_) | exact c _ | exact d _ _ | refine ag.bu ?_ λ _=>?_
def d225(x0:dk)(x1:dk):{c // ag c (oY x0 x1)}:=⟨_,by
 unfold oY
 with_reducible repeat' first | intro _ | apply ag.bu | exact ag.br _⟩
def d217(x0:an):{c // ag c (oR x0)}:=⟨_,by
 unfold oR
 with_reducible repeat' first | intro _ | apply (d54 _ _ _).2 | apply M0 | apply M1 | apply (d225 _ _).2 | apply ag.dD | apply ag.ab | apply ag.e3 | apply ag.bu | exact ag.br _⟩
def d64(x0:Int)(x1:Int):{c // ag c (m64 x0 x1)}:=⟨_,by
 unfold m64
 with_reducible repeat' first | intro _ | apply (d54 _ _ _).2 | apply ag.ab | apply ag.bu | exact ag.br _⟩
abbrev BF(x0:Int)(x1:Int):=(d64 x0 x1).1
theorem Nk(x0:Int)(x1:Int):ag (BF x0 x1) (m64 x0 x1):=(d64 x0 x1).2
def d218(x0:an):{c // ag c (oT x0)}:=⟨_,by
 unfold oT
 with_reducible repeat' first | intro _ | apply (d54 _ _ _).2 | apply (d64 _ _).2 | apply ag.dD | apply ag.ab | apply ag.e3 | apply ag.bu | exact ag.br _⟩
def d219(x0:an):{c // ag c (oU x0)}:=⟨_,by
 unfold oU
 with_reducible repeat' first | intro _ | apply (d54 _ _ _).2 | apply (d64 _ _).2 | apply ag.dD | apply ag.ab | apply ag.e3 | apply ag.bu | exact ag.br _⟩
def d53(x0:an):{c // ag c (iG x0)}:=⟨_,by
 unfold iG
 with_reducible repeat' first | intro _ | apply (d214 _).2 | apply (d215 _).2 | apply (d216 _).2 | apply (d217 _).2 | apply (d218 _).2 | apply (d219 _).2 | apply ag.ab | apply ag.bu | exact ag.br _⟩
abbrev xA(x0:an):=(d53 x0).1
theorem DC(x0:an):ag (xA x0) (iG x0):=(d53 x0).2
def d16(x0:an)(x1:Int):{c // ag c (oM x0 x1)}:=⟨_,by
 unfold oM
 with_reducible repeat' first | intro _ | apply (d53 _).2 | apply (d54 _ _ _).2 | apply (d55 _ _).2 | apply ag.ab | apply ag.bu | exact ag.br _⟩
abbrev xo(x0:an)(x1:Int):=(d16 x0 x1).1
theorem MR(x0:an)(x1:Int):ag (xo x0 x1) (oM x0 x1):=(d16 x0 x1).2
def xj (x1:(bc→((List bc) ⊕ Empty)→Option (((List bc) ⊕ Empty) × Bool))→((List bc) ⊕ Empty)→Option ((List bc) ⊕ Empty)):Option (List bc) :=
 (x1 (dM (λ (c:bc) (b:(List bc))=>(((dO b [c]).bind λ d =>
 some (.inl d)):Option ((List bc) ⊕ Empty)))) (.inl [])).bind (Sum.elim (λ (b:(List bc)) =>
 some b)
  (λ (o:Empty)=>o.elim))
theorem My{x1 c:(bc→((List bc) ⊕ Empty)→Option (((List bc) ⊕ Empty) × Bool))→((List bc) ⊕ Empty)→Option ((List bc) ⊕ Empty)}(b:∀ ys d,(∀ y s,ag (ys y s) (d y s))→∀ s,ag (x1 ys s) (c d s)):ag (xj x1) (pX c):=by
 unfold xj pX
 with_reducible repeat' first | exact ag.br _ | refine ag.e3 (λ _=>?_) (λ _=>?_) _ | refine ag.dM (λ _ _=>?_) _ _ | refine b _ _ (λ _ _=>?_) _ | exact b | exact f _ _ | refine ag.bu ?_ λ _=>?_
def tV (x0:(bc→((List bc) ⊕ Empty)→Option (((List bc) ⊕ Empty) × Bool))→((List bc) ⊕ Empty)→Option ((List bc) ⊕ Empty)):Option (List bc) :=
 (xj x0).bind λ b =>
 some b
theorem yH{x0 c:(bc→((List bc) ⊕ Empty)→Option (((List bc) ⊕ Empty) × Bool))→((List bc) ⊕ Empty)→Option ((List bc) ⊕ Empty)}(b:∀ ys d,(∀ y s,ag (ys y s) (d y s))→∀ s,ag (x0 ys s) (c d s)):ag (tV x0) (l6 c):=by
 unfold tV l6
 with_reducible repeat' first | exact ag.br _ | refine My (λ _ _ f _=>?_) | refine b _ _ (λ _ _=>?_) _ | exact b | exact f _ _ | refine ag.bu ?_ λ _=>?_
def xp(x0:(List c5))(x1:(c5→a5)):b5 :=
 (hP (O:=(Unit ⊕ Int)) (λ (b:Int) =>
 ab (decide (b < (x0.length:Int)))
 ((idx x0 b).bind λ c =>
 (x1 c).bind λ d =>
 ab d
 (some (.inr (.inr b)))
 (some (.inl (i64 (b+1)))))
 (some (.inr (.inl ())))) 0).bind (Sum.elim (λ (_:Unit) =>
 some (-1))
  (λ q=>some q))
theorem MT(x0:(List c5)){x1 b:(c5→a5)}(c:∀ y,ag (x1 y) (b y)):ag (xp x0 x1) (sw x0 b):=by
 unfold xp sw
 with_reducible repeat' first | exact ag.br _ | refine ag.dD λ _=>?_ | refine ag.ab ?_ ?_ | refine ag.e3 (λ _=>?_) (λ _=>?_) _ | exact c _ | exact d _ _ | refine ag.bu ?_ λ _=>?_
def Bn(x0:(List c5))(x1:(c5→a5)):a5 :=
 (xp x0 x1).bind λ b =>
 some (decide (b ≥ 0))
theorem MP(x0:(List c5)){x1 b:(c5→a5)}(c:∀ y,ag (x1 y) (b y)):ag (Bn x0 x1) (qd x0 b):=by
 unfold Bn qd
 with_reducible repeat' first | exact ag.br _ | refine MT _ (λ _=>?_) | exact c _ | exact d _ _ | refine ag.bu ?_ λ _=>?_
def d143(x0:c5)(x1:bc):{c // ag c (oK x0 x1)}:=⟨_,by
 unfold oK
 with_reducible repeat' first | intro _ | apply ag.bu | exact ag.br _⟩
def d106(x0:an)(x1:bc):{c // ag c (ng x0 x1)}:=⟨_,by
 unfold ng
 with_reducible repeat' first | intro _ | apply MP | apply (d143 _ _).2 | apply ag.bu | exact ag.br _⟩
abbrev Ba(x0:an)(x1:bc):=(d106 x0 x1).1
theorem Mz(x0:an)(x1:bc):ag (Ba x0 x1) (ng x0 x1):=(d106 x0 x1).2
def tP{S:Type}(ys:bc→S→Option (S × Bool)):Nat→Int→an→bc→S→Option (S × (bc × Bool))
 | 0,_,_,_,_=>none
 | k+1,x0,x1,x2,s0 =>
  ab (x0 == (x1.aJ.length:Int))
  (((((Ba x1 x2).bind λ i =>
  ab (!i)
  (some (s0,true))
  ((ys x2 s0).bind λ g =>
  some (g.1,g.2))):Option (S × Bool))).bind (λ (d:(S × Bool)) =>
  some (d.1,(x2,d.2))))
  ((idx x1.aJ x0).bind λ j =>
  (hP (O:=((S × ah) ⊕ (S × (bc × Bool)))) (λ (b:(S × Int × ah)) =>
  (idx x1.aJ x0).bind λ m =>
  ab (decide (b.2.1≤m.bh))
  ((idx b.2.2 x0).bind λ _ =>
  (tP ys k (i64 (x0+1)) x1 (⟨b.2.2.set x0.toNat b.2.1⟩:bc) b.1).bind λ c =>
  ab (!c.2.2)
  (some (.inr (.inr (c.1,(c.2.1,false)))))
  (some (.inl (c.1,i64 (b.2.1+1),c.2.1.deep))))
  (some (.inr (.inl (b.1,b.2.2))))) (s0,j.aZ,x2.deep)).bind (Sum.elim (λ (f:(S × ah)) =>
  some (f.1,((⟨f.2⟩:bc),true)))
   (λ q=>some q)))
theorem Dv{S:Type}{ys b:bc→S→Option (S × Bool)}(h:∀ y s,ag (ys y s) (b y s)):∀ k x0 x1 x2 s0,ag (tP ys k x0 x1 x2 s0) (jd b k x0 x1 x2 s0)
 | 0,_,_,_,_=>ag.none
 | k+1,x0,x1,x2,s0=>by
  have c:=Dv h k
  rw [tP,jd]
  with_reducible repeat' first | exact ag.br _ | refine ag.dD λ _=>?_ | refine ag.ab ?_ ?_ | refine ag.e3 (λ _=>?_) (λ _=>?_) _ | exact Mz _ _ | exact h _ _ | exact c _ _ _ _ | refine ag.bu ?_ λ _=>?_
def tW{S:Type}(ys:bc→S→Option (S × Bool))(x0:an)(s0:S):Option S :=
 (tP ys 9 0 x0 (⟨[0,0,0]⟩:bc) s0).bind λ b =>
  some b.1
theorem uT{S:Type}{ys b:bc→S→Option (S × Bool)}(h:∀ y s,ag (ys y s) (b y s))(x0:an)(s0:S):ag (tW ys x0 s0) (hR b x0 s0):=by
 unfold tW hR
 with_reducible repeat' first | exact ag.br _ | refine Dv (λ _ _=>?_) _ _ _ _ _ | exact h _ _ | refine ag.bu ?_ λ _=>?_
def d17(x0:an):{c // ag c (lq x0)}:=⟨_,by
 unfold lq
 with_reducible repeat' first | intro _ | apply (d53 _).2 | apply yH | apply uT | apply ag.ab | apply ag.bu | exact ag.br _ | exact ‹∀ _ _,ag _ _› _ _⟩
abbrev Bo(x0:an):=(d17 x0).1
theorem MS(x0:an):ag (Bo x0) (lq x0):=(d17 x0).2
def BD(x0:an)(x1:(an→b5)):Option (bU × Int) :=
 (xA x0).bind λ b =>
 ab (b != 0)
 (some ((⟨⟨0,[],[],[],[],[]⟩,[]⟩:bU),b))
 ((x1 x0).bind λ c =>
 ab (c != 0)
 (some ((⟨⟨0,[],[],[],[],[]⟩,[]⟩:bU),c))
 ((tV (λ y s=>tW y x0 s)).bind λ d =>
 ab ((d.length:Int) == 0)
 (some ((⟨⟨0,[],[],[],[],[]⟩,[]⟩:bU),9))
 (some ((⟨⟨x0.Rest,x0.Rows,x0.aJ,x0.ay,x0.az,x0.a0⟩,d⟩:bU),0))))
theorem lV(x0:an){x1 b:(an→b5)}(c:∀ y,ag (x1 y) (b y)):ag (BD x0 x1) (hS x0 b):=by
 unfold BD hS
 with_reducible repeat' first | exact ag.br _ | refine ag.ab ?_ ?_ | exact DC _ | refine yH (λ _ _ d _=>?_) | refine uT (λ _ _=>?_) _ _ | exact c _ | exact d _ _ | refine ag.bu ?_ λ _=>?_
def d107(x0:an)(x1:Int):{c // ag c (iC x0 x1)}:=⟨_,by
 unfold iC
 with_reducible repeat' first | intro _ | apply (d64 _ _).2 | apply ag.bu | exact ag.br _⟩
def d59(x0:Int):{c // ag c (o2 x0)}:=⟨_,by
 unfold o2
 with_reducible repeat' first | intro _ | apply ag.bu | exact ag.br _⟩
def d172(x0:Int):{c // ag c (lZ x0)}:=⟨_,by
 unfold lZ
 with_reducible repeat' first | intro _ | apply ag.bu | exact ag.br _⟩
def d135(x0:Int)(x1:Int):{c // ag c (eh x0 x1)}:=⟨_,by
 unfold eh
 with_reducible repeat' first | intro _ | apply (d172 _).2 | apply ag.ab | apply ag.bu | exact ag.br _⟩
abbrev Bj(x0:Int)(x1:Int):=(d135 x0 x1).1
theorem MK(x0:Int)(x1:Int):ag (Bj x0 x1) (eh x0 x1):=(d135 x0 x1).2
def d129(x0:ah)(x1:Int)(x2:Int):{c // ag c (nh x0 x1 x2)}:=⟨_,by
 unfold nh
 with_reducible repeat' first | intro _ | apply (d135 _ _).2 | apply ag.dD | apply ag.ab | apply ag.bu | exact ag.br _⟩
abbrev Bd(x0:ah)(x1:Int)(x2:Int):=(d129 x0 x1 x2).1
theorem MD(x0:ah)(x1:Int)(x2:Int):ag (Bd x0 x1 x2) (nh x0 x1 x2):=(d129 x0 x1 x2).2
def d167(x0:ah)(x1:Int)(x2:Int)(x3:Int):{c // ag c (np x0 x1 x2 x3)}:=⟨_,by
 unfold np
 with_reducible repeat' first | intro _ | apply (d135 _ _).2 | apply ag.dD | apply ag.ab | apply ag.e3 | apply ag.bu | exact ag.br _⟩
def d130(x0:ah)(x1:Int)(x2:Int):{c // ag c (ni x0 x1 x2)}:=⟨_,by
 unfold ni
 with_reducible repeat' first | intro _ | apply (d167 _ _ _ _).2 | apply ag.dD | apply ag.ab | apply ag.bu | exact ag.br _⟩
abbrev Be(x0:ah)(x1:Int)(x2:Int):=(d130 x0 x1 x2).1
theorem ME(x0:ah)(x1:Int)(x2:Int):ag (Be x0 x1 x2) (ni x0 x1 x2):=(d130 x0 x1 x2).2
def d139(x0:Int):{c // ag c (qb x0)}:=⟨_,by
 unfold qb
 with_reducible repeat' first | intro _ | apply ag.ab | apply ag.bu | exact ag.br _⟩
def d101(x0:Int):{c // ag c (ky x0)}:=⟨_,by
 unfold ky
 with_reducible repeat' first | intro _ | apply (d139 _).2 | apply ag.bu | exact ag.br _⟩
abbrev rv(x0:Int):=(d101 x0).1
theorem Du(x0:Int):ag (rv x0) (ky x0):=(d101 x0).2
def d168(x0:Int):{c // ag c (lp x0)}:=⟨_,by
 unfold lp
 with_reducible repeat' first | intro _ | apply (d101 _).2 | apply ag.bu | exact ag.br _⟩
abbrev ry(x0:Int):=(d168 x0).1
theorem Dy(x0:Int):ag (ry x0) (lp x0):=(d168 x0).2
def d169(x0:Int):{c // ag c (oN x0)}:=⟨_,by
 unfold oN
 with_reducible repeat' first | intro _ | apply ag.bu | exact ag.br _⟩
def d131(x0:ah)(x1:Int)(x2:Int):{c // ag c (lX x0 x1 x2)}:=⟨_,by
 unfold lX
 with_reducible repeat' first | intro _ | apply (d168 _).2 | apply (d169 _).2 | apply ag.dD | apply ag.ab | apply ag.bu | exact ag.br _⟩
abbrev Bf(x0:ah)(x1:Int)(x2:Int):=(d131 x0 x1 x2).1
theorem MF(x0:ah)(x1:Int)(x2:Int):ag (Bf x0 x1 x2) (lX x0 x1 x2):=(d131 x0 x1 x2).2
def d184(x0:ah)(x1:Int)(x2:Int)(x3:Int):{c // ag c (jK x0 x1 x2 x3)}:=⟨_,by
 unfold jK
 with_reducible repeat' first | intro _ | apply (d135 _ _).2 | apply ag.ab | apply ag.bu | exact ag.br _⟩
def d171(x0:ah)(x1:Int)(x2:Int)(x3:Int)(x4:Int):{c // ag c (kz x0 x1 x2 x3 x4)}:=⟨_,by
 unfold kz
 with_reducible repeat' first | intro _ | apply (d184 _ _ _ _).2 | apply ag.bu | exact ag.br _⟩
def d170(x0:ah)(x1:Int)(x2:Int):{c // ag c (jJ x0 x1 x2)}:=⟨_,by
 unfold jJ
 with_reducible repeat' first | intro _ | apply (d171 _ _ _ _ _).2 | apply ag.bu | exact ag.br _⟩
def d132(x0:ah)(x1:Int)(x2:Int):{c // ag c (nj x0 x1 x2)}:=⟨_,by
 unfold nj
 with_reducible repeat' first | intro _ | apply (d170 _ _ _).2 | apply (d171 _ _ _ _ _).2 | apply ag.ab | apply ag.bu | exact ag.br _⟩
abbrev Bg(x0:ah)(x1:Int)(x2:Int):=(d132 x0 x1 x2).1
theorem MG(x0:ah)(x1:Int)(x2:Int):ag (Bg x0 x1 x2) (nj x0 x1 x2):=(d132 x0 x1 x2).2
def d133(x0:ah)(x1:Int)(x2:Int):{c // ag c (lY x0 x1 x2)}:=⟨_,by
 unfold lY
 with_reducible repeat' first | intro _ | apply ag.dD | apply ag.ab | apply ag.bu | exact ag.br _⟩
abbrev Bh(x0:ah)(x1:Int)(x2:Int):=(d133 x0 x1 x2).1
theorem MH(x0:ah)(x1:Int)(x2:Int):ag (Bh x0 x1 x2) (lY x0 x1 x2):=(d133 x0 x1 x2).2
def d134(x0:ah)(x1:Int)(x2:Int):{c // ag c (ln x0 x1 x2)}:=⟨_,by
 unfold ln
 with_reducible repeat' first | intro _ | apply (d135 _ _).2 | apply ag.dD | apply ag.ab | apply ag.e3 | apply ag.bu | exact ag.br _⟩
abbrev Bi(x0:ah)(x1:Int)(x2:Int):=(d134 x0 x1 x2).1
theorem MJ(x0:ah)(x1:Int)(x2:Int):ag (Bi x0 x1 x2) (ln x0 x1 x2):=(d134 x0 x1 x2).2
def d136(x0:ah)(x1:Int)(x2:Int)(x3:Int):{c // ag c (nk x0 x1 x2 x3)}:=⟨_,by
 unfold nk
 with_reducible repeat' first | intro _ | apply (d135 _ _).2 | apply ag.dD | apply ag.ab | apply ag.bu | exact ag.br _⟩
abbrev Bl(x0:ah)(x1:Int)(x2:Int)(x3:Int):=(d136 x0 x1 x2 x3).1
theorem ML(x0:ah)(x1:Int)(x2:Int)(x3:Int):ag (Bl x0 x1 x2 x3) (nk x0 x1 x2 x3):=(d136 x0 x1 x2 x3).2
def d137(x0:ah)(x1:Int)(x2:Int)(x3:Int):{c // ag c (nm x0 x1 x2 x3)}:=⟨_,by
 unfold nm
 with_reducible repeat' first | intro _ | apply (d135 _ _).2 | apply ag.dD | apply ag.ab | apply ag.bu | exact ag.br _⟩
abbrev Bm(x0:ah)(x1:Int)(x2:Int)(x3:Int):=(d137 x0 x1 x2 x3).1
theorem MN(x0:ah)(x1:Int)(x2:Int)(x3:Int):ag (Bm x0 x1 x2 x3) (nm x0 x1 x2 x3):=(d137 x0 x1 x2 x3).2
def tO:Nat→ah→Int→Int→Int→Option ah
 | 0,_,_,_,_=>none
 | k+1,x0,x1,x2,x3 =>
  (hP (O:=ah) (λ (b:(ah × Int × Int × Int × Bool × Bool)) =>
  ab (decide (i64 (b.2.2.1 - b.2.1)≤12))
  ((Bd b.1 b.2.1 b.2.2.1).bind λ s =>
  some (.inr s))
  (ab (b.2.2.2.1 == 0)
  ((Be b.1 b.2.1 b.2.2.1).bind λ w =>
  some (.inr w))
  ((((ab (!b.2.2.2.2.1)
  ((Bf b.1 b.2.1 b.2.2.1).bind λ y =>
  some (y,i64 (b.2.2.2.1 - 1)))
  (some (b.1,b.2.2.2.1))):Option (ah × Int))).bind (λ (d:(ah × Int)) =>
  (Bg d.1 b.2.1 b.2.2.1).bind λ i =>
  (((ab (i.2 == 2)
  ((Bh d.1 b.2.1 b.2.2.1).bind λ z =>
  some (z,i64 ((i64 (b.2.2.1 - 1)) - (i64 (i.1 - b.2.1))),1))
  (some (d.1,i.1,i.2))):Option (ah × Int × Int))).bind (λ (f:(ah × Int × Int)) =>
  (((ab b.2.2.2.2.1
  (ab b.2.2.2.2.2
  (some (f.2.2 == 1))
  (some false))
  (some false)):a5)).bind (λ (o:Bool) =>
  (((ab o
  ((Bi f.1 b.2.1 b.2.2.1).bind λ j =>
  ab j.2
  (some (.inr j.1))
  (some (.inl j.1)))
  (some (.inl f.1))):Option (ah ⊕ ah))).bind (Sum.elim (λ (g:ah) =>
  (((ab (decide (b.2.1 > 0))
  ((idx g (i64 (b.2.1 - 1))).bind λ A =>
  (idx g f.2.1).bind λ B =>
  (Bj A B).bind λ C =>
  some (!C))
  (some false)):a5)).bind (λ (p:Bool) =>
  ab p
  ((Bl g b.2.1 b.2.2.1 f.2.1).bind λ m =>
  some (.inl (m.1,m.2,b.2.2.1,d.2,b.2.2.2.2.1,b.2.2.2.2.2)))
  ((Bm g b.2.1 b.2.2.1 f.2.1).bind λ c =>
  (gp (i64 (b.2.2.1 - b.2.1)) 8).bind λ n =>
  ab (decide (i64 (c.2.1 - b.2.1) < i64 (b.2.2.1 - c.2.1)))
  ((tO k c.1 b.2.1 c.2.1 d.2).bind λ D =>
  some (.inl (D,i64 (c.2.1+1),b.2.2.1,d.2,decide (i64 (c.2.1 - b.2.1) ≥ n),c.2.2)))
  ((tO k c.1 (i64 (c.2.1+1)) b.2.2.1 d.2).bind λ E =>
  some (.inl (E,b.2.1,c.2.1,d.2,decide (i64 (b.2.2.1 - c.2.1) ≥ n),c.2.2))))))
   (λ q=>some (.inr q))))))))) (x0,x1,x2,x3,true,true)).bind (λ q=>some q)
theorem Dt:∀ k x0 x1 x2 x3,ag (tO k x0 x1 x2 x3) (kx k x0 x1 x2 x3)
 | 0,_,_,_,_=>ag.none
 | k+1,x0,x1,x2,x3=>by
  have b:=Dt k
  rw [tO,kx]
  with_reducible repeat' first | exact ag.br _ | refine ag.dD λ _=>?_ | refine ag.ab ?_ ?_ | refine ag.e3 (λ _=>?_) (λ _=>?_) _ | exact MD _ _ _ | exact ME _ _ _ | exact MF _ _ _ | exact MG _ _ _ | exact MH _ _ _ | exact MJ _ _ _ | exact MK _ _ | exact ML _ _ _ _ | exact MN _ _ _ _ | exact b _ _ _ _ | refine ag.bu ?_ λ _=>?_
def d41(x0:ah):{c // ag c (l3 x0)}:=⟨_,by
 unfold l3
 with_reducible repeat' first | intro _ | apply Dt | apply (d101 _).2 | apply ag.bu | exact ag.br _⟩
abbrev BA(x0:ah):=(d41 x0).1
theorem Ng(x0:ah):ag (BA x0) (l3 x0):=(d41 x0).2
def d42(x0:ah):{c // ag c (l4 x0)}:=⟨_,by
 unfold l4
 with_reducible repeat' first | intro _ | apply ag.dD | apply ag.ab | apply ag.e3 | apply ag.bu | exact ag.br _⟩
abbrev BB(x0:ah):=(d42 x0).1
theorem Nh(x0:ah):ag (BB x0) (l4 x0):=(d42 x0).2
def BE(x0:bU)(x1:(bc→b5)):Option ah :=
 (hP (O:=ah) (λ (b:(ah × Int)) =>
 ab (decide (b.2 < (x0.cY.length:Int)))
 ((idx x0.cY b.2).bind λ d =>
 (x1 d).bind λ f =>
 (dO b.1 [f]).bind λ g =>
 some (.inl (g,i64 (b.2+1))))
 (some (.inr b.1))) ([],0)).bind (λ (c:ah) =>
 (BA c).bind λ i =>
 (BB i).bind λ j =>
 some j)
theorem DD(x0:bU){x1 b:(bc→b5)}(c:∀ y,ag (x1 y) (b y)):ag (BE x0 x1) (nq x0 b):=by
 unfold BE nq
 with_reducible repeat' first | exact ag.br _ | refine ag.dD λ _=>?_ | refine ag.ab ?_ ?_ | exact Ng _ | exact Nh _ | exact c _ | exact d _ _ | refine ag.bu ?_ λ _=>?_
def d61(x0:bc)(x1:Int):{c // ag c (o3 x0 x1)}:=⟨_,by
 unfold o3
 with_reducible repeat' first | intro _ | apply ag.bu | exact ag.br _⟩
def d18(x0:an)(x1:Int):{c // ag c (lu x0 x1)}:=⟨_,by
 unfold lu
 with_reducible repeat' first | intro _ | apply lV | apply (d59 _).2 | apply DD | apply (d61 _ _).2 | apply (d107 _ _).2 | apply ag.ab | apply ag.bu | exact ag.br _⟩
abbrev Bp(x0:an)(x1:Int):=(d18 x0 x1).1
theorem MU(x0:an)(x1:Int):ag (Bp x0 x1) (lu x0 x1):=(d18 x0 x1).2
def d62(x0:bc)(x1:bU)(x2:Int):{c // ag c (qz x0 x1 x2)}:=⟨_,by
 unfold qz
 with_reducible repeat' first | intro _ | apply (d55 _ _).2 | apply ag.bu | exact ag.br _⟩
def d19(x0:an)(x1:Int):{c // ag c (qe x0 x1)}:=⟨_,by
 unfold qe
 with_reducible repeat' first | intro _ | apply lV | apply (d59 _).2 | apply DD | apply (d62 _ _ _).2 | apply (d107 _ _).2 | apply ag.ab | apply ag.bu | exact ag.br _⟩
abbrev Bq(x0:an)(x1:Int):=(d19 x0 x1).1
theorem MV(x0:an)(x1:Int):ag (Bq x0 x1) (qe x0 x1):=(d19 x0 x1).2
def d63(x0:an)(x1:Int)(x2:Int):{c // ag c (ns x0 x1 x2)}:=⟨_,by
 unfold ns
 with_reducible repeat' first | intro _ | apply (d64 _ _).2 | apply ag.bu | exact ag.br _⟩
def d65(x0:bU)(x1:Int):{c // ag c (l7 x0 x1)}:=⟨_,by
 unfold l7
 with_reducible repeat' first | intro _ | apply ag.ab | apply ag.bu | exact ag.br _⟩
abbrev BG(x0:bU)(x1:Int):=(d65 x0 x1).1
theorem Nl(x0:bU)(x1:Int):ag (BG x0 x1) (l7 x0 x1):=(d65 x0 x1).2
def d67(x0:bc)(x1:bU)(x2:Int)(x3:Int):{c // ag c (o4 x0 x1 x2 x3)}:=⟨_,by
 unfold o4
 with_reducible repeat' first | intro _ | apply (d68 _ _ _ _).2 | apply ag.bu | exact ag.br _⟩
def d20(x0:an)(x1:Int)(x2:Int):{c // ag c (jL x0 x1 x2)}:=⟨_,by
 unfold jL
 with_reducible repeat' first | intro _ | apply lV | apply (d63 _ _ _).2 | apply (d65 _ _).2 | apply uU | apply (d67 _ _ _ _).2 | apply ag.ab | apply ag.bu | exact ag.br _⟩
abbrev tS(x0:an)(x1:Int)(x2:Int):=(d20 x0 x1 x2).1
theorem MW(x0:an)(x1:Int)(x2:Int):ag (tS x0 x1 x2) (jL x0 x1 x2):=(d20 x0 x1 x2).2
def d69(x0:an)(x1:Int)(x2:Int):{c // ag c (nu x0 x1 x2)}:=⟨_,by
 unfold nu
 with_reducible repeat' first | intro _ | apply ag.ab | apply ag.bu | exact ag.br _⟩
def d21(x0:an)(x1:Int)(x2:Int):{c // ag c (qf x0 x1 x2)}:=⟨_,by
 unfold qf
 with_reducible repeat' first | intro _ | apply (d53 _).2 | apply (d64 _ _).2 | apply (d69 _ _ _).2 | apply ag.ab | apply ag.bu | exact ag.br _⟩
abbrev Br(x0:an)(x1:Int)(x2:Int):=(d21 x0 x1 x2).1
theorem MX(x0:an)(x1:Int)(x2:Int):ag (Br x0 x1 x2) (qf x0 x1 x2):=(d21 x0 x1 x2).2
def d85(x0:ah):{c // ag c (mc x0)}:=⟨_,by
 unfold mc
 with_reducible repeat' first | intro _ | apply ag.dD | apply ag.ab | apply ag.bu | exact ag.br _⟩
abbrev BN(x0:ah):=(d85 x0).1
theorem Ns(x0:ah):ag (BN x0) (mc x0):=(d85 x0).2
def xC(x0:an)(x1:bB):Option (aW × Int) :=
 ab ((x1.length:Int) != (x0.az.length:Int))
 (some ([false,false,false,false,false,false,false,false,false,false,false,false,false,false,false,false],2))
 ((hP (O:=(aW ⊕ (aW × Int))) (λ (b:(Int × aW)) =>
 ab (decide (b.1 < (x1.length:Int)))
 ((idx x1 b.1).bind λ d =>
 (idx x0.az b.1).bind λ k =>
 ab ((d.length:Int) != k.ay)
 (some (.inr (.inr ([false,false,false,false,false,false,false,false,false,false,false,false,false,false,false,false],2))))
 ((hP (O:=(Unit ⊕ (aW × Int))) (λ (c:Int) =>
 ab (decide (c < (d.length:Int)))
 ((idx d c).bind λ f =>
 (BF f (x0.ay.length:Int)).bind λ g =>
 ab (g != 0)
 (some (.inr (.inr ([false,false,false,false,false,false,false,false,false,false,false,false,false,false,false,false],g))))
 ((((ab (decide (c > 0))
 ((idx d (i64 (c - 1))).bind λ m =>
 some (decide (f≤m)))
 (some false)):a5)).bind (λ (j:Bool) =>
 ab j
 (some (.inr (.inr ([false,false,false,false,false,false,false,false,false,false,false,false,false,false,false,false],7))))
 (some (.inl (i64 (c+1)))))))
 (some (.inr (.inl ())))) 0).bind (Sum.elim (λ (_:Unit) =>
 (BN d).bind λ n =>
 (eo 4 b.2 b.1).bind λ _ =>
 some (.inl (i64 (b.1+1),qR 4 b.2 b.1 n)))
  (λ q=>some (.inr (.inr q))))))
 (some (.inr (.inl b.2)))) (0,[false,false,false,false,false,false,false,false,false,false,false,false,false,false,false,false])).bind (Sum.elim (λ (i:aW) =>
 some (i,0))
  (λ q=>some q)))
theorem Nn(x0:an)(x1:bB):ag (xC x0 x1) (sK x0 x1):=by
 unfold xC sK
 with_reducible repeat' first | exact ag.br _ | refine ag.dD λ _=>?_ | refine ag.ab ?_ ?_ | refine ag.e3 (λ _=>?_) (λ _=>?_) _ | exact Nk _ _ | exact Ns _ | exact b _ _ | refine ag.bu ?_ λ _=>?_
def xB(x0:an)(x1:bB)(_:aW):Option (aW × Int) :=
 (xC x0 x1).bind λ b =>
 some (b.1,b.2)
theorem Nm(x0:an)(x1:bB)(x2:aW):ag (xB x0 x1 x2) (sJ x0 x1 x2):=by
 unfold xB sJ
 with_reducible repeat' first | exact ag.br _ | exact Nn _ _ | exact b _ _ | refine ag.bu ?_ λ _=>?_
def d72(x0:an)(x1:aW)(x2:Int):{c // ag c (l9 x0 x1 x2)}:=⟨_,by
 unfold l9
 with_reducible repeat' first | intro _ | apply (d69 _ _ _).2 | apply ag.dD | apply ag.ab | apply ag.e3 | apply ag.bu | exact ag.br _⟩
abbrev xD(x0:an)(x1:aW)(x2:Int):=(d72 x0 x1 x2).1
theorem yI(x0:an)(x1:aW)(x2:Int):ag (xD x0 x1 x2) (l9 x0 x1 x2):=(d72 x0 x1 x2).2
def d73(x0:bc)(x1:an)(x2:aW)(x3:bU):{c // ag c (o5 x0 x1 x2 x3)}:=⟨_,by
 unfold o5
 with_reducible repeat' first | intro _ | apply (d68 _ _ _ _).2 | apply ag.dD | apply ag.ab | apply ag.e3 | apply ag.bu | exact ag.br _⟩
abbrev BH(x0:bc)(x1:an)(x2:aW)(x3:bU):=(d73 x0 x1 x2 x3).1
theorem No(x0:bc)(x1:an)(x2:aW)(x3:bU):ag (BH x0 x1 x2 x3) (o5 x0 x1 x2 x3):=(d73 x0 x1 x2 x3).2
def xk(x0:an)(g:bB)(c:aW):Option (aW × bU × Int) :=
 (xA x0).bind λ d =>
 ab (d != 0)
 (some (c,(⟨⟨0,[],[],[],[],[]⟩,[]⟩:bU),d))
 ((xB x0 g c).bind λ b =>
 ab (b.2 != 0)
 (some (b.1,(⟨⟨0,[],[],[],[],[]⟩,[]⟩:bU),b.2))
 ((tV (λ y s=>tW y x0 s)).bind λ f =>
 ab ((f.length:Int) == 0)
 (some (b.1,(⟨⟨0,[],[],[],[],[]⟩,[]⟩:bU),9))
 (some (b.1,(⟨⟨x0.Rest,x0.Rows,x0.aJ,x0.ay,x0.az,x0.a0⟩,f⟩:bU),0))))
theorem MA(x0:an)(b:bB)(c:aW):ag (xk x0 b c) (se x0 b c):=by
 unfold xk se
 with_reducible repeat' first | exact ag.br _ | refine ag.ab ?_ ?_ | exact DC _ | refine yH (λ _ _ d _=>?_) | refine uT (λ _ _=>?_) _ _ | exact Nm _ _ _ | exact d _ _ | refine ag.bu ?_ λ _=>?_
def tT(x0:an)(x1:bB):Option (Int × Int) :=
 (xk x0 x1 [false,false,false,false,false,false,false,false,false,false,false,false,false,false,false,false]).bind λ b =>
 ab (b.2.2 != 0)
 (some (0,b.2.2))
 ((hP (O:=(Unit ⊕ (Int × Int))) (λ (c:Int) =>
 ab (decide (c < (x0.az.length:Int)))
 ((xD b.2.1.book b.1 c).bind λ d =>
 ab (!d)
 (some (.inr (.inr (2,0))))
 (some (.inl (i64 (c+1)))))
 (some (.inr (.inl ())))) 0).bind (Sum.elim (λ (_:Unit) =>
 (tX b.2.1 (λ y=>BH y x0 b.1 b.2.1)).bind λ f =>
 (BG b.2.1 f).bind λ g =>
 some (g,0))
  (λ q=>some q)))
theorem MY(x0:an)(x1:bB):ag (tT x0 x1) (qh x0 x1):=by
 unfold tT qh
 with_reducible repeat' first | exact ag.br _ | refine ag.dD λ _=>?_ | refine ag.ab ?_ ?_ | refine ag.e3 (λ _=>?_) (λ _=>?_) _ | exact Nl _ _ | refine uU _ (λ _=>?_) | exact yI _ _ _ | exact No _ _ _ _ | exact MA _ _ _ | exact b _ _ | refine ag.bu ?_ λ _=>?_
def d108(x0:ah)(x1:ah):{c // ag c (pZ x0 x1)}:=⟨_,by
 unfold pZ
 with_reducible repeat' first | intro _ | apply ag.dD | apply ag.ab | apply ag.e3 | apply ag.bu | exact ag.br _⟩
def d74(x0:ah)(x1:ah):{c // ag c (o6 x0 x1)}:=⟨_,by
 unfold o6
 with_reducible repeat' first | intro _ | apply (d108 _ _).2 | apply ag.ab | apply ag.bu | exact ag.br _⟩
abbrev BI(x0:ah)(x1:ah):=(d74 x0 x1).1
theorem Np(x0:ah)(x1:ah):ag (BI x0 x1) (o6 x0 x1):=(d74 x0 x1).2
def d23(x0:ah)(x1:ah):{c // ag c (l2 x0 x1)}:=⟨_,by
 unfold l2
 with_reducible repeat' first | intro _ | apply (d74 _ _).2 | apply ag.bu | exact ag.br _⟩
abbrev rz(x0:ah)(x1:ah):=(d23 x0 x1).1
theorem M5(x0:ah)(x1:ah):ag (rz x0 x1) (l2 x0 x1):=(d23 x0 x1).2
def d75(x0:an):{c // ag c (hv x0)}:=⟨_,by
 unfold hv
 with_reducible repeat' first | intro _ | apply ag.bu | exact ag.br _⟩
def mT{S:Type}(ys:aW→S→Option (S × Bool)):Nat→(aW→Int→bU→Int→aW→aW→S→Option (S × Bool)) × (aW→Int→Int→Int→bU→Int→aW→aW→S→Option (S × Bool))
 | 0=>(λ _ _ _ _ _ _ _=>none,λ _ _ _ _ _ _ _ _ _=>none)
 | k+1=>(λ x0 x1 c g f d s0 =>
  ab (x1 == (c.book.az.length:Int))
  ((ys x0 s0).bind λ n =>
  some (n.1,n.2))
  ((eR .i64 g x1).bind λ A =>
  (cC .and .i64 A 1).bind λ i =>
  ab (i == 1)
  (((mT ys k).1 x0 (i64 (x1+1)) c g f d s0).bind λ p =>
  some (p.1,p.2))
  ((idx c.book.az x1).bind λ B =>
  ((mT ys k).2 x0 x1 0 B.ay c g f d s0).bind λ s =>
  some (s.1,s.2))),
  λ x0 x1 x2 x3 c g f d s0 =>
  ab (x3 == 0)
  (((((xD c.book x0 x1).bind λ i =>
  ab (!i)
  (some (s0,true))
  (((mT ys k).1 x0 (i64 (x1+1)) c g f d s0).bind λ o =>
  some (o.1,o.2))):Option (S × Bool))).bind (λ (m:(S × Bool)) =>
  some (m.1,m.2)))
  ((hP (O:=(S ⊕ (S × Bool))) (λ (b:(S × Int × aW)) =>
  ab (decide (b.2.1 < (c.book.ay.length:Int)))
  (((((idx f b.2.1).bind λ C =>
  ab (!C)
  (some true)
  ((eo 4 d x1).bind λ D =>
  (idx D b.2.1).bind λ E =>
  some (!E))):a5)).bind (λ (y:Bool) =>
  ab y
  (some (.inl (b.1,i64 (b.2.1+1),b.2.2)))
  ((eo 4 b.2.2 x1).bind λ F =>
  (idx F b.2.1).bind λ _ =>
  ((mT ys k).2 (fT 4 b.2.2 x1 b.2.1 true) x1 (i64 (b.2.1+1)) (i64 (x3 - 1)) c g f d b.1).bind λ j =>
  ab (!j.2)
  (some (.inr (.inr (j.1,false))))
  ((eo 4 (fT 4 b.2.2 x1 b.2.1 true) x1).bind λ z =>
  (idx z b.2.1).bind λ _ =>
  some (.inl (j.1,i64 (b.2.1+1),fT 4 (fT 4 b.2.2 x1 b.2.1 true) x1 b.2.1 false))))))
  (some (.inr (.inl b.1)))) (s0,x2,x0)).bind (Sum.elim (λ (w:S) =>
  some (w,true))
   (λ q=>some q))))
theorem Dx{S:Type}{ys b:aW→S→Option (S × Bool)}(h:∀ y s,ag (ys y s) (b y s)):∀ k,(∀ x0 x1 x2 x3 x4 x5 s0,ag ((mT ys k).1 x0 x1 x2 x3 x4 x5 s0) ((fo b k).1 x0 x1 x2 x3 x4 x5 s0))∧(∀ x0 x1 x2 x3 x4 x5 x6 x7 s0,ag ((mT ys k).2 x0 x1 x2 x3 x4 x5 x6 x7 s0) ((fo b k).2 x0 x1 x2 x3 x4 x5 x6 x7 s0))
 | 0=>⟨λ _ _ _ _ _ _ _=>ag.none,λ _ _ _ _ _ _ _ _ _=>ag.none⟩
 | k+1=>by
  have c:=Dx h k
  have d:=c.1
  have f:=c.2
  rw [mT,fo]
  constructor
  ·intro x0 x1 x2 x3 x4 x5 s0
   dsimp only
   with_reducible repeat' first | exact ag.br _ | refine ag.dD λ _=>?_ | refine ag.ab ?_ ?_ | refine ag.e3 (λ _=>?_) (λ _=>?_) _ | exact yI _ _ _ | exact h _ _ | exact d _ _ _ _ _ _ _ | exact f _ _ _ _ _ _ _ _ _ | refine ag.bu ?_ λ _=>?_
  ·intro x0 x1 x2 x3 x4 x5 x6 x7 s0
   dsimp only
   repeat' (first | with_reducible exact ag.br _ | with_reducible refine ag.dD λ _=>?_ | with_reducible refine ag.ab ?_ ?_ | with_reducible refine ag.e3 (λ _=>?_) (λ _=>?_) _ | with_reducible refine ag.dM (λ _ _=>?_) _ _ | with_reducible exact yI _ _ _ | with_reducible exact h _ _ | with_reducible exact d _ _ _ _ _ _ _ | with_reducible exact f _ _ _ _ _ _ _ _ _ | with_reducible refine ag.bu ?_ λ _=>?_)
def Bb{S:Type}(ys:aW→S→Option (S × Bool))(x1:bU)(x2:Int)(x3:aW)(x4:aW)(s0:S):Option S :=
 ((mT ys 40).1 [false,false,false,false,false,false,false,false,false,false,false,false,false,false,false,false] 0 x1 x2 x3 x4 s0).bind λ b =>
  some b.1
theorem uS{S:Type}{ys b:aW→S→Option (S × Bool)}(h:∀ y s,ag (ys y s) (b y s))(x1:bU)(x2:Int)(x3:aW)(x4:aW)(s0:S):ag (Bb ys x1 x2 x3 x4 s0) (hQ b x1 x2 x3 x4 s0):=by
 unfold Bb hQ
 with_reducible repeat' first | exact ag.br _ | refine (Dx (λ _ _=>?_) 40).1 _ _ _ _ _ _ _ | exact h _ _ | refine ag.bu ?_ λ _=>?_
def d76(x0:bU)(x1:aW)(x2:aW)(x3:Int):{c // ag c (kG x0 x1 x2 x3)}:=⟨_,by
 unfold kG
 with_reducible repeat' first | intro _ | apply ag.bu | exact ag.br _⟩
def d78(x0:an):{c // ag c (kH x0)}:=⟨_,by
 unfold kH
 with_reducible repeat' first | intro _ | apply ag.dD | apply ag.ab | apply ag.bu | exact ag.br _⟩
def d25(x0:an):{c // ag c (kC x0)}:=⟨_,by
 unfold kC
 with_reducible repeat' first | intro _ | apply lV | apply (d75 _).2 | apply (d76 _ _ _ _).2 | apply rZ | apply (d78 _).2 | apply uS | apply ag.ab | apply ag.e3 | apply ag.dM | apply ag.bu | exact ag.br _⟩
abbrev xw(x0:an):=(d25 x0).1
theorem M6(x0:an):ag (xw x0) (kC x0):=(d25 x0).2
def d79(x0:an)(x1:aW):{c // ag c (nv x0 x1)}:=⟨_,by
 unfold nv
 with_reducible repeat' first | intro _ | apply ag.dD | apply ag.ab | apply ag.bu | exact ag.br _⟩
def d26(x0:an):{c // ag c (qk x0)}:=⟨_,by
 unfold qk
 with_reducible repeat' first | intro _ | apply lV | apply (d75 _).2 | apply (d76 _ _ _ _).2 | apply rZ | apply (d78 _).2 | apply (d79 _ _).2 | apply uS | apply ag.ab | apply ag.e3 | apply ag.dM | apply ag.bu | exact ag.br _⟩
abbrev Bu(x0:an):=(d26 x0).1
theorem M7(x0:an):ag (Bu x0) (qk x0):=(d26 x0).2
def xl(x1:(aW→(cM ⊕ Empty)→Option ((cM ⊕ Empty) × Bool))→(cM ⊕ Empty)→Option (cM ⊕ Empty)):Option cM :=
 (x1 (dM (λ (c:aW) (b:cM)=>(((dO b [c]).bind λ d =>
 some (.inl d)):Option (cM ⊕ Empty)))) (.inl [])).bind (Sum.elim (λ (b:cM) =>
 some b)
  (λ (o:Empty)=>o.elim))
theorem MC{x1 c:(aW→(cM ⊕ Empty)→Option ((cM ⊕ Empty) × Bool))→(cM ⊕ Empty)→Option (cM ⊕ Empty)}(b:∀ ys d,(∀ y s,ag (ys y s) (d y s))→∀ s,ag (x1 ys s) (c d s)):ag (xl x1) (p0 c):=by
 unfold xl p0
 with_reducible repeat' first | exact ag.br _ | refine ag.e3 (λ _=>?_) (λ _=>?_) _ | refine ag.dM (λ _ _=>?_) _ _ | refine b _ _ (λ _ _=>?_) _ | exact b | exact f _ _ | refine ag.bu ?_ λ _=>?_
def BK(x0:(aW→(cM ⊕ Empty)→Option ((cM ⊕ Empty) × Bool))→(cM ⊕ Empty)→Option (cM ⊕ Empty)):Option cM :=
 (xl x0).bind λ b =>
 some b
theorem Nq{x0 c:(aW→(cM ⊕ Empty)→Option ((cM ⊕ Empty) × Bool))→(cM ⊕ Empty)→Option (cM ⊕ Empty)}(b:∀ ys d,(∀ y s,ag (ys y s) (d y s))→∀ s,ag (x0 ys s) (c d s)):ag (BK x0) (o7 c):=by
 unfold BK o7
 with_reducible repeat' first | exact ag.br _ | refine MC (λ _ _ f _=>?_) | refine b _ _ (λ _ _=>?_) _ | exact b | exact f _ _ | refine ag.bu ?_ λ _=>?_
def BL(x0:(aW→b5))(x1:cM):Option aW :=
 (idx x1 0).bind λ g =>
 (fP x1 1 (x1.length:Int)).bind λ c =>
 (hP (O:=aW) (λ (b:(Int × aW)) =>
 ab (decide (b.1 < (c.length:Int)))
 ((idx c b.1).bind λ d =>
 (x0 d).bind λ i =>
 (x0 b.2).bind λ j =>
 ab (decide (i < j))
 (some (.inl (i64 (b.1+1),d)))
 (some (.inl (i64 (b.1+1),b.2))))
 (some (.inr b.2))) (0,g)).bind (λ (f:aW) =>
 some f)
theorem Nr{x0 b:(aW→b5)}(c:∀ y,ag (x0 y) (b y))(x1:cM):ag (BL x0 x1) (o8 b x1):=by
 unfold BL o8
 with_reducible repeat' first | exact ag.br _ | refine ag.dD λ _=>?_ | refine ag.ab ?_ ?_ | exact c _ | exact d _ _ | refine ag.bu ?_ λ _=>?_
def d82(x0:an)(x1:aW):{c // ag c (ma x0 x1)}:=⟨_,by
 unfold ma
 with_reducible repeat' first | intro _ | apply ag.dD | apply ag.ab | apply ag.bu | exact ag.br _⟩
def d27(x0:an):{c // ag c (lx x0)}:=⟨_,by
 unfold lx
 with_reducible repeat' first | intro _ | apply lV | apply (d75 _).2 | apply (d76 _ _ _ _).2 | apply rZ | apply (d78 _).2 | apply (d79 _ _).2 | apply Nq | apply Nr | apply (d82 _ _).2 | apply uS | apply ag.ab | apply ag.bu | exact ag.br _ | exact ‹∀ _ _,ag _ _› _ _⟩
abbrev Bv(x0:an):=(d27 x0).1
theorem M8(x0:an):ag (Bv x0) (lx x0):=(d27 x0).2
def d86(x0:Int):{c // ag c (me x0)}:=⟨_,by
 unfold me
 with_reducible repeat' first | intro _ | apply ag.dD | apply ag.ab | apply ag.bu | exact ag.br _⟩
abbrev xE(x0:Int):=(d86 x0).1
theorem DF(x0:Int):ag (xE x0) (me x0):=(d86 x0).2
def d164(x0:Int)(x1:Int):{c // ag c (sj x0 x1)}:=⟨_,by
 unfold sj
 with_reducible repeat' first | intro _ | apply (d172 _).2 | apply ag.ab | apply ag.bu | exact ag.br _⟩
def d120(x0:ah)(x1:ah):{c // ag c (oH x0 x1)}:=⟨_,by
 unfold oH
 with_reducible repeat' first | intro _ | apply (d164 _ _).2 | apply ag.dD | apply ag.ab | apply ag.e3 | apply ag.bu | exact ag.br _⟩
abbrev tR(x0:ah)(x1:ah):=(d120 x0 x1).1
theorem Dw(x0:ah)(x1:ah):ag (tR x0 x1) (oH x0 x1):=(d120 x0 x1).2
def BM(x0:Int)(x1:(Int→a5)):Option (ah × Bool) :=
 (gX .i64 1 x0).bind λ m =>
 (hP (O:=(ah × Bool)) (λ (b:(ah × Bool × Int)) =>
 ab (decide (b.2.2 < m))
 ((xE b.2.2).bind λ c =>
 (((ab (!b.2.1)
 ((x1 b.2.2).bind λ g =>
 some g)
 (ab (decide ((c.length:Int) < (b.1.length:Int)))
 ((x1 b.2.2).bind λ i =>
 some i)
 (ab ((c.length:Int) == (b.1.length:Int))
 ((tR c b.1).bind λ j =>
 ab (decide (j < 0))
 ((x1 b.2.2).bind λ k =>
 some k)
 (some false))
 (some false)))):a5)).bind (λ (f:Bool) =>
 ab f
 (some (.inl (c,true,i64 (b.2.2+1))))
 (some (.inl (b.1,b.2.1,i64 (b.2.2+1))))))
 (some (.inr (b.1,b.2.1)))) ([],false,0)).bind (λ (d:(ah × Bool)) =>
 some (d.1,d.2))
theorem yJ(x0:Int){x1 b:(Int→a5)}(c:∀ y,ag (x1 y) (b y)):ag (BM x0 x1) (mb x0 b):=by
 unfold BM mb
 with_reducible repeat' first | exact ag.br _ | refine ag.dD λ _=>?_ | refine ag.ab ?_ ?_ | exact DF _ | exact Dw _ _ | exact c _ | exact d _ _ | refine ag.bu ?_ λ _=>?_
def d87(x0:bU)(x1:aW)(x2:aW)(x3:Int):{c // ag c (mf x0 x1 x2 x3)}:=⟨_,by
 unfold mf
 with_reducible repeat' first | intro _ | apply (d76 _ _ _ _).2 | apply uS | apply ag.e3 | apply ag.dM | apply ag.bu | exact ag.br _⟩
def d84(x0:Int)(x1:bU)(x2:aW)(x3:aW):{c // ag c (o9 x0 x1 x2 x3)}:=⟨_,by
 unfold o9
 with_reducible repeat' first | intro _ | apply (d85 _).2 | apply (d86 _).2 | apply (d87 _ _ _ _).2 | apply ag.ab | apply ag.bu | exact ag.br _⟩
def d28(x0:an):{c // ag c (ly x0)}:=⟨_,by
 unfold ly
 with_reducible repeat' first | intro _ | apply lV | apply (d75 _).2 | apply rZ | apply (d78 _).2 | apply yJ | apply (d84 _ _ _ _).2 | apply ag.ab | apply ag.bu | exact ag.br _⟩
abbrev Bw(x0:an):=(d28 x0).1
theorem M9(x0:an):ag (Bw x0) (ly x0):=(d28 x0).2
def d88(x0:Int)(x1:bU)(x2:aW)(x3:aW):{c // ag c (pa x0 x1 x2 x3)}:=⟨_,by
 unfold pa
 with_reducible repeat' first | intro _ | apply (d87 _ _ _ _).2 | apply ag.bu | exact ag.br _⟩
def d29(x0:an):{c // ag c (kD x0)}:=⟨_,by
 unfold kD
 with_reducible repeat' first | intro _ | apply lV | apply (d75 _).2 | apply rZ | apply (d78 _).2 | apply yJ | apply (d88 _ _ _ _).2 | apply ag.ab | apply ag.bu | exact ag.br _⟩
abbrev xx(x0:an):=(d29 x0).1
theorem Na(x0:an):ag (xx x0) (kD x0):=(d29 x0).2
def d89(x0:bc)(x1:Int)(x2:Int):{c // ag c (qB x0 x1 x2)}:=⟨_,by
 unfold qB
 with_reducible repeat' first | intro _ | apply ag.bu | exact ag.br _⟩
def d30(x0:an):{c // ag c (ql x0)}:=⟨_,by
 unfold ql
 with_reducible repeat' first | intro _ | apply lV | apply uU | apply (d75 _).2 | apply (d89 _ _ _).2 | apply ag.dD | apply ag.ab | apply ag.bu | exact ag.br _⟩
abbrev Bx(x0:an):=(d30 x0).1
theorem Nb(x0:an):ag (Bx x0) (ql x0):=(d30 x0).2
def d37(x0:(List Reach)):{c // ag c (kE x0)}:=⟨_,by
 unfold kE
 with_reducible repeat' first | intro _ | apply ag.bu | exact ag.br _⟩
def d121(x0:(List dJ)):{c // ag c (p5 x0)}:=⟨_,by
 unfold p5
 with_reducible repeat' first | intro _ | apply ag.bu | exact ag.br _⟩
def d122(x0:(List dk)):{c // ag c (p6 x0)}:=⟨_,by
 unfold p6
 with_reducible repeat' first | intro _ | apply ag.bu | exact ag.br _⟩
def d123(x0:(List gD)):{c // ag c (p7 x0)}:=⟨_,by
 unfold p7
 with_reducible repeat' first | intro _ | apply ag.bu | exact ag.br _⟩
def d124(x0:(List c5)):{c // ag c (p8 x0)}:=⟨_,by
 unfold p8
 with_reducible repeat' first | intro _ | apply ag.bu | exact ag.br _⟩
def d90(x0:an):{c // ag c (sL x0)}:=⟨_,by
 unfold sL
 with_reducible repeat' first | intro _ | apply (d37 _).2 | apply (d121 _).2 | apply (d122 _).2 | apply (d123 _).2 | apply (d124 _).2 | apply ag.bu | exact ag.br _⟩
def d31(x0:an)(x1:Int)(x2:Int):{c // ag c (qm x0 x1 x2)}:=⟨_,by
 unfold qm
 with_reducible repeat' first | intro _ | apply (d53 _).2 | apply (d54 _ _ _).2 | apply (d55 _ _).2 | apply (d90 _).2 | apply ag.dD | apply ag.ab | apply ag.bu | exact ag.br _⟩
abbrev By(x0:an)(x1:Int)(x2:Int):=(d31 x0 x1 x2).1
theorem Nc(x0:an)(x1:Int)(x2:Int):ag (By x0 x1 x2) (qm x0 x1 x2):=(d31 x0 x1 x2).2
def d92(x0:an)(x1:Int):{c // ag c (sN x0 x1)}:=⟨_,by
 unfold sN
 with_reducible repeat' first | intro _ | apply (d86 _).2 | apply ag.dD | apply ag.ab | apply ag.bu | exact ag.br _⟩
def d93(x0:an):{c // ag c (sO x0)}:=⟨_,by
 unfold sO
 with_reducible repeat' first | intro _ | apply uT | apply ag.e3 | apply ag.dM | apply ag.bu | exact ag.br _⟩
def d91(x0:Int)(x1:an):{c // ag c (qC x0 x1)}:=⟨_,by
 unfold qC
 with_reducible repeat' first | intro _ | apply (d92 _ _).2 | apply (d93 _).2 | apply ag.bu | exact ag.br _⟩
def d32(x0:an):{c // ag c (m32 x0)}:=⟨_,by
 unfold m32
 with_reducible repeat' first | intro _ | apply (d53 _).2 | apply yJ | apply (d91 _ _).2 | apply ag.ab | apply ag.bu | exact ag.br _⟩
abbrev Bz(x0:an):=(d32 x0).1
theorem Nd(x0:an):ag (Bz x0) (m32 x0):=(d32 x0).2
def xF(x0:bB)(x1:bB):a5 :=
 ab ((x0.length:Int) != (x1.length:Int))
 (some false)
 ((hP (O:=(Unit ⊕ Bool)) (λ (b:Int) =>
 ab (decide (b < (x0.length:Int)))
 ((idx x0 b).bind λ c =>
 (idx x1 b).bind λ d =>
 (BI c d).bind λ f =>
 ab (!f)
 (some (.inr (.inr false)))
 (some (.inl (i64 (b+1)))))
 (some (.inr (.inl ())))) 0).bind (Sum.elim (λ (_:Unit) =>
 some true)
  (λ q=>some q)))
theorem Nt(x0:bB)(x1:bB):ag (xF x0 x1) (sP x0 x1):=by
 unfold xF sP
 with_reducible repeat' first | exact ag.br _ | refine ag.dD λ _=>?_ | refine ag.ab ?_ ?_ | refine ag.e3 (λ _=>?_) (λ _=>?_) _ | exact Np _ _ | exact b _ _ | refine ag.bu ?_ λ _=>?_
def tU(x0:bB)(x1:bB):a5 :=
 (xF x0 x1).bind λ b =>
 some b
theorem Nf(x0:bB)(x1:bB):ag (tU x0 x1) (qn x0 x1):=by
 unfold tU qn
 with_reducible repeat' first | exact ag.br _ | exact Nt _ _ | exact b _ _ | refine ag.bu ?_ λ _=>?_
def c6  : a5 :=
 (xm).bind λ b =>
 (xn b (⟨0,10,true⟩:c5)).bind λ c =>
 (xo b 10).bind λ k =>
 (xo b 21).bind λ m =>
 (Bo b).bind λ n =>
 (Bp c 0).bind λ o =>
 (Bq b 0).bind λ p =>
 (tS b 1 0).bind λ s =>
 (tS b 1 1).bind λ w =>
 (tS b 1 2).bind λ y =>
 (Br b 0 1).bind λ z =>
 (tT b ([[0,1],[0],[1]])).bind λ A =>
 (tT c ([[0,1],[0],[1]])).bind λ B =>
 (((ab (k.2 != 0)
 (some true)
 (ab (m.2 != 0)
 (some true)
 (ab (n.2 != 0)
 (some true)
 (ab (o.2 != 0)
 (some true)
 (ab (p.2 != 0)
 (some true)
 (ab (s.2 != 0)
 (some true)
 (ab (w.2 != 0)
 (some true)
 (ab (y.2 != 0)
 (some true)
 (ab (z.2 != 0)
 (some true)
 (ab (A.2 != 0)
 (some true)
 (some (B.2 != 0)))))))))))):a5)).bind (λ (H:Bool) =>
 ab H
 (some false)
 ((((ab (k.1 != 40)
 (some true)
 (ab (m.1 != 0)
 (some true)
 (ab (n.1 != 3)
 (some true)
 ((rz o.1 [9,10]).bind λ L =>
 ab (!L)
 (some true)
 ((xv 20 40).bind λ M =>
 ab (!(yu p.1 M == true))
 (some true)
 (ab (s.1 != 1)
 (some true)
 (ab (w.1 != 2)
 (some true)
 (ab (y.1 != 0)
 (some true)
 (ab (!z.1)
 (some true)
 (ab (A.1 != 0)
 (some true)
 (some (B.1 != 1)))))))))))):a5)).bind (λ (I:Bool) =>
 ab I
 (some false)
 ((xw b).bind λ C =>
 (xw c).bind λ D =>
 (Bu c).bind λ i =>
 (Bv c).bind λ f =>
 (Bw c).bind λ j =>
 (xx b).bind λ E =>
 (Bx b).bind λ g =>
 (By c 12 15).bind λ d =>
 (xx d.1).bind λ F =>
 (xn c (⟨0,8,true⟩:c5)).bind λ N =>
 (Bz N).bind λ G =>
 (((ab (C.2 != 0)
 (some true)
 (ab (D.2 != 0)
 (some true)
 (ab (i.2.2 != 0)
 (some true)
 (ab (f.2.2.2 != 0)
 (some true)
 (ab (j.2.2 != 0)
 (some true)
 (ab (E.2 != 0)
 (some true)
 (ab (g.2.2.2 != 0)
 (some true)
 (ab (d.2 != 0)
 (some true)
 (ab (F.2 != 0)
 (some true)
 (some (G.2 != 0))))))))))):a5)).bind (λ (J:Bool) =>
 ab J
 (some false)
 ((((ab (C.1 != 0)
 (some true)
 (ab (D.1 != 2)
 (some true)
 (ab (!i.2.1)
 (some true)
 ((tU i.1 ([[0,1],[0],[0]])).bind λ O =>
 ab (!O)
 (some true)
 (ab (!f.2.2.1)
 (some true)
 (ab (f.2.1 != 50)
 (some true)
 ((tU f.1 ([[0,1],[0],[1]])).bind λ P =>
 ab (!P)
 (some true)
 (ab (!j.2.1)
 (some true)
 ((rz j.1 [0,1]).bind λ Q =>
 ab (!Q)
 (some true)
 ((rz E.1 [2]).bind λ R =>
 some (!R))))))))))):a5)).bind (λ (K:Bool) =>
 ab K
 (some false)
 (ab (g.1 == 0)
 (ab (g.2.1 == 9)
 (ab (g.2.2.1 == 2)
 (ab ((F.1.length:Int) == 0)
 ((rz G.1 [1]).bind λ S =>
 ab S
 (ab ((d.1.Rows.length:Int) == 3)
 ((idx d.1.Rows 1).bind λ T =>
 ab (rO T (⟨12,15⟩:dJ) == true)
 ((idx d.1.Rows 2).bind λ U =>
 some (rO U (⟨20,15⟩:dJ) == true))
 (some false))
 (some false))
 (some false))
 (some false))
 (some false))
 (some false))
 (some false)))))))))
theorem Nj  : ag (c6 ) (m6 ):=by
 unfold c6 m6
 with_reducible repeat' first | exact ag.br _ | refine ag.ab ?_ ?_ | exact MO | exact MQ _ _ | exact MR _ _ | exact MS _ | exact MU _ _ | exact MV _ _ | exact MW _ _ _ | exact MX _ _ _ | exact MY _ _ | exact M5 _ _ | exact Dz _ _ | exact M6 _ | exact M7 _ | exact M8 _ | exact M9 _ | exact Na _ | exact Nb _ | exact Nc _ _ _ | exact Nd _ | exact Nf _ _ | exact b _ _ | refine ag.bu ?_ λ _=>?_
theorem R7:m6=some true:=Nj _ (by decide +kernel)
end
end Go.Proofs.YtikficpdfaajlaaGreatDoor
