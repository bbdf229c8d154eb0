/- What the functions compute. Conditions: none. -/
import Derived.Test.YtihapemckcdicaaGreatDoorQYStF
import Derived.Test.YtihapemckcdicaaGreatDoorQYStP
namespace Go.Proofs.YtihapemckcdicaaGreatDoor
open Go.Lg Go.Proofs Tryz
noncomputable section
set_option maxRecDepth 100000
def eP(x0:Int)(x1:Int)(x2:Int):Option Bool :=
 af (decide (x1≤x0))
 (some (decide (x0≤x2)))
 (some false)
def qK(x0:ByteArray):Option Bool:=some (gW x0)
def ju(x0:bF)(x1:(aY→Option Bool)):Option Int :=
 (a6 (O:=Int) (λ (a:(Int × Int)) =>
 af (decide (a.2 < (x0.cG.length:Int)))
 ((idx x0.cG a.2).bind λ c =>
 (x1 c).bind λ d =>
 af d
 (some (.inl (i64 (a.1+1),i64 (a.2+1))))
 (some (.inl (a.1,i64 (a.2+1)))))
 (some (.inr a.1))) (0,0)).bind (λ (b:Int) =>
 some b)
def j2(x0:aj)(x1:Int):Option Int :=
 (a6 (O:=(Unit ⊕ Int)) (λ (a:Int) =>
 af (decide (a < (x0.Rows.length:Int)))
 ((idx x0.Rows a).bind λ b =>
 af (decide (x1≤b.cB))
 (some (.inr (.inr b.cK)))
 (some (.inl (i64 (a+1)))))
 (some (.inr (.inl ())))) 0).bind (Sum.elim (λ (_:Unit) =>
 some 0)
  (λ q=>some q))
def kJ(x0:aj)(x1:aY)(x2:Int)(x3:Int):Option Bool :=
 (idx x0.av x3).bind λ a =>
 (idx x1.deep a.Place).bind λ b =>
 (idx x0.az x2).bind λ c =>
 af (decide (b≤c.gj))
 ((j2 x0 b).bind λ d =>
 some (decide (a.db≤d)))
 (some false)
def kO(x0:aY)(x1:bF)(x2:Int)(x3:Int):Option Bool :=
 (kJ x1.book x0 x2 x3).bind λ a =>
 some a
def hE(x0:bF)(i k:Nat):Option Bool:=(ju x0 (λ y=>kO y x0 (k:Int) (i:Int))).bind λ n=>some (n == (x0.cG.length:Int))
def iF(x0:bF):Option (List Bool) :=
 if (0 < x0.book.av.length∧x0.book.av.length≤4)∧(0 < x0.book.az.length∧x0.book.az.length≤4) then
  (((List.range 16).mapM λ (p:Nat)=>if p / 4 < x0.book.av.length∧p % 4 < x0.book.az.length then hE x0 (p / 4) (p % 4) else some false):Option (List Bool))
 else none
def qG(x0:aj):Option Bool :=
 (((af (decide ((x0.Rows.length:Int) > 20))
 (some true)
 (af (decide ((x0.aD.length:Int) > 20))
 (some true)
 (af (decide ((x0.az.length:Int) > 20))
 (some true)
 (af (decide ((x0.av.length:Int) > 20))
 (some true)
 (some (decide ((x0.aQ.length:Int) > 20))))))):Option Bool)).bind (λ (b:Bool) =>
 af b
 (some true)
 ((a6 (O:=(Unit ⊕ Bool)) (λ (a:Int) =>
 af (decide (a < (x0.az.length:Int)))
 ((idx x0.az a).bind λ c =>
 af (decide ((c.Name.size:Int) > 100))
 (some (.inr (.inr true)))
 (some (.inl (i64 (a+1)))))
 (some (.inr (.inl ())))) 0).bind (Sum.elim (λ (_:Unit) =>
 some false)
  (λ q=>some q))))
def o1(x0:aj):Option Int :=
 (eP x0.Rest 0 60).bind λ a =>
 af (!a)
 (some 1)
 (some 0)
def nF(x0:aj):Option Int :=
 (eP (x0.Rows.length:Int) 1 4).bind λ h =>
 af (!h)
 (some 2)
 ((a6 (O:=(Unit ⊕ Int)) (λ (a:Int) =>
 af (decide (a < (x0.Rows.length:Int)))
 ((idx x0.Rows a).bind λ b =>
 (eP b.cB 1 30).bind λ c =>
 (((af (!c)
 (some (!c))
 ((eP b.cK 1 60).bind λ e =>
 some (!e))):Option Bool)).bind (λ (d:Bool) =>
 af d
 (some (.inr (.inr 1)))
 (af (decide (a > 0))
 ((idx x0.Rows (i64 (a - 1))).bind λ f =>
 af (decide (b.cB≤f.cB))
 (some (.inr (.inr 7)))
 ((idx x0.Rows (i64 (a - 1))).bind λ g =>
 af (decide (b.cK > g.cK))
 (some (.inr (.inr 7)))
 (some (.inl (i64 (a+1))))))
 (some (.inl (i64 (a+1)))))))
 (some (.inr (.inl ())))) 0).bind (Sum.elim (λ (_:Unit) =>
 some 0)
  (λ q=>some q)))
def qL(x0:(List Reach))(x1:(Reach→Option Bool)):Option Int :=
 (a6 (O:=(Unit ⊕ Int)) (λ (a:Int) =>
 af (decide (a < (x0.length:Int)))
 ((idx x0 a).bind λ b =>
 (x1 b).bind λ c =>
 af c
 (some (.inr (.inr a)))
 (some (.inl (i64 (a+1)))))
 (some (.inr (.inl ())))) 0).bind (Sum.elim (λ (_:Unit) =>
 some (-1))
  (λ q=>some q))
def o2(x0:(List Reach))(x1:(Reach→Option Bool)):Option Bool :=
 (qL x0 x1).bind λ a =>
 some (decide (a ≥ 0))
def nM(x0:Reach)(x1:Int)(x2:Int)(x3:Int):Option Bool :=
 af (decide (x1≤x0.bJ))
 (af (decide (x0.bJ≤x0.bT))
 (af (decide (x0.bT≤x2))
 (some (decide (i64 (x0.bT - x0.bJ) < x3)))
 (some false))
 (some false))
 (some false)
def nL(x0:Reach):Option Bool :=
 (nM x0 1 30 3).bind λ a =>
 some (!a)
def nG(x0:aj):Option Int :=
 (eP (x0.aD.length:Int) 1 3).bind λ a =>
 af (!a)
 (some 2)
 ((o2 x0.aD (λ y=>nL y)).bind λ b =>
 af b
 (some 1)
 (some 0))
def qM(x0:(List cN))(x1:(cN→Option Bool)):Option Int :=
 (a6 (O:=(Unit ⊕ Int)) (λ (a:Int) =>
 af (decide (a < (x0.length:Int)))
 ((idx x0 a).bind λ b =>
 (x1 b).bind λ c =>
 af c
 (some (.inr (.inr a)))
 (some (.inl (i64 (a+1)))))
 (some (.inr (.inl ())))) 0).bind (Sum.elim (λ (_:Unit) =>
 some (-1))
  (λ q=>some q))
def o3(x0:(List cN))(x1:(cN→Option Bool)):Option Bool :=
 (qM x0 x1).bind λ a =>
 some (decide (a ≥ 0))
def nN(x0:cN)(x1:cN):Option Bool :=
 some (x0.Name.toList == x1.Name.toList)
def nH(x0:aj):Option Int :=
 (eP (x0.az.length:Int) 1 4).bind λ e =>
 af (!e)
 (some 2)
 ((a6 (O:=(Unit ⊕ Int)) (λ (a:Int) =>
 af (decide (a < (x0.az.length:Int)))
 ((idx x0.az a).bind λ b =>
 (qK b.Name).bind λ f =>
 af (!f)
 (some (.inr (.inr 4)))
 ((e7 x0.az 0 a).bind λ g =>
 (o3 g (λ y=>nN y b)).bind λ c =>
 af c
 (some (.inr (.inr 5)))
 ((eP b.gj 1 30).bind λ d =>
 af (!d)
 (some (.inr (.inr 1)))
 (some (.inl (i64 (a+1)))))))
 (some (.inr (.inl ())))) 0).bind (Sum.elim (λ (_:Unit) =>
 some 0)
  (λ q=>some q)))
def gY(x0:Int)(x1:Int):Option Int :=
 (eP x0 0 (i64 (x1 - 1))).bind λ a =>
 af (!a)
 (some 6)
 (some 0)
def nI(x0:aj):Option Int :=
 (eP (x0.av.length:Int) 1 4).bind λ g =>
 af (!g)
 (some 2)
 ((a6 (O:=(Unit ⊕ Int)) (λ (b:Int) =>
 af (decide (b < (x0.av.length:Int)))
 ((idx x0.av b).bind λ a =>
 (gY a.Place (x0.aD.length:Int)).bind λ c =>
 af (c != 0)
 (some (.inr (.inr c)))
 ((eP a.dy 0 200).bind λ d =>
 af (!d)
 (some (.inr (.inr 1)))
 ((eP a.db 1 60).bind λ e =>
 af (!e)
 (some (.inr (.inr 1)))
 ((eP a.az 1 3).bind λ f =>
 af (!f)
 (some (.inr (.inr 1)))
 (some (.inl (i64 (b+1))))))))
 (some (.inr (.inl ())))) 0).bind (Sum.elim (λ (_:Unit) =>
 some 0)
  (λ q=>some q)))
def nK(x0:aj):Option Int :=
 af (decide ((x0.aQ.length:Int) > 3))
 (some 2)
 ((a6 (O:=(Unit ⊕ Int)) (λ (a:Int) =>
 af (decide (a < (x0.aQ.length:Int)))
 ((idx x0.aQ a).bind λ b =>
 (gY b.Place (x0.aD.length:Int)).bind λ c =>
 af (c != 0)
 (some (.inr (.inr c)))
 ((eP b.dJ 0 30).bind λ d =>
 af (!d)
 (some (.inr (.inr 1)))
 (some (.inl (i64 (a+1))))))
 (some (.inr (.inl ())))) 0).bind (Sum.elim (λ (_:Unit) =>
 some 0)
  (λ q=>some q)))
def g0(x0:aj):Option Int :=
 (o1 (⟨x0.Rest,x0.Rows,x0.aD,x0.az,x0.av,x0.aQ⟩:aj)).bind λ a =>
 af (a != 0)
 (some a)
 ((nF (⟨x0.Rest,x0.Rows,x0.aD,x0.az,x0.av,x0.aQ⟩:aj)).bind λ b =>
 af (b != 0)
 (some b)
 ((nG (⟨x0.Rest,x0.Rows,x0.aD,x0.az,x0.av,x0.aQ⟩:aj)).bind λ c =>
 af (c != 0)
 (some c)
 ((nH (⟨x0.Rest,x0.Rows,x0.aD,x0.az,x0.av,x0.aQ⟩:aj)).bind λ d =>
 af (d != 0)
 (some d)
 ((nI (⟨x0.Rest,x0.Rows,x0.aD,x0.az,x0.av,x0.aQ⟩:aj)).bind λ e =>
 af (e != 0)
 (some e)
 ((nK (⟨x0.Rest,x0.Rows,x0.aD,x0.az,x0.av,x0.aQ⟩:aj)).bind λ f =>
 af (f != 0)
 (some f)
 (some 0))))))
def oQ (x1:(aY→((List aY) ⊕ Empty)→Option (((List aY) ⊕ Empty) × Bool))→((List aY) ⊕ Empty)→Option ((List aY) ⊕ Empty)):Option (List aY) :=
 (x1 (cY (λ (b:aY) (a:(List aY))=>(((dD a [b]).bind λ c =>
 some (.inl c)):Option ((List aY) ⊕ Empty)))) (.inl [])).bind (Sum.elim (λ (a:(List aY)) =>
 some a)
  (λ (o:Empty)=>o.elim))
def lb (x0:(aY→((List aY) ⊕ Empty)→Option (((List aY) ⊕ Empty) × Bool))→((List aY) ⊕ Empty)→Option ((List aY) ⊕ Empty)):Option (List aY) :=
 (oQ x0).bind λ a =>
 some a
def qI(x0:(List b7))(x1:(b7→Option Bool)):Option Int :=
 (a6 (O:=(Unit ⊕ Int)) (λ (a:Int) =>
 af (decide (a < (x0.length:Int)))
 ((idx x0 a).bind λ b =>
 (x1 b).bind λ c =>
 af c
 (some (.inr (.inr a)))
 (some (.inl (i64 (a+1)))))
 (some (.inr (.inl ())))) 0).bind (Sum.elim (λ (_:Unit) =>
 some (-1))
  (λ q=>some q))
def oZ(x0:(List b7))(x1:(b7→Option Bool)):Option Bool :=
 (qI x0 x1).bind λ a =>
 some (decide (a ≥ 0))
def nB(x0:b7)(x1:aY):Option Bool :=
 (idx x1.deep x0.Place).bind λ a =>
 some (!((decide (a≤x0.dJ)) == x0.jO))
def ma(x0:aj)(x1:aY):Option Bool :=
 (oZ x0.aQ (λ y=>nB y x1)).bind λ a =>
 some (!a)
def ie{S:Type}(ys:aY→S→Option (S × Bool)):Nat→Int→aj→aY→S→Option (S × (aY × Bool))
 | 0,_,_,_,_=>none
 | k+1,x0,x1,x2,s0 =>
  af (x0 == (x1.aD.length:Int))
  (((((ma x1 x2).bind λ f =>
  af (!f)
  (some (s0,true))
  ((ys x2 s0).bind λ e =>
  some (e.1,e.2))):Option (S × Bool))).bind (λ (c:(S × Bool)) =>
  some (c.1,(x2,c.2))))
  ((idx x1.aD x0).bind λ g =>
  (a6 (O:=((S × (List Int)) ⊕ (S × (aY × Bool)))) (λ (a:(S × Int × (List Int))) =>
  (idx x1.aD x0).bind λ h =>
  af (decide (a.2.1≤h.bT))
  ((idx a.2.2 x0).bind λ _ =>
  (ie ys k (i64 (x0+1)) x1 (⟨a.2.2.set x0.toNat a.2.1⟩:aY) a.1).bind λ b =>
  af (!b.2.2)
  (some (.inr (.inr (b.1,(b.2.1,false)))))
  (some (.inl (b.1,i64 (a.2.1+1),b.2.1.deep))))
  (some (.inr (.inl (a.1,a.2.2))))) (s0,g.bJ,x2.deep)).bind (Sum.elim (λ (d:(S × (List Int))) =>
  some (d.1,((⟨d.2⟩:aY),true)))
   (λ q=>some q)))
def gr{S:Type}(ys:aY→S→Option (S × Bool))(x0:aj)(s0:S):Option S :=
 (ie ys 9 0 x0 (⟨[0,0,0]⟩:aY) s0).bind λ a =>
  some a.1
def kR(x0:aj):Option (Int × Int) :=
 (g0 x0).bind λ a =>
 af (a != 0)
 (some (0,a))
 ((lb (λ y s=>gr y (⟨x0.Rest,x0.Rows,x0.aD,x0.az,x0.av,x0.aQ⟩:aj) s)).bind λ b =>
 some ((b.length:Int),0))
def g1(x0:aj)(x1:(aj→Option Int)):Option (bF × Int) :=
 (g0 x0).bind λ a =>
 af (a != 0)
 (some ((⟨⟨0,[],[],[],[],[]⟩,[]⟩:bF),a))
 ((x1 x0).bind λ b =>
 af (b != 0)
 (some ((⟨⟨0,[],[],[],[],[]⟩,[]⟩:bF),b))
 ((lb (λ y s=>gr y x0 s)).bind λ c =>
 af ((c.length:Int) == 0)
 (some ((⟨⟨0,[],[],[],[],[]⟩,[]⟩:bF),9))
 (some ((⟨⟨x0.Rest,x0.Rows,x0.aD,x0.az,x0.av,x0.aQ⟩,c⟩:bF),0))))
def hG(x0:aj)(x1:Int):Option Int :=
 (gY x1 (x0.aD.length:Int)).bind λ a =>
 some a
def mw(x0:Int):Option Int :=
 some x0
def kS(x0:Int):Option Bool :=
 some (x0 != x0)
def dE(x0:Int)(x1:Int):Option Bool :=
 (kS x0).bind λ a =>
 af a
 ((kS x1).bind λ b =>
 af (!b)
 (some true)
 (some (decide (x0 < x1))))
 (some (decide (x0 < x1)))
def mf(x0:(List Int))(x1:Int)(x2:Int):Option (List Int) :=
 (a6 (O:=(List Int)) (λ (b:((List Int) × Int)) =>
 af (decide (b.2 < x2))
 ((a6 (O:=(List Int)) (λ (a:((List Int) × Int)) =>
 (((af (decide (a.2 > x1))
 ((idx a.1 a.2).bind λ g =>
 (idx a.1 (i64 (a.2 - 1))).bind λ h =>
 (dE g h).bind λ i =>
 some i)
 (some false)):Option Bool)).bind (λ (f:Bool) =>
 af f
 ((idx a.1 (i64 (a.2 - 1))).bind λ c =>
 (idx a.1 a.2).bind λ j =>
 (idx a.1 a.2).bind λ _ =>
 (idx (a.1.set a.2.toNat c) (i64 (a.2 - 1))).bind λ _ =>
 some (.inl ((a.1.set a.2.toNat c).set (i64 (a.2 - 1)).toNat j,i64 (a.2 - 1))))
 (some (.inr a.1)))) (b.1,b.2)).bind (λ (e:(List Int)) =>
 some (.inl (e,i64 (b.2+1)))))
 (some (.inr b.1))) (x0,i64 (x1+1))).bind (λ (d:(List Int)) =>
 some d)
def mo(x0:(List Int))(x1:Int)(x2:Int)(x3:Int):Option (List Int) :=
 (a6 (O:=((List Int) ⊕ (List Int))) (λ (a:((List Int) × Int)) =>
 af (decide (i64 ((i64 (2 * a.2))+1) ≥ x2))
 (some (.inr (.inl a.1)))
 ((((af (decide (i64 ((i64 ((i64 (2 * a.2))+1))+1) < x2))
 ((idx a.1 (i64 (x3+(i64 ((i64 (2 * a.2))+1))))).bind λ f =>
 (idx a.1 (i64 ((i64 (x3+(i64 ((i64 (2 * a.2))+1))))+1))).bind λ g =>
 (dE f g).bind λ h =>
 some h)
 (some false)):Option Bool)).bind (λ (e:Bool) =>
 (((af e
 (some (i64 ((i64 ((i64 (2 * a.2))+1))+1)))
 (some (i64 ((i64 (2 * a.2))+1)))):Option Int)).bind (λ (b:Int) =>
 (idx a.1 (i64 (x3+a.2))).bind λ i =>
 (idx a.1 (i64 (x3+b))).bind λ j =>
 (dE i j).bind λ k =>
 af (!k)
 (some (.inr (.inr a.1)))
 ((idx a.1 (i64 (x3+b))).bind λ c =>
 (idx a.1 (i64 (x3+a.2))).bind λ l =>
 (idx a.1 (i64 (x3+a.2))).bind λ _ =>
 (idx (a.1.set (i64 (x3+a.2)).toNat c) (i64 (x3+b))).bind λ _ =>
 some (.inl ((a.1.set (i64 (x3+a.2)).toNat c).set (i64 (x3+b)).toNat l,b))))))) (x0,x1)).bind (Sum.elim (λ (d:(List Int)) =>
 some d)
  (λ q=>some q))
def mg(x0:(List Int))(x1:Int)(x2:Int):Option (List Int) :=
 (gv (i64 ((i64 (x2 - x1)) - 1)) 2).bind λ h =>
 (a6 (O:=(List Int)) (λ (b:((List Int) × Int)) =>
 af (decide (b.2 ≥ 0))
 ((mo b.1 b.2 (i64 (x2 - x1)) x1).bind λ i =>
 some (.inl (i,i64 (b.2 - 1))))
 (some (.inr b.1))) (x0,h)).bind (λ (d:(List Int)) =>
 (a6 (O:=(List Int)) (λ (a:((List Int) × Int)) =>
 af (decide (a.2 ≥ 0))
 ((idx a.1 (i64 (x1+a.2))).bind λ c =>
 (idx a.1 x1).bind λ f =>
 (idx a.1 x1).bind λ _ =>
 (idx (a.1.set x1.toNat c) (i64 (x1+a.2))).bind λ _ =>
 (mo ((a.1.set x1.toNat c).set (i64 (x1+a.2)).toNat f) 0 a.2 x1).bind λ g =>
 some (.inl (g,i64 (a.2 - 1))))
 (some (.inr a.1))) (d,i64 ((i64 (x2 - x1)) - 1))).bind (λ (e:(List Int)) =>
 some e))
def qJ(x0:Int):Option Int :=
 (((af (decide (x0 ≥ 4294967296))
 ((fa .u64 x0 32).bind λ d =>
 some (d,32))
 (some (x0,0))):Option (Int × Int))).bind (λ (a:(Int × Int)) =>
 (((af (decide (a.1 ≥ 65536))
 ((fa .u64 a.1 16).bind λ e =>
 some (e,i64 (a.2+16)))
 (some (a.1,a.2))):Option (Int × Int))).bind (λ (b:(Int × Int)) =>
 (((af (decide (b.1 ≥ 256))
 ((fa .u64 b.1 8).bind λ f =>
 some (f,i64 (b.2+8)))
 (some (b.1,b.2))):Option (Int × Int))).bind (λ (c:(Int × Int)) =>
 (jM (⟨#[0,1,2,2,3,3,3,3,4,4,4,4,4,4,4,4,5,5,5,5,5,5,5,5,5,5,5,5,5,5,5,5,6,6,6,6,6,6,6,6,6,6,6,6,6,6,6,6,6,6,6,6,6,6,6,6,6,6,6,6,6,6,6,6,7,7,7,7,7,7,7,7,7,7,7,7,7,7,7,7,7,7,7,7,7,7,7,7,7,7,7,7,7,7,7,7,7,7,7,7,7,7,7,7,7,7,7,7,7,7,7,7,7,7,7,7,7,7,7,7,7,7,7,7,7,7,7,7,8,8,8,8,8,8,8,8,8,8,8,8,8,8,8,8,8,8,8,8,8,8,8,8,8,8,8,8,8,8,8,8,8,8,8,8,8,8,8,8,8,8,8,8,8,8,8,8,8,8,8,8,8,8,8,8,8,8,8,8,8,8,8,8,8,8,8,8,8,8,8,8,8,8,8,8,8,8,8,8,8,8,8,8,8,8,8,8,8,8,8,8,8,8,8,8,8,8,8,8,8,8,8,8,8,8,8,8,8,8,8,8,8,8,8,8,8,8,8,8,8,8,8,8,8,8,8,8]⟩) (IntKind.wrap .u8 c.1)).bind λ g =>
 some (i64 (c.2+(i64 g))))))
def me(x0:Int):Option Int :=
 (qJ x0).bind λ a =>
 some a
def nD(x0:Int):Option Int :=
 (me (IntKind.wrap .u64 x0)).bind λ a =>
 (jL .u64 1 a).bind λ b =>
 some b
def nE(x0:Int):Option (Int × Int) :=
 (jL .u64 x0 13).bind λ d =>
 (cO .xor .u64 x0 d).bind λ a =>
 (fa .u64 a 7).bind λ e =>
 (cO .xor .u64 a e).bind λ b =>
 (jL .u64 b 17).bind λ f =>
 (cO .xor .u64 b f).bind λ c =>
 some (c,c)
def kP(x0:(List Int))(x1:Int)(x2:Int):Option (List Int) :=
 af (decide (i64 (x2 - x1) ≥ 8))
 ((nD (i64 (x2 - x1))).bind λ i =>
 (gv (i64 (x2 - x1)) 4).bind λ j =>
 (a6 (O:=(List Int)) (λ (a:((List Int) × Int × Int)) =>
 (gv (i64 (x2 - x1)) 4).bind λ g =>
 af (decide (a.2.1≤i64 ((i64 (x1+(i64 (g * 2))))+1)))
 ((nE a.2.2).bind λ d =>
 (cO .and .u64 d.2 (IntKind.wrap .u64 (i - 1))).bind λ c =>
 (((af (decide (i64 c ≥ i64 (x2 - x1)))
 (some (i64 ((i64 c) - (i64 (x2 - x1)))))
 (some (i64 c))):Option Int)).bind (λ (b:Int) =>
 (idx a.1 (i64 (x1+b))).bind λ e =>
 (idx a.1 a.2.1).bind λ h =>
 (idx a.1 a.2.1).bind λ _ =>
 (idx (a.1.set a.2.1.toNat e) (i64 (x1+b))).bind λ _ =>
 some (.inl ((a.1.set a.2.1.toNat e).set (i64 (x1+b)).toNat h,i64 (a.2.1+1),d.1))))
 (some (.inr a.1))) (x0,i64 ((i64 (x1+(i64 (j * 2)))) - 1),IntKind.wrap .u64 (i64 (x2 - x1)))).bind (λ (f:(List Int)) =>
 some f))
 (some x0)
def iI(x0:(List Int))(x1:Int)(x2:Int)(x3:Int):Option (Int × Int × Int) :=
 (idx x0 x2).bind λ a =>
 (idx x0 x1).bind λ b =>
 (dE a b).bind λ c =>
 af c
 (some (i64 (x3+1),x2,x1))
 (some (x3,x1,x2))
def jy(x0:(List Int))(x1:Int)(x2:Int)(x3:Int)(x4:Int):Option (Int × Int) :=
 (iI x0 x1 x2 x4).bind λ a =>
 (iI x0 a.2.2 x3 a.1).bind λ b =>
 (iI x0 a.2.1 b.2.1 b.1).bind λ c =>
 some (c.1,c.2.2)
def iH(x0:(List Int))(x1:Int)(x2:Int):Option (Int × Int) :=
 (jy x0 (i64 (x1 - 1)) x1 (i64 (x1+1)) x2).bind λ a =>
 some (a.1,a.2)
def mh(x0:(List Int))(x1:Int)(x2:Int):Option (Int × Int) :=
 (gv (i64 (x2 - x1)) 4).bind λ c =>
 (gv (i64 (x2 - x1)) 4).bind λ b =>
 (gv (i64 (x2 - x1)) 4).bind λ d =>
 (((af (decide (i64 (x2 - x1) ≥ 8))
 (af (decide (i64 (x2 - x1) ≥ 50))
 ((iH x0 (i64 (x1+(i64 (c * 1)))) 0).bind λ e =>
 (iH x0 (i64 (x1+(i64 (b * 2)))) e.1).bind λ f =>
 (iH x0 (i64 (x1+(i64 (d * 3)))) f.1).bind λ g =>
 (jy x0 e.2 f.2 g.2 g.1).bind λ h =>
 some (h.2,h.1))
 ((jy x0 (i64 (x1+(i64 (c * 1)))) (i64 (x1+(i64 (b * 2)))) (i64 (x1+(i64 (d * 3)))) 0).bind λ i =>
 some (i.2,i.1)))
 (some (i64 (x1+(i64 (b * 2))),0))):Option (Int × Int))).bind (λ (a:(Int × Int)) =>
 af (a.2 == 0)
 (some (a.1,1))
 (af (a.2 == 12)
 (some (a.1,2))
 (some (a.1,0))))
def kQ(x0:(List Int))(x1:Int)(x2:Int):Option (List Int) :=
 (a6 (O:=(List Int)) (λ (a:((List Int) × Int × Int)) =>
 af (decide (a.2.1 < a.2.2))
 ((idx a.1 a.2.2).bind λ b =>
 (idx a.1 a.2.1).bind λ d =>
 (idx a.1 a.2.1).bind λ _ =>
 (idx (a.1.set a.2.1.toNat b) a.2.2).bind λ _ =>
 some (.inl ((a.1.set a.2.1.toNat b).set a.2.2.toNat d,i64 (a.2.1+1),i64 (a.2.2 - 1))))
 (some (.inr a.1))) (x0,x1,i64 (x2 - 1))).bind (λ (c:(List Int)) =>
 some c)
def j4(x0:(List Int))(x1:Int)(x2:Int):Option ((List Int) × Bool) :=
 (a6 (O:=((List Int) ⊕ ((List Int) × Bool))) (λ (d:((List Int) × Int × Int)) =>
 af (decide (d.2.2 < 5))
 ((a6 (O:=Int) (λ (e:Int) =>
 af (decide (e < x2))
 ((idx d.1 e).bind λ w =>
 (idx d.1 (i64 (e - 1))).bind λ x =>
 (dE w x).bind λ y =>
 af (!y)
 (some (.inl (i64 (e+1))))
 (some (.inr e)))
 (some (.inr e))) d.2.1).bind (λ (c:Int) =>
 af (c == x2)
 (some (.inr (.inr (d.1,true))))
 (af (decide (i64 (x2 - x1) < 50))
 (some (.inr (.inr (d.1,false))))
 ((idx d.1 (i64 (c - 1))).bind λ f =>
 (idx d.1 c).bind λ j =>
 (idx d.1 c).bind λ _ =>
 (idx (d.1.set c.toNat f) (i64 (c - 1))).bind λ _ =>
 (((af (decide (i64 (c - x1) ≥ 2))
 ((a6 (O:=(List Int)) (λ (b:((List Int) × Int)) =>
 af (decide (b.2 ≥ 1))
 ((idx b.1 b.2).bind λ n =>
 (idx b.1 (i64 (b.2 - 1))).bind λ o =>
 (dE n o).bind λ p =>
 af (!p)
 (some (.inr b.1))
 ((idx b.1 (i64 (b.2 - 1))).bind λ h =>
 (idx b.1 b.2).bind λ r =>
 (idx b.1 b.2).bind λ _ =>
 (idx (b.1.set b.2.toNat h) (i64 (b.2 - 1))).bind λ _ =>
 some (.inl ((b.1.set b.2.toNat h).set (i64 (b.2 - 1)).toNat r,i64 (b.2 - 1)))))
 (some (.inr b.1))) ((d.1.set c.toNat f).set (i64 (c - 1)).toNat j,i64 (c - 1))).bind (λ (m:(List Int)) =>
 some m))
 (some ((d.1.set c.toNat f).set (i64 (c - 1)).toNat j))):Option (List Int))).bind (λ (g:(List Int)) =>
 af (decide (i64 (x2 - c) ≥ 2))
 ((a6 (O:=(List Int)) (λ (a:((List Int) × Int)) =>
 af (decide (a.2 < x2))
 ((idx a.1 a.2).bind λ s =>
 (idx a.1 (i64 (a.2 - 1))).bind λ t =>
 (dE s t).bind λ u =>
 af (!u)
 (some (.inr a.1))
 ((idx a.1 (i64 (a.2 - 1))).bind λ i =>
 (idx a.1 a.2).bind λ v =>
 (idx a.1 a.2).bind λ _ =>
 (idx (a.1.set a.2.toNat i) (i64 (a.2 - 1))).bind λ _ =>
 some (.inl ((a.1.set a.2.toNat i).set (i64 (a.2 - 1)).toNat v,i64 (a.2+1)))))
 (some (.inr a.1))) (g,i64 (c+1))).bind (λ (k:(List Int)) =>
 some (.inl (k,c,i64 (d.2.2+1)))))
 (some (.inl (g,c,i64 (d.2.2+1)))))))))
 (some (.inr (.inl d.1)))) (x0,i64 (x1+1),0)).bind (Sum.elim (λ (l:(List Int)) =>
 some (l,false))
  (λ q=>some q))
def ml(x0:(List Int))(x1:Int)(x2:Int)(x3:Int):Option ((List Int) × Int) :=
 (idx x0 x3).bind λ g =>
 (idx x0 x1).bind λ i =>
 (idx x0 x1).bind λ _ =>
 (idx (x0.set x1.toNat g) x3).bind λ _ =>
 (a6 (O:=((List Int) × Int)) (λ (a:((List Int) × Int × Int)) =>
 (a6 (O:=Int) (λ (d:Int) =>
 af (decide (d≤a.2.2))
 ((idx a.1 x1).bind λ j =>
 (idx a.1 d).bind λ k =>
 (dE j k).bind λ l =>
 af (!l)
 (some (.inl (i64 (d+1))))
 (some (.inr d)))
 (some (.inr d))) a.2.1).bind (λ (b:Int) =>
 (a6 (O:=Int) (λ (e:Int) =>
 af (decide (b≤e))
 ((idx a.1 x1).bind λ m =>
 (idx a.1 e).bind λ n =>
 (dE m n).bind λ o =>
 af o
 (some (.inl (i64 (e - 1))))
 (some (.inr e)))
 (some (.inr e))) a.2.2).bind (λ (c:Int) =>
 af (decide (b > c))
 (some (.inr (a.1,b)))
 ((idx a.1 c).bind λ h =>
 (idx a.1 b).bind λ p =>
 (idx a.1 b).bind λ _ =>
 (idx (a.1.set b.toNat h) c).bind λ _ =>
 some (.inl ((a.1.set b.toNat h).set c.toNat p,i64 (b+1),i64 (c - 1))))))) ((x0.set x1.toNat g).set x3.toNat i,i64 (x1+1),i64 (x2 - 1))).bind (λ (f:((List Int) × Int)) =>
 some (f.1,f.2))
def mm(x0:(List Int))(x1:Int)(x2:Int)(x3:Int):Option ((List Int) × Int × Bool) :=
 (idx x0 x3).bind λ a =>
 (idx x0 x1).bind λ b =>
 (idx x0 x1).bind λ _ =>
 (idx (x0.set x1.toNat a) x3).bind λ _ =>
 (a6 (O:=Int) (λ (i:Int) =>
 af (decide (i≤i64 (x2 - 1)))
 ((idx ((x0.set x1.toNat a).set x3.toNat b) i).bind λ q =>
 (idx ((x0.set x1.toNat a).set x3.toNat b) x1).bind λ r =>
 (dE q r).bind λ s =>
 af s
 (some (.inl (i64 (i+1))))
 (some (.inr i)))
 (some (.inr i))) (i64 (x1+1))).bind (λ (f:Int) =>
 (a6 (O:=Int) (λ (j:Int) =>
 af (decide (f≤j))
 ((idx ((x0.set x1.toNat a).set x3.toNat b) j).bind λ t =>
 (idx ((x0.set x1.toNat a).set x3.toNat b) x1).bind λ u =>
 (dE t u).bind λ v =>
 af (!v)
 (some (.inl (i64 (j - 1))))
 (some (.inr j)))
 (some (.inr j))) (i64 (x2 - 1))).bind (λ (d:Int) =>
 af (decide (f > d))
 ((idx ((x0.set x1.toNat a).set x3.toNat b) x1).bind λ m =>
 (idx ((x0.set x1.toNat a).set x3.toNat b) d).bind λ w =>
 (idx ((x0.set x1.toNat a).set x3.toNat b) d).bind λ _ =>
 (idx (((x0.set x1.toNat a).set x3.toNat b).set d.toNat m) x1).bind λ _ =>
 some ((((x0.set x1.toNat a).set x3.toNat b).set d.toNat m).set x1.toNat w,d,true))
 ((idx ((x0.set x1.toNat a).set x3.toNat b) d).bind λ n =>
 (idx ((x0.set x1.toNat a).set x3.toNat b) f).bind λ x =>
 (idx ((x0.set x1.toNat a).set x3.toNat b) f).bind λ _ =>
 (idx (((x0.set x1.toNat a).set x3.toNat b).set f.toNat n) d).bind λ _ =>
 (a6 (O:=((List Int) × Int)) (λ (c:((List Int) × Int × Int)) =>
 (a6 (O:=Int) (λ (k:Int) =>
 af (decide (k≤c.2.2))
 ((idx c.1 k).bind λ y =>
 (idx c.1 x1).bind λ z =>
 (dE y z).bind λ A =>
 af A
 (some (.inl (i64 (k+1))))
 (some (.inr k)))
 (some (.inr k))) c.2.1).bind (λ (g:Int) =>
 (a6 (O:=Int) (λ (l:Int) =>
 af (decide (g≤l))
 ((idx c.1 l).bind λ B =>
 (idx c.1 x1).bind λ C =>
 (dE B C).bind λ D =>
 af (!D)
 (some (.inl (i64 (l - 1))))
 (some (.inr l)))
 (some (.inr l))) c.2.2).bind (λ (h:Int) =>
 af (decide (g > h))
 (some (.inr (c.1,h)))
 ((idx c.1 h).bind λ o =>
 (idx c.1 g).bind λ E =>
 (idx c.1 g).bind λ _ =>
 (idx (c.1.set g.toNat o) h).bind λ _ =>
 some (.inl ((c.1.set g.toNat o).set h.toNat E,i64 (g+1),i64 (h - 1))))))) ((((x0.set x1.toNat a).set x3.toNat b).set f.toNat n).set d.toNat x,i64 (f+1),i64 (d - 1))).bind (λ (e:((List Int) × Int)) =>
 (idx e.1 x1).bind λ p =>
 (idx e.1 e.2).bind λ F =>
 (idx e.1 e.2).bind λ _ =>
 (idx (e.1.set e.2.toNat p) x1).bind λ _ =>
 some ((e.1.set e.2.toNat p).set x1.toNat F,e.2,false)))))
def jx:Nat→(List Int)→Int→Int→Int→Option (List Int)
 | 0,_,_,_,_=>none
 | k+1,x0,x1,x2,x3 =>
  (a6 (O:=(List Int)) (λ (a:((List Int) × Int × Int × Int × Bool × Bool)) =>
  af (decide (i64 (a.2.2.1 - a.2.1)≤12))
  ((mf a.1 a.2.1 a.2.2.1).bind λ m =>
  some (.inr m))
  (af (a.2.2.2.1 == 0)
  ((mg a.1 a.2.1 a.2.2.1).bind λ n =>
  some (.inr n))
  ((((af (!a.2.2.2.2.1)
  ((kP a.1 a.2.1 a.2.2.1).bind λ o =>
  some (o,i64 (a.2.2.2.1 - 1)))
  (some (a.1,a.2.2.2.1))):Option ((List Int) × Int))).bind (λ (c:((List Int) × Int)) =>
  (mh c.1 a.2.1 a.2.2.1).bind λ f =>
  (((af (f.2 == 2)
  ((kQ c.1 a.2.1 a.2.2.1).bind λ p =>
  some (p,i64 ((i64 (a.2.2.1 - 1)) - (i64 (f.1 - a.2.1))),1))
  (some (c.1,f.1,f.2))):Option ((List Int) × Int × Int))).bind (λ (d:((List Int) × Int × Int)) =>
  (((af a.2.2.2.2.1
  (af a.2.2.2.2.2
  (some (d.2.2 == 1))
  (some false))
  (some false)):Option Bool)).bind (λ (j:Bool) =>
  (((af j
  ((j4 d.1 a.2.1 a.2.2.1).bind λ g =>
  af g.2
  (some (.inr g.1))
  (some (.inl g.1)))
  (some (.inl d.1))):Option ((List Int) ⊕ (List Int)))).bind (Sum.elim (λ (e:(List Int)) =>
  (((af (decide (a.2.1 > 0))
  ((idx e (i64 (a.2.1 - 1))).bind λ r =>
  (idx e d.2.1).bind λ s =>
  (dE r s).bind λ t =>
  some (!t))
  (some false)):Option Bool)).bind (λ (l:Bool) =>
  af l
  ((ml e a.2.1 a.2.2.1 d.2.1).bind λ h =>
  some (.inl (h.1,h.2,a.2.2.1,c.2,a.2.2.2.2.1,a.2.2.2.2.2)))
  ((mm e a.2.1 a.2.2.1 d.2.1).bind λ b =>
  (gv (i64 (a.2.2.1 - a.2.1)) 8).bind λ i =>
  af (decide (i64 (b.2.1 - a.2.1) < i64 (a.2.2.1 - b.2.1)))
  ((jx k b.1 a.2.1 b.2.1 c.2).bind λ u =>
  some (.inl (u,i64 (b.2.1+1),a.2.2.1,c.2,decide (i64 (b.2.1 - a.2.1) ≥ i),b.2.2)))
  ((jx k b.1 (i64 (b.2.1+1)) a.2.2.1 c.2).bind λ v =>
  some (.inl (v,a.2.1,b.2.1,c.2,decide (i64 (a.2.2.1 - b.2.1) ≥ i),b.2.2))))))
   (λ q=>some (.inr q))))))))) (x0,x1,x2,x3,true,true)).bind (λ q=>some q)
def mb(x0:(List Int)):Option (List Int) :=
 (me (IntKind.wrap .u64 (x0.length:Int))).bind λ a =>
 (jx 12 x0 0 (x0.length:Int) a).bind λ b =>
 some b
def mc(x0:(List Int)):Option (List Int) :=
 af (decide ((x0.length:Int) < 2))
 (some x0)
 ((a6 (O:=(Unit ⊕ (List Int))) (λ (b:Int) =>
 af (decide (b < (x0.length:Int)))
 ((idx x0 b).bind λ d =>
 (idx x0 (i64 (b - 1))).bind λ e =>
 af (d == e)
 ((e7 x0 b (x0.length:Int)).bind λ _ =>
 (a6 (O:=((List Int) × Int)) (λ (a:((List Int) × Int × Int)) =>
 af (decide (a.2.2 < ((a.1.drop b.toNat).length:Int)))
 ((idx (a.1.drop b.toNat) a.2.2).bind λ f =>
 (idx (a.1.drop b.toNat) (i64 (a.2.2 - 1))).bind λ g =>
 af (f != g)
 ((idx (a.1.drop b.toNat) a.2.2).bind λ h =>
 (idx a.1 a.2.1).bind λ _ =>
 some (.inl (a.1.set a.2.1.toNat h,i64 (a.2.1+1),i64 (a.2.2+1))))
 (some (.inl (a.1,a.2.1,i64 (a.2.2+1)))))
 (some (.inr (a.1,a.2.1)))) (x0,b,1)).bind (λ (c:((List Int) × Int)) =>
 (e7 c.1 c.2 (c.1.length:Int)).bind λ _ =>
 (e7 (hZ c.1 c.2.toNat) 0 c.2).bind λ i =>
 some (.inr (.inr i))))
 (some (.inl (i64 (b+1)))))
 (some (.inr (.inl ())))) 1).bind (Sum.elim (λ (_:Unit) =>
 some x0)
  (λ q=>some q)))
def mx(x0:bF)(x1:(aY→Option Int)):Option (List Int) :=
 (a6 (O:=(List Int)) (λ (a:((List Int) × Int)) =>
 af (decide (a.2 < (x0.cG.length:Int)))
 ((idx x0.cG a.2).bind λ c =>
 (x1 c).bind λ d =>
 (dD a.1 [d]).bind λ e =>
 some (.inl (e,i64 (a.2+1))))
 (some (.inr a.1))) ([],0)).bind (λ (b:(List Int)) =>
 (mb b).bind λ f =>
 (mc f).bind λ g =>
 some g)
def nR(x0:aY)(x1:Int):Option Int :=
 (idx x0.deep x1).bind λ a =>
 some a
def kT(x0:aj)(x1:Int):Option ((List Int) × Int) :=
 (mw x1).bind λ b =>
 (g1 x0 (λ y=>hG y b)).bind λ a =>
 af (a.2 != 0)
 (some ([],a.2))
 ((mx a.1 (λ y=>nR y x1)).bind λ c =>
 some (c,0))
def nk(x0:aY)(x1:bF)(x2:Int):Option Int :=
 (idx x0.deep x2).bind λ a =>
 (j2 x1.book a).bind λ b =>
 some b
def kV(x0:aj)(x1:Int):Option (Reach × Int) :=
 (mw x1).bind λ c =>
 (g1 x0 (λ y=>hG y c)).bind λ a =>
 af (a.2 != 0)
 (some ((⟨0,0⟩:Reach),a.2))
 ((mx a.1 (λ y=>nk y a.1 x1)).bind λ b =>
 (idx b 0).bind λ d =>
 (idx b (i64 ((b.length:Int) - 1))).bind λ e =>
 some ((⟨d,e⟩:Reach),0))
def l7(x0:aj)(x1:Int)(x2:Int):Option Int :=
 (gY x1 (x0.az.length:Int)).bind λ a =>
 (gY x2 (x0.av.length:Int)).bind λ b =>
 some (jA a [b])
def kH(x0:bF)(x1:Int):Option Int :=
 af (x1 == 0)
 (some 2)
 (af (x1 == (x0.cG.length:Int))
 (some 1)
 (some 0))
def nm(x0:aY)(x1:bF)(x2:Int)(x3:Int):Option Bool :=
 (kJ x1.book x0 x2 x3).bind λ a =>
 some a
def jz(x0:aj)(x1:Int)(x2:Int):Option (Int × Int) :=
 (g1 x0 (λ y=>l7 y x1 x2)).bind λ a =>
 af (a.2 != 0)
 (some (0,a.2))
 ((ju a.1 (λ y=>nm y a.1 x1 x2)).bind λ b =>
 (kH a.1 b).bind λ c =>
 some (c,0))
def nt(x0:(List Int)):Option (List Bool) :=
 (a6 (O:=(List Bool)) (λ (a:(Int × (List Bool))) =>
 af (decide (a.1 < (x0.length:Int)))
 ((idx x0 a.1).bind λ b =>
 (idx a.2 b).bind λ _ =>
 some (.inl (i64 (a.1+1),a.2.set b.toNat true)))
 (some (.inr a.2))) (0,[false,false,false,false])).bind (λ (c:(List Bool)) =>
 some c)
def qy(x0:aj)(x1:(List (List Int))):Option ((List Bool) × Int) :=
 af ((x1.length:Int) != (x0.av.length:Int))
 (some ([false,false,false,false,false,false,false,false,false,false,false,false,false,false,false,false],2))
 ((a6 (O:=((List Bool) ⊕ ((List Bool) × Int))) (λ (a:(Int × (List Bool))) =>
 af (decide (a.1 < (x1.length:Int)))
 ((idx x1 a.1).bind λ c =>
 (idx x0.av a.1).bind λ h =>
 af ((c.length:Int) != h.az)
 (some (.inr (.inr ([false,false,false,false,false,false,false,false,false,false,false,false,false,false,false,false],2))))
 ((a6 (O:=(Unit ⊕ ((List Bool) × Int))) (λ (b:Int) =>
 af (decide (b < (c.length:Int)))
 ((idx c b).bind λ d =>
 (gY d (x0.az.length:Int)).bind λ e =>
 af (e != 0)
 (some (.inr (.inr ([false,false,false,false,false,false,false,false,false,false,false,false,false,false,false,false],e))))
 ((((af (decide (b > 0))
 ((idx c (i64 (b - 1))).bind λ i =>
 some (decide (d≤i)))
 (some false)):Option Bool)).bind (λ (g:Bool) =>
 af g
 (some (.inr (.inr ([false,false,false,false,false,false,false,false,false,false,false,false,false,false,false,false],7))))
 (some (.inl (i64 (b+1)))))))
 (some (.inr (.inl ())))) 0).bind (Sum.elim (λ (_:Unit) =>
 (nt c).bind λ j =>
 (dF 4 a.2 a.1).bind λ _ =>
 some (.inl (i64 (a.1+1),ps 4 a.2 a.1 j)))
  (λ q=>some (.inr (.inr q))))))
 (some (.inr (.inl a.2)))) (0,[false,false,false,false,false,false,false,false,false,false,false,false,false,false,false,false])).bind (Sum.elim (λ (f:(List Bool)) =>
 some (f,0))
  (λ q=>some q)))
def qx(x0:aj)(x1:(List (List Int)))(_:(List Bool)):Option ((List Bool) × Int) :=
 (qy x0 x1).bind λ a =>
 some (a.1,a.2)
def l9(x0:aj)(x1:Int)(x2:Int):Option Bool :=
 (idx x0.av x1).bind λ a =>
 (idx x0.av x2).bind λ b =>
 af (x1 != x2)
 (af (decide (b.dy ≥ i64 ((i64 (a.dy+a.db))+x0.Rest)))
 (some true)
 (some (decide (a.dy ≥ i64 ((i64 (b.dy+b.db))+x0.Rest)))))
 (some false)
def kK(x0:aj)(x1:(List Bool))(x2:Int):Option Bool :=
 (a6 (O:=(Unit ⊕ Bool)) (λ (a:Int) =>
 af (decide (a < x2))
 ((l9 x0 a x2).bind λ c =>
 af c
 (some (.inl (i64 (a+1))))
 ((a6 (O:=(Unit ⊕ Bool)) (λ (b:Int) =>
 af (decide (b < (x0.az.length:Int)))
 ((dF 4 x1 a).bind λ d =>
 (idx d b).bind λ e =>
 af e
 ((dF 4 x1 x2).bind λ f =>
 (idx f b).bind λ g =>
 af g
 (some (.inr (.inr false)))
 (some (.inl (i64 (b+1)))))
 (some (.inl (i64 (b+1)))))
 (some (.inr (.inl ())))) 0).bind (Sum.elim (λ (_:Unit) =>
 some (.inl (i64 (a+1))))
  (λ q=>some (.inr (.inr q))))))
 (some (.inr (.inl ())))) 0).bind (Sum.elim (λ (_:Unit) =>
 some true)
  (λ q=>some q))
def np(x0:aY)(x1:aj)(x2:(List Bool))(x3:bF):Option Bool :=
 (a6 (O:=(Unit ⊕ Bool)) (λ (b:Int) =>
 af (decide (b < (x1.av.length:Int)))
 ((dF 4 x2 b).bind λ c =>
 (a6 (O:=(Unit ⊕ Bool)) (λ (a:Int) =>
 af (decide (a < 4))
 ((idx c a).bind λ d =>
 af d
 ((kJ x3.book x0 a b).bind λ e =>
 af (!e)
 (some (.inr (.inr false)))
 (some (.inl (i64 (a+1)))))
 (some (.inl (i64 (a+1)))))
 (some (.inr (.inl ())))) 0).bind (Sum.elim (λ (_:Unit) =>
 some (.inl (i64 (b+1))))
  (λ q=>some (.inr (.inr q)))))
 (some (.inr (.inl ())))) 0).bind (Sum.elim (λ (_:Unit) =>
 some true)
  (λ q=>some q))
def qw(x0:aj)(e:(List (List Int)))(b:(List Bool)):Option ((List Bool) × bF × Int) :=
 (g0 x0).bind λ c =>
 af (c != 0)
 (some (b,(⟨⟨0,[],[],[],[],[]⟩,[]⟩:bF),c))
 ((qx x0 e b).bind λ a =>
 af (a.2 != 0)
 (some (a.1,(⟨⟨0,[],[],[],[],[]⟩,[]⟩:bF),a.2))
 ((lb (λ y s=>gr y x0 s)).bind λ d =>
 af ((d.length:Int) == 0)
 (some (a.1,(⟨⟨0,[],[],[],[],[]⟩,[]⟩:bF),9))
 (some (a.1,(⟨⟨x0.Rest,x0.Rows,x0.aD,x0.az,x0.av,x0.aQ⟩,d⟩:bF),0))))
def m32(x0:aj)(x1:(List (List Int))):Option (Int × Int) :=
 (qw x0 x1 [false,false,false,false,false,false,false,false,false,false,false,false,false,false,false,false]).bind λ a =>
 af (a.2.2 != 0)
 (some (0,a.2.2))
 ((a6 (O:=(Unit ⊕ (Int × Int))) (λ (b:Int) =>
 af (decide (b < (x0.av.length:Int)))
 ((kK a.2.1.book a.1 b).bind λ c =>
 af (!c)
 (some (.inr (.inr (2,0))))
 (some (.inl (i64 (b+1)))))
 (some (.inr (.inl ())))) 0).bind (Sum.elim (λ (_:Unit) =>
 (ju a.2.1 (λ y=>np y x0 a.1 a.2.1)).bind λ d =>
 (kH a.2.1 d).bind λ e =>
 some (e,0))
  (λ q=>some q)))
def gI(_:aj):Option Int :=
 some 0
def eQ{S:Type}(ys:(List Bool)→S→Option (S × Bool)):Nat→((List Bool)→Int→bF→Int→(List Bool)→(List Bool)→S→Option (S × Bool)) × ((List Bool)→Int→Int→Int→bF→Int→(List Bool)→(List Bool)→S→Option (S × Bool))
 | 0=>(λ _ _ _ _ _ _ _=>none,λ _ _ _ _ _ _ _ _ _=>none)
 | k+1=>(λ x0 x1 b e d c s0 =>
  af (x1 == (b.book.av.length:Int))
  ((ys x0 s0).bind λ i =>
  some (i.1,i.2))
  ((fa .i64 e x1).bind λ r =>
  (cO .and .i64 r 1).bind λ f =>
  af (f == 1)
  (((eQ ys k).1 x0 (i64 (x1+1)) b e d c s0).bind λ l =>
  some (l.1,l.2))
  ((idx b.book.av x1).bind λ s =>
  ((eQ ys k).2 x0 x1 0 s.az b e d c s0).bind λ m =>
  some (m.1,m.2))),
  λ x0 x1 x2 x3 b e d c s0 =>
  af (x3 == 0)
  (((((kK b.book x0 x1).bind λ f =>
  af (!f)
  (some (s0,true))
  (((eQ ys k).1 x0 (i64 (x1+1)) b e d c s0).bind λ j =>
  some (j.1,j.2))):Option (S × Bool))).bind (λ (h:(S × Bool)) =>
  some (h.1,h.2)))
  ((a6 (O:=(S ⊕ (S × Bool))) (λ (a:(S × Int × (List Bool))) =>
  af (decide (a.2.1 < (b.book.az.length:Int)))
  (((((idx d a.2.1).bind λ t =>
  af (!t)
  (some true)
  ((dF 4 c x1).bind λ u =>
  (idx u a.2.1).bind λ v =>
  some (!v))):Option Bool)).bind (λ (o:Bool) =>
  af o
  (some (.inl (a.1,i64 (a.2.1+1),a.2.2)))
  ((dF 4 a.2.2 x1).bind λ w =>
  (idx w a.2.1).bind λ _ =>
  ((eQ ys k).2 (e9 4 a.2.2 x1 a.2.1 true) x1 (i64 (a.2.1+1)) (i64 (x3 - 1)) b e d c a.1).bind λ g =>
  af (!g.2)
  (some (.inr (.inr (g.1,false))))
  ((dF 4 (e9 4 a.2.2 x1 a.2.1 true) x1).bind λ p =>
  (idx p a.2.1).bind λ _ =>
  some (.inl (g.1,i64 (a.2.1+1),e9 4 (e9 4 a.2.2 x1 a.2.1 true) x1 a.2.1 false))))))
  (some (.inr (.inl a.1)))) (s0,x2,x0)).bind (Sum.elim (λ (n:S) =>
  some (n,true))
   (λ q=>some q))))
def gZ{S:Type}(ys:(List Bool)→S→Option (S × Bool))(x1:bF)(x2:Int)(x3:(List Bool))(x4:(List Bool))(s0:S):Option S :=
 ((eQ ys 40).1 [false,false,false,false,false,false,false,false,false,false,false,false,false,false,false,false] 0 x1 x2 x3 x4 s0).bind λ a =>
  some a.1
def jv(x0:bF)(x1:(List Bool))(x2:(List Bool))(x3:Int):Option (bF × Int × (List Bool) × (List Bool)) :=
 some (x0,x3,x2,x1)
def jw(x0:aj):Option (List Bool) :=
 (a6 (O:=(List Bool)) (λ (a:(Int × (List Bool))) =>
 af (decide (a.1 < (x0.az.length:Int)))
 ((idx a.2 a.1).bind λ _ =>
 some (.inl (i64 (a.1+1),a.2.set a.1.toNat true)))
 (some (.inr a.2))) (0,[false,false,false,false])).bind (λ (b:(List Bool)) =>
 some b)
def j5(x0:aj):Option (Int × Int) :=
 (g1 x0 (λ y=>gI y)).bind λ a =>
 af (a.2 != 0)
 (some (0,a.2))
 ((iF a.1).bind λ d =>
 (jw a.1.book).bind λ e =>
 (jv a.1 d e 0).bind λ b =>
 (gZ (cY (λ (_:(List Bool)) (c:Int)=>((some (.inl (i64 (c+1)))):Option (Int ⊕ Empty)))) b.1 b.2.1 b.2.2.1 b.2.2.2 (.inl 0)).bind (Sum.elim (λ (c:Int) =>
 some (c,0))
  (λ (o:Empty)=>o.elim)))
def j3(x0:aj)(x1:(List Bool)):Option (List (List Int)) :=
 (a6 (O:=(List (List Int))) (λ (b:((List (List Int)) × Int)) =>
 af (decide (b.2 < (x0.av.length:Int)))
 ((dF 4 x1 b.2).bind λ e =>
 (a6 (O:=(List Int)) (λ (a:((List Int) × Int)) =>
 af (decide (a.2 < 4))
 ((idx e a.2).bind λ f =>
 af f
 ((dD a.1 [a.2]).bind λ g =>
 some (.inl (g,i64 (a.2+1))))
 (some (.inl (a.1,i64 (a.2+1)))))
 (some (.inr a.1))) ([],0)).bind (λ (d:(List Int)) =>
 (dD b.1 [d]).bind λ h =>
 some (.inl (h,i64 (b.2+1)))))
 (some (.inr b.1))) ([],0)).bind (λ (c:(List (List Int))) =>
 some c)
def kW(x0:aj):Option ((List (List Int)) × Bool × Int) :=
 (g1 x0 (λ y=>gI y)).bind λ a =>
 af (a.2 != 0)
 (some ([],false,a.2))
 ((iF a.1).bind λ e =>
 (jw a.1.book).bind λ f =>
 (jv a.1 e f 0).bind λ b =>
 (gZ (cY (λ (g:(List Bool)) (_:Unit)=>(((j3 a.1.book g).bind λ h =>
 some (.inr h)):Option (Unit ⊕ (List (List Int)))))) b.1 b.2.1 b.2.2.1 b.2.2.2 (.inl ())).bind (Sum.elim (λ (_:Unit) =>
 some ([],false,0))
  (λ (c:(List (List Int))) =>
 some (c,true,0))))
def oT (x1:((List Bool)→((List (List Bool)) ⊕ Empty)→Option (((List (List Bool)) ⊕ Empty) × Bool))→((List (List Bool)) ⊕ Empty)→Option ((List (List Bool)) ⊕ Empty)):Option (List (List Bool)) :=
 (x1 (cY (λ (b:(List Bool)) (a:(List (List Bool)))=>(((dD a [b]).bind λ c =>
 some (.inl c)):Option ((List (List Bool)) ⊕ Empty)))) (.inl [])).bind (Sum.elim (λ (a:(List (List Bool))) =>
 some a)
  (λ (o:Empty)=>o.elim))
def nq (x0:((List Bool)→((List (List Bool)) ⊕ Empty)→Option (((List (List Bool)) ⊕ Empty) × Bool))→((List (List Bool)) ⊕ Empty)→Option ((List (List Bool)) ⊕ Empty)):Option (List (List Bool)) :=
 (oT x0).bind λ a =>
 some a
def ns(x0:((List Bool)→Option Int))(x1:(List (List Bool))):Option (List Bool) :=
 (idx x1 0).bind λ e =>
 (e7 x1 1 (x1.length:Int)).bind λ b =>
 (a6 (O:=(List Bool)) (λ (a:(Int × (List Bool))) =>
 af (decide (a.1 < (b.length:Int)))
 ((idx b a.1).bind λ c =>
 (x0 c).bind λ f =>
 (x0 a.2).bind λ g =>
 af (decide (f < g))
 (some (.inl (i64 (a.1+1),c)))
 (some (.inl (i64 (a.1+1),a.2))))
 (some (.inr a.2))) (0,e)).bind (λ (d:(List Bool)) =>
 some d)
def kL(x0:aj)(x1:(List Bool)):Option Int :=
 (a6 (O:=Int) (λ (b:((Int→Int) × Int × Int)) =>
 af (decide (b.2.2 < (x0.av.length:Int)))
 ((idx x0.av b.2.2).bind λ d =>
 (dF 4 x1 b.2.2).bind λ f =>
 (a6 (O:=((Int→Int) × Int)) (λ (a:((Int→Int) × Int × Int)) =>
 af (decide (a.2.2 < 4))
 ((idx f a.2.2).bind λ g =>
 af g
 (some (.inl (fK a.1 a.2.2 (i64 ((a.1 a.2.2)+d.db)),jA a.2.1 [(fK a.1 a.2.2 (i64 ((a.1 a.2.2)+d.db))) a.2.2],i64 (a.2.2+1))))
 (some (.inl (a.1,a.2.1,i64 (a.2.2+1)))))
 (some (.inr (a.1,a.2.1)))) (b.1,b.2.1,0)).bind (λ (c:((Int→Int) × Int)) =>
 some (.inl (c.1,c.2,i64 (b.2.2+1)))))
 (some (.inr b.2.1))) ((λ _=>0),0,0)).bind (λ (e:Int) =>
 some e)
def kY(x0:aj):Option ((List (List Int)) × Int × Bool × Int) :=
 (g1 x0 (λ y=>gI y)).bind λ a =>
 af (a.2 != 0)
 (some ([],0,false,a.2))
 ((iF a.1).bind λ e =>
 (jw a.1.book).bind λ f =>
 (jv a.1 e f 0).bind λ b =>
 (nq (λ y s=>gZ y b.1 b.2.1 b.2.2.1 b.2.2.2 s)).bind λ c =>
 af ((c.length:Int) == 0)
 (some ([],0,false,0))
 ((ns (λ y=>kL a.1.book y) c).bind λ d =>
 (j3 a.1.book d).bind λ g =>
 (kL a.1.book d).bind λ h =>
 some (g,h,true,0)))
def kN(x0:Int):Option (List Int) :=
 (a6 (O:=(List Int)) (λ (a:((List Int) × Int)) =>
 af (decide (a.2 < 4))
 ((fa .i64 x0 a.2).bind λ c =>
 (cO .and .i64 c 1).bind λ d =>
 af (d == 1)
 ((dD a.1 [a.2]).bind λ e =>
 some (.inl (e,i64 (a.2+1))))
 (some (.inl (a.1,i64 (a.2+1)))))
 (some (.inr a.1))) ([],0)).bind (λ (b:(List Int)) =>
 some b)
def qH(x0:Int)(x1:Int):Option Int :=
 (kS x0).bind λ b =>
 (kS x1).bind λ a =>
 af b
 (af a
 (some 0)
 (some (-1)))
 (af a
 (some 1)
 (af (decide (x0 < x1))
 (some (-1))
 (af (decide (x0 > x1))
 (some 1)
 (some 0))))
def nA(x0:(List Int))(x1:(List Int)):Option Int :=
 (a6 (O:=(Unit ⊕ Int)) (λ (a:Int) =>
 af (decide (a < (x0.length:Int)))
 ((idx x0 a).bind λ c =>
 af (decide (a ≥ (x1.length:Int)))
 (some (.inr (.inr 1)))
 ((idx x1 a).bind λ d =>
 (qH c d).bind λ b =>
 af (b != 0)
 (some (.inr (.inr b)))
 (some (.inl (i64 (a+1))))))
 (some (.inr (.inl ())))) 0).bind (Sum.elim (λ (_:Unit) =>
 af (decide ((x0.length:Int) < (x1.length:Int)))
 (some (-1))
 (some 0))
  (λ q=>some q))
def kM(x0:Int)(x1:(Int→Option Bool)):Option ((List Int) × Bool) :=
 (jL .i64 1 x0).bind λ i =>
 (a6 (O:=((List Int) × Bool)) (λ (a:((List Int) × Bool × Int)) =>
 af (decide (a.2.2 < i))
 ((kN a.2.2).bind λ b =>
 (((af (!a.2.1)
 ((x1 a.2.2).bind λ e =>
 some e)
 (af (decide ((b.length:Int) < (a.1.length:Int)))
 ((x1 a.2.2).bind λ f =>
 some f)
 (af ((b.length:Int) == (a.1.length:Int))
 ((nA b a.1).bind λ g =>
 af (decide (g < 0))
 ((x1 a.2.2).bind λ h =>
 some h)
 (some false))
 (some false)))):Option Bool)).bind (λ (d:Bool) =>
 af d
 (some (.inl (b,true,i64 (a.2.2+1))))
 (some (.inl (a.1,a.2.1,i64 (a.2.2+1))))))
 (some (.inr (a.1,a.2.1)))) ([],false,0)).bind (λ (c:((List Int) × Bool)) =>
 some (c.1,c.2))
def nu(x0:bF)(x1:(List Bool))(x2:(List Bool))(x3:Int):Option Bool :=
 (jv x0 x1 x2 x3).bind λ a =>
 (gZ (cY (λ (_:(List Bool)) (_:Unit)=>((some (.inr ())):Option (Unit ⊕ Unit)))) a.1 a.2.1 a.2.2.1 a.2.2.2 (.inl ())).bind (Sum.elim (λ (_:Unit) =>
 some false)
  (λ (_:Unit) =>
 some true))
def oJ(x0:Int)(x1:bF)(x2:(List Bool))(x3:(List Bool)):Option Bool :=
 (kN x0).bind λ b =>
 (nt b).bind λ a =>
 (nu x1 x2 a 0).bind λ c =>
 af c
 (some true)
 (af (vQ a x3 == true)
 ((nu x1 x2 x3 0).bind λ d =>
 some d)
 (some false))
def o4(x0:aj):Option ((List Int) × Bool × Int) :=
 (g1 x0 (λ y=>gI y)).bind λ a =>
 af (a.2 != 0)
 (some ([],false,a.2))
 ((iF a.1).bind λ c =>
 (jw a.1.book).bind λ d =>
 (kM (x0.az.length:Int) (λ y=>oJ y a.1 c d)).bind λ b =>
 some (b.1,b.2,0))
def oK(x0:Int)(x1:bF)(x2:(List Bool))(x3:(List Bool)):Option Bool :=
 (nu x1 x2 x3 x0).bind λ a =>
 some a
def nO(x0:aj):Option ((List Int) × Int) :=
 (g1 x0 (λ y=>gI y)).bind λ a =>
 af (a.2 != 0)
 (some ([],a.2))
 ((iF a.1).bind λ b =>
 (jw a.1.book).bind λ c =>
 (kM (x0.av.length:Int) (λ y=>oK y a.1 b c)).bind λ d =>
 some (d.1,0))
def nP(x0:aj)(x1:b7):Option aj :=
 (dD [] x0.aQ).bind λ a =>
 (dD a [x1]).bind λ b =>
 some (⟨x0.Rest,x0.Rows,x0.aD,x0.az,x0.av,b⟩:aj)
def j6(x0:aj)(x1:Int):Option (Int × Int) :=
 (g0 x0).bind λ a =>
 af (a != 0)
 (some (0,a))
 ((eP x1 1 30).bind λ b =>
 af (!b)
 (some (0,1))
 ((j2 (⟨x0.Rest,x0.Rows,x0.aD,x0.az,x0.av,x0.aQ⟩:aj) x1).bind λ c =>
 some (c,0)))
def nQ(x0:Int)(x1:Int):Option Reach :=
 some (⟨x0,x1⟩:Reach)
def oN(x0:(List b7)):Option (List b7) :=
 (dD [] x0).bind λ a =>
 some a
def oU(x0:(List da)):Option (List da) :=
 (dD [] x0).bind λ a =>
 some a
def oV(x0:(List Reach)):Option (List Reach) :=
 (dD [] x0).bind λ a =>
 some a
def oX(x0:(List cN)):Option (List cN) :=
 (dD [] x0).bind λ a =>
 some a
def oY(x0:(List fR)):Option (List fR) :=
 (dD [] x0).bind λ a =>
 some a
def qz(x0:aj):Option aj :=
 (oU x0.Rows).bind λ a =>
 (oV x0.aD).bind λ b =>
 (oX x0.az).bind λ c =>
 (oY x0.av).bind λ d =>
 (oN x0.aQ).bind λ e =>
 some (⟨x0.Rest,a,b,c,d,e⟩:aj)
def o6(x0:aj)(x1:Int)(x2:Int):Option (aj × Int) :=
 (g0 x0).bind λ f =>
 af (f != 0)
 (some ((⟨0,[],[],[],[],[]⟩:aj),f))
 ((eP x1 1 30).bind λ g =>
 (((af (!g)
 (some (!g))
 ((eP x2 1 60).bind λ j =>
 some (!j))):Option Bool)).bind (λ (h:Bool) =>
 af h
 (some ((⟨0,[],[],[],[],[]⟩:aj),1))
 ((j2 (⟨x0.Rest,x0.Rows,x0.aD,x0.az,x0.av,x0.aQ⟩:aj) x1).bind λ k =>
 af (decide (x2 > k))
 (some ((⟨0,[],[],[],[],[]⟩:aj),7))
 ((a6 (O:=(List da)) (λ (a:((List da) × Bool × Int)) =>
 af (decide (a.2.2 < (x0.Rows.length:Int)))
 ((idx x0.Rows a.2.2).bind λ b =>
 (((af (decide (b.cB > x1))
 (some (!a.2.1))
 (some false)):Option Bool)).bind (λ (i:Bool) =>
 (((af i
 ((dD a.1 [(⟨x1,x2⟩:da)]).bind λ l =>
 some (l,true))
 (some (a.1,a.2.1))):Option ((List da) × Bool))).bind (λ (d:((List da) × Bool)) =>
 (((af (decide (b.cB ≥ x1))
 (some (true,q1 b.cK [x2]))
 (some (d.2,b.cK))):Option (Bool × Int))).bind (λ (e:(Bool × Int)) =>
 (dD d.1 [(⟨b.cB,e.2⟩:da)]).bind λ m =>
 some (.inl (m,e.1,i64 (a.2.2+1)))))))
 (some (.inr a.1))) ([],false,0)).bind (λ (c:(List da)) =>
 af (decide ((c.length:Int) > 4))
 (some ((⟨0,[],[],[],[],[]⟩:aj),2))
 ((qz (⟨x0.Rest,c,x0.aD,x0.az,x0.av,x0.aQ⟩:aj)).bind λ n =>
 some (n,0)))))))
def ny(x0:aj)(x1:Int):Option aj :=
 (kN x1).bind λ b =>
 (a6 (O:=(List b7)) (λ (a:((List b7) × Int)) =>
 af (decide (a.2 < (b.length:Int)))
 ((idx b a.2).bind λ d =>
 (idx x0.aQ d).bind λ e =>
 (dD a.1 [e]).bind λ f =>
 some (.inl (f,i64 (a.2+1))))
 (some (.inr a.1))) ([],0)).bind (λ (c:(List b7)) =>
 some (⟨x0.Rest,x0.Rows,x0.aD,x0.az,x0.av,c⟩:aj))
def nz(x0:aj):Option Bool :=
 (gr (cY (λ (_:aY) (_:Unit)=>((some (.inr ())):Option (Unit ⊕ Unit)))) x0 (.inl ())).bind (Sum.elim (λ (_:Unit) =>
 some false)
  (λ (_:Unit) =>
 some true))
def nv(x0:Int)(x1:aj):Option Bool :=
 (ny x1 x0).bind λ a =>
 (nz a).bind λ b =>
 some (!b)
def kZ(x0:aj):Option ((List Int) × Int) :=
 (g0 x0).bind λ a =>
 af (a != 0)
 (some ([],a))
 ((kM (x0.aQ.length:Int) (λ y=>nv y x0)).bind λ b =>
 some (b.1,0))
def oL(x0:aY)(x1:Int)(x2:Int):Option Bool :=
 (idx x0.deep x1).bind λ a =>
 some (decide (a≤x2))
def o7(x0:aj):Option (Int × Int × Int × Int) :=
 (g1 x0 (λ y=>gI y)).bind λ c =>
 af (c.2 != 0)
 (some (0,0,0,c.2))
 ((a6 (O:=(Int × Int × Int)) (λ (b:(Int × Int × Int × Int)) =>
 af (decide (b.2.2.2 < (x0.aD.length:Int)))
 ((a6 (O:=(Int × Int × Int)) (λ (a:(Int × Int × Int × Int)) =>
 af (decide (a.2.2.2 < 31))
 ((ju c.1 (λ y=>oL y b.2.2.2 a.2.2.2)).bind λ d =>
 af (decide (jA d [i64 ((c.1.cG.length:Int) - d)] < a.2.2.1))
 (some (.inl (b.2.2.2,a.2.2.2,jA d [i64 ((c.1.cG.length:Int) - d)],i64 (a.2.2.2+1))))
 (some (.inl (a.1,a.2.1,a.2.2.1,i64 (a.2.2.2+1)))))
 (some (.inr (a.1,a.2.1,a.2.2.1)))) (b.1,b.2.1,b.2.2.1,0)).bind (λ (f:(Int × Int × Int)) =>
 some (.inl (f.1,f.2.1,f.2.2,i64 (b.2.2.2+1)))))
 (some (.inr (b.1,b.2.1,b.2.2.1)))) ((-1),(-1),(c.1.cG.length:Int),0)).bind (λ (e:(Int × Int × Int)) =>
 some (e.1,e.2.1,e.2.2,0)))
def o8(x0:aj)(x1:Int)(x2:Int):Option (Bool × Int) :=
 (g0 x0).bind λ a =>
 af (a != 0)
 (some (false,a))
 ((gY x1 (x0.av.length:Int)).bind λ b =>
 (gY x2 (x0.av.length:Int)).bind λ c =>
 af (jA b [c] != 0)
 (some (false,jA b [c]))
 ((l9 (⟨x0.Rest,x0.Rows,x0.aD,x0.az,x0.av,x0.aQ⟩:aj) x1 x2).bind λ d =>
 some (d,0)))
def oP(x0:Int):Option Reach :=
 some (⟨x0,x0⟩:Reach)
def qY  : Option aj :=
 (nQ 9 11).bind λ a =>
 (oP 15).bind λ b =>
 some (⟨10,[(⟨10,40⟩:da),(⟨20,20⟩:da)],[a,b],[(⟨⟨#[97,110,110]⟩,20⟩:cN),(⟨⟨#[98,111]⟩,12⟩:cN)],[(⟨0,0,20,2⟩:fR),(⟨1,30,15,1⟩:fR),(⟨0,60,30,1⟩:fR)],[]⟩:aj)
def nj(x0:(List Int))(x1:(List Int)):Option Bool :=
 (a6 (O:=(Unit ⊕ Bool)) (λ (a:Int) =>
 af (decide (a < (x1.length:Int)))
 ((((af (decide (a ≥ (x0.length:Int)))
 (some true)
 ((idx x0 a).bind λ c =>
 (idx x1 a).bind λ d =>
 some (decide (c < d)))):Option Bool)).bind (λ (b:Bool) =>
 af b
 (some (.inr (.inr true)))
 ((idx x0 a).bind λ e =>
 (idx x1 a).bind λ f =>
 af (decide (e > f))
 (some (.inr (.inr false)))
 (some (.inl (i64 (a+1)))))))
 (some (.inr (.inl ())))) 0).bind (Sum.elim (λ (_:Unit) =>
 some false)
  (λ q=>some q))
def nJ(x0:(List Int))(x1:(List Int)):Option Bool :=
 (nj x0 x1).bind λ a =>
 af (!a)
 ((nj x1 x0).bind λ b =>
 some (!b))
 (some false)
def k0(x0:(List Int))(x1:(List Int)):Option Bool :=
 (nJ x0 x1).bind λ a =>
 some a
def qN(x0:(List (List Int)))(x1:(List (List Int))):Option Bool :=
 af ((x0.length:Int) != (x1.length:Int))
 (some false)
 ((a6 (O:=(Unit ⊕ Bool)) (λ (a:Int) =>
 af (decide (a < (x0.length:Int)))
 ((idx x0 a).bind λ b =>
 (idx x1 a).bind λ c =>
 (nJ b c).bind λ d =>
 af (!d)
 (some (.inr (.inr false)))
 (some (.inl (i64 (a+1)))))
 (some (.inr (.inl ())))) 0).bind (Sum.elim (λ (_:Unit) =>
 some true)
  (λ q=>some q)))
def pa(x0:(List (List Int)))(x1:(List (List Int))):Option Bool :=
 (qN x0 x1).bind λ a =>
 some a
def mi  : Option Bool :=
 (qY).bind λ a =>
 (nP a (⟨0,10,true⟩:b7)).bind λ b =>
 (j6 a 10).bind λ h =>
 (j6 a 21).bind λ i =>
 (kR a).bind λ j =>
 (kT b 0).bind λ k =>
 (kV a 0).bind λ l =>
 (jz a 1 0).bind λ m =>
 (jz a 1 1).bind λ n =>
 (jz a 1 2).bind λ o =>
 (o8 a 0 1).bind λ p =>
 (m32 a ([[0,1],[0],[1]])).bind λ q =>
 (m32 b ([[0,1],[0],[1]])).bind λ r =>
 (((af (h.2 != 0)
 (some true)
 (af (i.2 != 0)
 (some true)
 (af (j.2 != 0)
 (some true)
 (af (k.2 != 0)
 (some true)
 (af (l.2 != 0)
 (some true)
 (af (m.2 != 0)
 (some true)
 (af (n.2 != 0)
 (some true)
 (af (o.2 != 0)
 (some true)
 (af (p.2 != 0)
 (some true)
 (af (q.2 != 0)
 (some true)
 (some (r.2 != 0)))))))))))):Option Bool)).bind (λ (x:Bool) =>
 af x
 (some false)
 ((((af (h.1 != 40)
 (some true)
 (af (i.1 != 0)
 (some true)
 (af (j.1 != 3)
 (some true)
 ((k0 k.1 [9,10]).bind λ B =>
 af (!B)
 (some true)
 ((nQ 20 40).bind λ C =>
 af (!(vR l.1 C == true))
 (some true)
 (af (m.1 != 1)
 (some true)
 (af (n.1 != 2)
 (some true)
 (af (o.1 != 0)
 (some true)
 (af (!p.1)
 (some true)
 (af (q.1 != 0)
 (some true)
 (some (r.1 != 1)))))))))))):Option Bool)).bind (λ (y:Bool) =>
 af y
 (some false)
 ((j5 a).bind λ s =>
 (j5 b).bind λ t =>
 (kW b).bind λ f =>
 (kY b).bind λ d =>
 (o4 b).bind λ g =>
 (nO a).bind λ u =>
 (o7 a).bind λ e =>
 (o6 b 12 15).bind λ c =>
 (nO c.1).bind λ v =>
 (nP b (⟨0,8,true⟩:b7)).bind λ D =>
 (kZ D).bind λ w =>
 (((af (s.2 != 0)
 (some true)
 (af (t.2 != 0)
 (some true)
 (af (f.2.2 != 0)
 (some true)
 (af (d.2.2.2 != 0)
 (some true)
 (af (g.2.2 != 0)
 (some true)
 (af (u.2 != 0)
 (some true)
 (af (e.2.2.2 != 0)
 (some true)
 (af (c.2 != 0)
 (some true)
 (af (v.2 != 0)
 (some true)
 (some (w.2 != 0))))))))))):Option Bool)).bind (λ (z:Bool) =>
 af z
 (some false)
 ((((af (s.1 != 0)
 (some true)
 (af (t.1 != 2)
 (some true)
 (af (!f.2.1)
 (some true)
 ((pa f.1 ([[0,1],[0],[0]])).bind λ E =>
 af (!E)
 (some true)
 (af (!d.2.2.1)
 (some true)
 (af (d.2.1 != 50)
 (some true)
 ((pa d.1 ([[0,1],[0],[1]])).bind λ F =>
 af (!F)
 (some true)
 (af (!g.2.1)
 (some true)
 ((k0 g.1 [0,1]).bind λ G =>
 af (!G)
 (some true)
 ((k0 u.1 [2]).bind λ H =>
 some (!H))))))))))):Option Bool)).bind (λ (A:Bool) =>
 af A
 (some false)
 (af (e.1 == 0)
 (af (e.2.1 == 9)
 (af (e.2.2.1 == 2)
 (af ((v.1.length:Int) == 0)
 ((k0 w.1 [1]).bind λ I =>
 af I
 (af ((c.1.Rows.length:Int) == 3)
 ((idx c.1.Rows 1).bind λ J =>
 af (qj J (⟨12,15⟩:da) == true)
 ((idx c.1.Rows 2).bind λ K =>
 some (qj K (⟨20,15⟩:da) == true))
 (some false))
 (some false))
 (some false))
 (some false))
 (some false))
 (some false))
 (some false)))))))))
def e8(x0:Int)(x1:Int)(x2:Int):Option Bool :=
 af (decide (x1≤x0))
 (some (decide (x0≤x2)))
 (some false)
def oG(x0:aj)(x1:Int):Option Bool :=
 (e8 x1 0 (i64 ((x0.aD.length:Int) - 1))).bind λ a =>
 some a
def qA(x0:aj):Option Int :=
 (e8 x0.Rest 0 60).bind λ h =>
 af (!h)
 (some 1)
 ((e8 (x0.Rows.length:Int) 1 4).bind λ i =>
 af (!i)
 (some 2)
 ((a6 (O:=(Unit ⊕ Int)) (λ (a:Int) =>
 af (decide (a < (x0.Rows.length:Int)))
 ((idx x0.Rows a).bind λ b =>
 ((((e8 b.cB 1 30).bind λ d =>
 af (!d)
 (some true)
 ((e8 b.cK 1 60).bind λ e =>
 some (!e))):Option Bool)).bind (λ (c:Bool) =>
 af c
 (some (.inr (.inr 1)))
 (af (decide (a > 0))
 ((idx x0.Rows (i64 (a - 1))).bind λ f =>
 af (decide (b.cB≤f.cB))
 (some (.inr (.inr 7)))
 ((idx x0.Rows (i64 (a - 1))).bind λ g =>
 af (decide (b.cK > g.cK))
 (some (.inr (.inr 7)))
 (some (.inl (i64 (a+1))))))
 (some (.inl (i64 (a+1)))))))
 (some (.inr (.inl ())))) 0).bind (Sum.elim (λ (_:Unit) =>
 some 0)
  (λ q=>some q))))
def qE(x0:Reach)(x1:Int)(x2:Int):Option Bool :=
 af (decide (x1≤x0.bJ))
 (af (decide (x0.bJ≤x0.bT))
 (some (decide (x0.bT≤x2)))
 (some false))
 (some false)
def nC(x0:Int):Option Bool :=
 (e8 (i64 x0) 97 122).bind λ a =>
 some a
def o0(x0:Int):Option Bool :=
 (e8 (i64 x0) 48 57).bind λ a =>
 some a
def qF(x0:ByteArray):Option Bool :=
 ((((e8 (x0.size:Int) 1 12).bind λ c =>
 af (!c)
 (some true)
 ((jM x0 0).bind λ d =>
 (nC d).bind λ e =>
 some (!e))):Option Bool)).bind (λ (b:Bool) =>
 af b
 (some false)
 ((a6 (O:=(Unit ⊕ Bool)) (λ (a:Int) =>
 af (decide (a < (x0.size:Int)))
 ((jM x0 a).bind λ f =>
 (nC f).bind λ g =>
 af (!g)
 ((jM x0 a).bind λ h =>
 (o0 h).bind λ i =>
 af (!i)
 (some (.inr (.inr false)))
 (some (.inl (i64 (a+1)))))
 (some (.inl (i64 (a+1)))))
 (some (.inr (.inl ())))) 1).bind (Sum.elim (λ (_:Unit) =>
 some true)
  (λ q=>some q))))
def qB(x0:aj):Option Int :=
 (e8 (x0.aD.length:Int) 1 3).bind λ e =>
 af (!e)
 (some 2)
 ((a6 (O:=(Unit ⊕ Int)) (λ (b:Int) =>
 af (decide (b < (x0.aD.length:Int)))
 ((idx x0.aD b).bind λ d =>
 (qE d 1 30).bind λ f =>
 af (!f)
 (some (.inr (.inr 1)))
 (af (decide (i64 (d.bT - d.bJ) ≥ 3))
 (some (.inr (.inr 1)))
 (some (.inl (i64 (b+1))))))
 (some (.inr (.inl ())))) 0).bind (Sum.elim (λ (_:Unit) =>
 (e8 (x0.az.length:Int) 1 4).bind λ g =>
 af (!g)
 (some 2)
 ((a6 (O:=(Unit ⊕ Int)) (λ (a:Int) =>
 af (decide (a < (x0.az.length:Int)))
 ((idx x0.az a).bind λ h =>
 (qF h.Name).bind λ i =>
 af (!i)
 (some (.inr (.inr 4)))
 ((a6 (O:=(Unit ⊕ Int)) (λ (c:Int) =>
 af (decide (c < a))
 ((idx x0.az c).bind λ j =>
 (idx x0.az a).bind λ k =>
 af (j.Name.toList == k.Name.toList)
 (some (.inr (.inr 5)))
 (some (.inl (i64 (c+1)))))
 (some (.inr (.inl ())))) 0).bind (Sum.elim (λ (_:Unit) =>
 (idx x0.az a).bind λ l =>
 (e8 l.gj 1 30).bind λ m =>
 af (!m)
 (some (.inr (.inr 1)))
 (some (.inl (i64 (a+1)))))
  (λ q=>some (.inr (.inr q))))))
 (some (.inr (.inl ())))) 0).bind (Sum.elim (λ (_:Unit) =>
 some 0)
  (λ q=>some q))))
  (λ q=>some q)))
def qQ(x0:aj):Option Int :=
 (qA x0).bind λ d =>
 af (d != 0)
 (some d)
 ((qB x0).bind λ e =>
 af (e != 0)
 (some e)
 ((e8 (x0.av.length:Int) 1 4).bind λ f =>
 af (!f)
 (some 2)
 ((a6 (O:=(Unit ⊕ Int)) (λ (c:Int) =>
 af (decide (c < (x0.av.length:Int)))
 ((idx x0.av c).bind λ b =>
 (oG x0 b.Place).bind λ g =>
 af (!g)
 (some (.inr (.inr 6)))
 ((e8 b.dy 0 200).bind λ h =>
 af (!h)
 (some (.inr (.inr 1)))
 ((e8 b.db 1 60).bind λ i =>
 af (!i)
 (some (.inr (.inr 1)))
 ((e8 b.az 1 3).bind λ j =>
 af (!j)
 (some (.inr (.inr 1)))
 (some (.inl (i64 (c+1))))))))
 (some (.inr (.inl ())))) 0).bind (Sum.elim (λ (_:Unit) =>
 af (decide ((x0.aQ.length:Int) > 3))
 (some 2)
 ((a6 (O:=(Unit ⊕ Int)) (λ (a:Int) =>
 af (decide (a < (x0.aQ.length:Int)))
 ((idx x0.aQ a).bind λ k =>
 (oG x0 k.Place).bind λ l =>
 af (!l)
 (some (.inr (.inr 6)))
 ((idx x0.aQ a).bind λ m =>
 (e8 m.dJ 0 30).bind λ n =>
 af (!n)
 (some (.inr (.inr 1)))
 (some (.inl (i64 (a+1))))))
 (some (.inr (.inl ())))) 0).bind (Sum.elim (λ (_:Unit) =>
 some 0)
  (λ q=>some q))))
  (λ q=>some q)))))
def qt(x0:aj)(x1:Int):Option Int :=
 (a6 (O:=(Unit ⊕ Int)) (λ (a:Int) =>
 af (decide (a < (x0.Rows.length:Int)))
 ((idx x0.Rows a).bind λ b =>
 af (decide (b.cB ≥ x1))
 ((idx x0.Rows a).bind λ c =>
 some (.inr (.inr c.cK)))
 (some (.inl (i64 (a+1)))))
 (some (.inr (.inl ())))) 0).bind (Sum.elim (λ (_:Unit) =>
 some 0)
  (λ q=>some q))
def mr(x0:aj)(x1:(List Int))(x2:Int)(x3:Int):Option Bool :=
 (idx x0.av x3).bind λ a =>
 (idx x1 a.Place).bind λ b =>
 (idx x0.az x2).bind λ c =>
 af (decide (b≤c.gj))
 ((idx x1 a.Place).bind λ d =>
 (qt x0 d).bind λ e =>
 some (decide (a.db≤e)))
 (some false)
def qR(x0:(List Int))(x1:Int):Option Int :=
 (a6 (O:=(Unit ⊕ Int)) (λ (a:Int) =>
 af (decide (a < (x0.length:Int)))
 ((idx x0 a).bind λ b =>
 (e8 b 0 (i64 (x1 - 1))).bind λ c =>
 af (!c)
 (some (.inr (.inr 6)))
 (af (decide (a > 0))
 ((idx x0 a).bind λ d =>
 (idx x0 (i64 (a - 1))).bind λ e =>
 af (decide (d≤e))
 (some (.inr (.inr 7)))
 (some (.inl (i64 (a+1)))))
 (some (.inl (i64 (a+1))))))
 (some (.inr (.inl ())))) 0).bind (Sum.elim (λ (_:Unit) =>
 some 0)
  (λ q=>some q))
def qS(x0:aj)(x1:(List (List Int))):Option Int :=
 af ((x1.length:Int) != (x0.av.length:Int))
 (some 2)
 ((a6 (O:=(Unit ⊕ Int)) (λ (a:Int) =>
 af (decide (a < (x1.length:Int)))
 ((idx x1 a).bind λ c =>
 (idx x0.av a).bind λ d =>
 af ((c.length:Int) != d.az)
 (some (.inr (.inr 2)))
 ((idx x1 a).bind λ e =>
 (qR e (x0.az.length:Int)).bind λ b =>
 af (b != 0)
 (some (.inr (.inr b)))
 (some (.inl (i64 (a+1))))))
 (some (.inr (.inl ())))) 0).bind (Sum.elim (λ (_:Unit) =>
 some 0)
  (λ q=>some q)))
def o5(x0:(List Int))(x1:Int):Option Bool :=
 (a6 (O:=(Unit ⊕ Bool)) (λ (a:Int) =>
 af (decide (a < (x0.length:Int)))
 ((idx x0 a).bind λ b =>
 af (b == x1)
 (some (.inr (.inr true)))
 (some (.inl (i64 (a+1)))))
 (some (.inr (.inl ())))) 0).bind (Sum.elim (λ (_:Unit) =>
 some false)
  (λ q=>some q))
def qD(x0:aj)(x1:Int)(x2:Int):Option Bool :=
 (idx x0.av x1).bind λ a =>
 (idx x0.av x2).bind λ b =>
 af (decide (b.dy ≥ i64 ((i64 (a.dy+a.db))+x0.Rest)))
 (some true)
 (some (decide (a.dy ≥ i64 ((i64 (b.dy+b.db))+x0.Rest))))
def oH(x0:aj)(x1:(List (List Int))):Option Bool :=
 (a6 (O:=(Unit ⊕ Bool)) (λ (a:Int) =>
 af (decide (a < (x1.length:Int)))
 ((a6 (O:=(Unit ⊕ Bool)) (λ (b:Int) =>
 af (decide (b < a))
 ((a6 (O:=(Unit ⊕ Bool)) (λ (c:Int) =>
 (idx x1 a).bind λ d =>
 af (decide (c < (d.length:Int)))
 ((idx x1 b).bind λ e =>
 (idx x1 a).bind λ f =>
 (idx f c).bind λ g =>
 (o5 e g).bind λ h =>
 af h
 ((qD x0 a b).bind λ i =>
 af (!i)
 (some (.inr (.inr false)))
 (some (.inl (i64 (c+1)))))
 (some (.inl (i64 (c+1)))))
 (some (.inr (.inl ())))) 0).bind (Sum.elim (λ (_:Unit) =>
 some (.inl (i64 (b+1))))
  (λ q=>some (.inr (.inr q)))))
 (some (.inr (.inl ())))) 0).bind (Sum.elim (λ (_:Unit) =>
 some (.inl (i64 (a+1))))
  (λ q=>some (.inr (.inr q)))))
 (some (.inr (.inl ())))) 0).bind (Sum.elim (λ (_:Unit) =>
 some true)
  (λ q=>some q))
def wI(x0:aj)(x1:(List Int))(x2:(List (List Int))):Option Bool :=
 (a6 (O:=(Unit ⊕ Bool)) (λ (a:Int) =>
 af (decide (a < (x2.length:Int)))
 ((a6 (O:=(Unit ⊕ Bool)) (λ (b:Int) =>
 (idx x2 a).bind λ c =>
 af (decide (b < (c.length:Int)))
 ((idx x2 a).bind λ d =>
 (idx d b).bind λ e =>
 (mr x0 x1 e a).bind λ f =>
 af (!f)
 (some (.inr (.inr false)))
 (some (.inl (i64 (b+1)))))
 (some (.inr (.inl ())))) 0).bind (Sum.elim (λ (_:Unit) =>
 some (.inl (i64 (a+1))))
  (λ q=>some (.inr (.inr q)))))
 (some (.inr (.inl ())))) 0).bind (Sum.elim (λ (_:Unit) =>
 some true)
  (λ q=>some q))
def tp(x0:(List Int))(x1:(List Int)):Option Bool :=
 af (decide ((x0.length:Int) < (x1.length:Int)))
 (some true)
 (af ((x0.length:Int) == (x1.length:Int))
 ((nj x0 x1).bind λ a =>
 some a)
 (some false))
def qO(x0:aj):Option Bool :=
 (qG x0).bind λ a =>
 af (!a)
 ((qQ x0).bind λ b =>
 some (b == 0))
 (some false)
def oM(x0:(List Int))(x1:Int):Option Int :=
 (e8 x1 0 (i64 ((x0.length:Int) - 1))).bind λ a =>
 af a
 ((idx x0 x1).bind λ b =>
 some (i64 b))
 (some 0)
def wQ(x0:(List Int))(x1:(Int→Option Bool)):Option Int :=
 (a6 (O:=(Unit ⊕ Int)) (λ (a:Int) =>
 af (decide (a < (x0.length:Int)))
 ((idx x0 a).bind λ b =>
 (x1 b).bind λ c =>
 af c
 (some (.inr (.inr a)))
 (some (.inl (i64 (a+1)))))
 (some (.inr (.inl ())))) 0).bind (Sum.elim (λ (_:Unit) =>
 some (-1))
  (λ q=>some q))
def tc(x0:(List Int))(x1:(Int→Option Bool)):Option Bool :=
 (wQ x0 x1).bind λ a =>
 some (decide (a ≥ 0))
def qC(x0:Int):Option Bool :=
 (eP x0 1 30).bind λ a =>
 some (!a)
def td(x0:(List Int)):Option aY :=
 some (⟨gB [0,0,0] x0⟩:aY)
def qT(x0:aj)(x1:(List Int)):Option (Bool × Int) :=
 (g0 x0).bind λ a =>
 af (a != 0)
 (some (false,a))
 (af ((x1.length:Int) != (x0.aD.length:Int))
 (some (false,2))
 ((tc x1 (λ y=>qC y)).bind λ c =>
 af c
 (some (false,1))
 ((td x1).bind λ d =>
 (gr (cY (λ (e:aY) (_:Unit)=>((af (l4 e d == true)
 (some (.inr ()))
 (some (.inl ()))):Option (Unit ⊕ Unit)))) (⟨x0.Rest,x0.Rows,x0.aD,x0.az,x0.av,x0.aQ⟩:aj) (.inl ())).bind (Sum.elim (λ (_:Unit) =>
 some (false,0))
  (λ (_:Unit) =>
 some (true,0))))))
def oO(x0:Reach)(x1:Int):Option Int :=
 (lp x1 (i64 ((i64 (x0.bT - x0.bJ))+1))).bind λ a =>
 some (i64 (x0.bJ+a))
def qV(x0:aj)(x1:(List Int)):Option (List Int) :=
 (a6 (O:=(List Int)) (λ (a:((List Int) × Int)) =>
 af (decide (a.2 < (x0.aD.length:Int)))
 ((idx x0.aD a.2).bind λ c =>
 (oM x1 a.2).bind λ d =>
 (oO c d).bind λ e =>
 (dD a.1 [e]).bind λ f =>
 some (.inl (f,i64 (a.2+1))))
 (some (.inr a.1))) ([],0)).bind (λ (b:(List Int)) =>
 some b)
def qW(x0:aj)(x1:(List Int)):Option aj :=
 (a6 (O:=(List b7)) (λ (a:(Int × (List b7))) =>
 af (decide (a.1 < (x0.aQ.length:Int)))
 ((idx x0.aQ a.1).bind λ b =>
 (idx x1 b.Place).bind λ d =>
 (dD a.2 [(⟨b.Place,b.dJ,decide (d≤b.dJ)⟩:b7)]).bind λ e =>
 some (.inl (i64 (a.1+1),e)))
 (some (.inr a.2))) (0,[])).bind (λ (c:(List b7)) =>
 some (⟨x0.Rest,x0.Rows,x0.aD,x0.az,x0.av,c⟩:aj))
def qX(x0:Int)(x1:Bool):Option Bool :=
 af (x0 == 0)
 (some true)
 (some ((x0 == 1) == x1))
def o9(x0:aj)(x1:(List Int))(x2:(List (List Int))):Option Bool :=
 ((((qS x0 x2).bind λ d =>
 af (d != 0)
 (some true)
 ((oH x0 x2).bind λ e =>
 some (!e))):Option Bool)).bind (λ (c:Bool) =>
 af c
 (some false)
 ((a6 (O:=(Unit ⊕ Bool)) (λ (a:Int) =>
 af (decide (a < (x2.length:Int)))
 ((a6 (O:=(Unit ⊕ Bool)) (λ (b:Int) =>
 (idx x2 a).bind λ f =>
 af (decide (b < (f.length:Int)))
 ((idx x2 a).bind λ g =>
 (idx g b).bind λ h =>
 (mr x0 x1 h a).bind λ i =>
 af (!i)
 (some (.inr (.inr false)))
 (some (.inl (i64 (b+1)))))
 (some (.inr (.inl ())))) 0).bind (Sum.elim (λ (_:Unit) =>
 some (.inl (i64 (a+1))))
  (λ q=>some (.inr (.inr q)))))
 (some (.inr (.inl ())))) 0).bind (Sum.elim (λ (_:Unit) =>
 some true)
  (λ q=>some q))))
def tg(x0:aj)(x1:(List Int))(x2:Int)(x3:Int)(x4:Int):Option Bool :=
 (qO x0).bind λ s =>
 af (!s)
 ((mi).bind λ t =>
 some t)
 ((qV x0 x1).bind λ b =>
 (qW x0 b).bind λ a =>
 (lp (i64 x2) (a.aD.length:Int)).bind λ d =>
 (lp (i64 x3) (a.az.length:Int)).bind λ g =>
 (lp (i64 x4) (a.av.length:Int)).bind λ h =>
 (qT a b).bind λ i =>
 (kR a).bind λ j =>
 (kZ a).bind λ k =>
 (kT a d).bind λ l =>
 (kV a d).bind λ f =>
 (jz a g h).bind λ m =>
 (idx b d).bind λ u =>
 (j6 a u).bind λ n =>
 (((af (i.2 != 0)
 (some true)
 (af (j.2 != 0)
 (some true)
 (af (k.2 != 0)
 (some true)
 (af (l.2 != 0)
 (some true)
 (af (f.2 != 0)
 (some true)
 (af (m.2 != 0)
 (some true)
 (af (n.2 != 0)
 (some true)
 (af (!i.1)
 (some true)
 (af (decide (j.1 < 1))
 (some true)
 (af (decide ((k.1.length:Int) > 0))
 (some true)
 ((idx b d).bind λ v =>
 (o5 l.1 v).bind λ w =>
 af (!w)
 (some true)
 ((e8 n.1 f.1.bJ f.1.bT).bind λ x =>
 af (!x)
 (some true)
 ((mr a b g h).bind λ y =>
 (qX m.1 y).bind λ z =>
 some (!z)))))))))))))):Option Bool)).bind (λ (p:Bool) =>
 af p
 (some false)
 ((j5 a).bind λ o =>
 (kW a).bind λ c =>
 (kY a).bind λ e =>
 (((af (o.2 != 0)
 (some true)
 (af (c.2.2 != 0)
 (some true)
 (af (e.2.2.2 != 0)
 (some true)
 (af (!(c.2.1 == e.2.2.1))
 (some true)
 (some (!(c.2.1 == (decide (o.1 > 0))))))))):Option Bool)).bind (λ (q:Bool) =>
 af q
 (some false)
 (af (!c.2.1)
 ((((af (i64 ((c.1.length:Int)+(e.1.length:Int)) == 0)
 ((mi).bind λ A =>
 some A)
 (some false)):Option Bool)).bind (λ (r:Bool) =>
 some r))
 ((o9 a b c.1).bind λ B =>
 af B
 ((o9 a b e.1).bind λ C =>
 af C
 ((mi).bind λ D =>
 some D)
 (some false))
 (some false)))))))
def kq{B:Base}{main:Bool}(ab:Jd prog B main):Prop:=∀ {R:ax} {H:ai} (x0:bF) {a b c d e f:Value},aa bt 2 R a x0.book.Rows→aa bq 2 R b x0.book.aD→aa bp 2 R c x0.book.az→aa br 4 R d x0.book.av→aa bg 3 R e x0.book.aQ→aa c9 3 R f x0.cG→∀ {r:List Bool},iF x0=some r →
 aP ab 123 #[.agg #[iv x0.book.Rest,a,b,c,d,e,f]] R H λ v R' H'=>aJ R R'∧H=H'∧r.length=16∧v = .agg (List.toArray ([]++(r.map Value.bool++[])))
theorem ic{B:Base}{main:Bool}{ab:Jd prog B main}{R:ax}{H:ai}(x0:bF)(m:kq ab){a b c d e f:Value}(g:aa bt 2 R a x0.book.Rows)(h:aa bq 2 R b x0.book.aD)(i:aa bp 2 R c x0.book.az)(j:aa br 4 R d x0.book.av)(k:aa bg 3 R e x0.book.aQ)(l:aa c9 3 R f x0.cG){r:List Bool}(n:iF x0=some r) :
 aP ab 123 #[.agg #[iv x0.book.Rest,a,b,c,d,e,f]] R H λ v R' H'=>aJ R R'∧H=H'∧r.length=16∧v = .agg (List.toArray ([]++(r.map Value.bool++[]))):=m x0 g h i j k l n
end
end Go.Proofs.YtihapemckcdicaaGreatDoor
