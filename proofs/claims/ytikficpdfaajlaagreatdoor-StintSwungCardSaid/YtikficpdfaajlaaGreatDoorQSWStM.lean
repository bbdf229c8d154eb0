/- What the functions compute. Conditions: none. -/
import Derived.Test.YtikficpdfaajlaaGreatDoorQSWStF
import Derived.Test.YtikficpdfaajlaaGreatDoorQSWStP
namespace Go.Proofs.YtikficpdfaajlaaGreatDoor
open Go.Lg Go.Proofs Tryz
noncomputable section
set_option maxRecDepth 100000
def fC(x0:Int)(x1:Int)(x2:Int):a5 :=
 ab (decide (x1≤x0))
 (some (decide (x0≤x2)))
 (some false)
def sC(x0:ByteArray):a5:=some (hO x0)
def kF(x0:bU)(x1:(bc→a5)):b5 :=
 (bb (O:=Int) (λ (b:(Int × Int)) =>
 ab (decide (b.2 < (x0.cY.length:Int)))
 ((idx x0.cY b.2).bind λ d =>
 (x1 d).bind λ f =>
 ab f
 (some (.inl (i64 (b.1+1),i64 (b.2+1))))
 (some (.inl (b.1,i64 (b.2+1)))))
 (some (.inr b.1))) (0,0)).bind (λ (c:Int) =>
 some c)
def lA(x0:an)(x1:Int):b5 :=
 (bb (O:=(Unit ⊕ Int)) (λ (b:Int) =>
 ab (decide (b < (x0.Rows.length:Int)))
 ((idx x0.Rows b).bind λ c =>
 ab (decide (x1≤c.db))
 (some (.inr (.inr c.dr)))
 (some (.inl (i64 (b+1)))))
 (some (.inr (.inl ())))) 0).bind (Sum.elim (λ (_:Unit) =>
 some 0)
  (λ q=>some q))
def l8(x0:an)(x1:bc)(x2:Int)(x3:Int):a5 :=
 (idx x0.az x3).bind λ b =>
 (idx x1.deep b.Place).bind λ c =>
 (idx x0.ay x2).bind λ d =>
 ab (decide (c≤d.hH))
 ((lA x0 c).bind λ f =>
 some (decide (b.eN≤f)))
 (some false)
def lW(x0:bc)(x1:bU)(x2:Int)(x3:Int):a5 :=
 (l8 x1.book x0 x2 x3).bind λ b =>
 some b
def iy(x0:bU)(i k:Nat):a5:=(kF x0 (λ y=>lW y x0 (k:Int) (i:Int))).bind λ n=>some (n == (x0.cY.length:Int))
def jM(x0:bU):Option aW :=
 if (0 < x0.book.az.length∧x0.book.az.length≤4)∧(0 < x0.book.ay.length∧x0.book.ay.length≤4) then
  (((List.range 16).mapM λ (p:Nat)=>if p / 4 < x0.book.az.length∧p % 4 < x0.book.ay.length then iy x0 (p / 4) (p % 4) else some false):Option aW)
 else none
def r9(x0:an):a5 :=
 (((ab (decide ((x0.Rows.length:Int) > 20))
 (some true)
 (ab (decide ((x0.aJ.length:Int) > 20))
 (some true)
 (ab (decide ((x0.ay.length:Int) > 20))
 (some true)
 (ab (decide ((x0.az.length:Int) > 20))
 (some true)
 (some (decide ((x0.a0.length:Int) > 20))))))):a5)).bind (λ (c:Bool) =>
 ab c
 (some true)
 ((bb (O:=(Unit ⊕ Bool)) (λ (b:Int) =>
 ab (decide (b < (x0.ay.length:Int)))
 ((idx x0.ay b).bind λ d =>
 ab (decide ((d.Name.size:Int) > 100))
 (some (.inr (.inr true)))
 (some (.inl (i64 (b+1)))))
 (some (.inr (.inl ())))) 0).bind (Sum.elim (λ (_:Unit) =>
 some false)
  (λ q=>some q))))
def eC(x0:Int)(x1:Int)(x2:Int):a5 :=
 ab (decide (x1≤x0))
 (some (decide (x0≤x2)))
 (some false)
def sG(x0:an):b5 :=
 (eC x0.Rest 0 60).bind λ k =>
 ab (!k)
 (some 1)
 ((eC (x0.Rows.length:Int) 1 4).bind λ m =>
 ab (!m)
 (some 2)
 ((bb (O:=(Unit ⊕ Int)) (λ (b:Int) =>
 ab (decide (b < (x0.Rows.length:Int)))
 ((idx x0.Rows b).bind λ c =>
 ((((eC c.db 1 30).bind λ f =>
 ab (!f)
 (some true)
 ((eC c.dr 1 60).bind λ g =>
 some (!g))):a5)).bind (λ (d:Bool) =>
 ab d
 (some (.inr (.inr 1)))
 (ab (decide (b > 0))
 ((idx x0.Rows (i64 (b - 1))).bind λ i =>
 ab (decide (c.db≤i.db))
 (some (.inr (.inr 7)))
 ((idx x0.Rows (i64 (b - 1))).bind λ j =>
 ab (decide (c.dr > j.dr))
 (some (.inr (.inr 7)))
 (some (.inl (i64 (b+1))))))
 (some (.inl (i64 (b+1)))))))
 (some (.inr (.inl ())))) 0).bind (Sum.elim (λ (_:Unit) =>
 some 0)
  (λ q=>some q))))
def l5(x0:Reach)(x1:Int)(x2:Int):a5 :=
 ab (decide (x1≤x0.aZ))
 (ab (decide (x0.aZ≤x0.bh))
 (some (decide (x0.bh≤x2)))
 (some false))
 (some false)
def oJ(x0:Int):a5 :=
 (eC (i64 x0) 97 122).bind λ b =>
 some b
def qc(x0:Int):a5 :=
 (eC (i64 x0) 48 57).bind λ b =>
 some b
def sb(x0:ByteArray):a5 :=
 ((((eC (x0.size:Int) 1 12).bind λ d =>
 ab (!d)
 (some true)
 ((kR x0 0).bind λ f =>
 (oJ f).bind λ g =>
 some (!g))):a5)).bind (λ (c:Bool) =>
 ab c
 (some false)
 ((bb (O:=(Unit ⊕ Bool)) (λ (b:Int) =>
 ab (decide (b < (x0.size:Int)))
 ((kR x0 b).bind λ i =>
 (oJ i).bind λ j =>
 ab (!j)
 ((kR x0 b).bind λ k =>
 (qc k).bind λ m =>
 ab (!m)
 (some (.inr (.inr false)))
 (some (.inl (i64 (b+1)))))
 (some (.inl (i64 (b+1)))))
 (some (.inr (.inl ())))) 1).bind (Sum.elim (λ (_:Unit) =>
 some true)
  (λ q=>some q))))
def sH(x0:an):b5 :=
 (eC (x0.aJ.length:Int) 1 3).bind λ g =>
 ab (!g)
 (some 2)
 ((bb (O:=(Unit ⊕ Int)) (λ (c:Int) =>
 ab (decide (c < (x0.aJ.length:Int)))
 ((idx x0.aJ c).bind λ f =>
 (l5 f 1 30).bind λ i =>
 ab (!i)
 (some (.inr (.inr 1)))
 (ab (decide (i64 (f.bh - f.aZ) ≥ 3))
 (some (.inr (.inr 1)))
 (some (.inl (i64 (c+1))))))
 (some (.inr (.inl ())))) 0).bind (Sum.elim (λ (_:Unit) =>
 (eC (x0.ay.length:Int) 1 4).bind λ j =>
 ab (!j)
 (some 2)
 ((bb (O:=(Unit ⊕ Int)) (λ (b:Int) =>
 ab (decide (b < (x0.ay.length:Int)))
 ((idx x0.ay b).bind λ k =>
 (sb k.Name).bind λ m =>
 ab (!m)
 (some (.inr (.inr 4)))
 ((bb (O:=(Unit ⊕ Int)) (λ (d:Int) =>
 ab (decide (d < b))
 ((idx x0.ay d).bind λ n =>
 (idx x0.ay b).bind λ o =>
 ab (n.Name.toList == o.Name.toList)
 (some (.inr (.inr 5)))
 (some (.inl (i64 (d+1)))))
 (some (.inr (.inl ())))) 0).bind (Sum.elim (λ (_:Unit) =>
 (idx x0.ay b).bind λ p =>
 (eC p.hH 1 30).bind λ s =>
 ab (!s)
 (some (.inr (.inr 1)))
 (some (.inl (i64 (b+1)))))
  (λ q=>some (.inr (.inr q))))))
 (some (.inr (.inl ())))) 0).bind (Sum.elim (λ (_:Unit) =>
 some 0)
  (λ q=>some q))))
  (λ q=>some q)))
def qt(x0:an)(x1:Int):a5 :=
 (eC x1 0 (i64 ((x0.aJ.length:Int) - 1))).bind λ b =>
 some b
def oG(x0:an):b5 :=
 (sG x0).bind λ f =>
 ab (f != 0)
 (some f)
 ((sH x0).bind λ g =>
 ab (g != 0)
 (some g)
 ((eC (x0.az.length:Int) 1 4).bind λ i =>
 ab (!i)
 (some 2)
 ((bb (O:=(Unit ⊕ Int)) (λ (d:Int) =>
 ab (decide (d < (x0.az.length:Int)))
 ((idx x0.az d).bind λ c =>
 (qt x0 c.Place).bind λ j =>
 ab (!j)
 (some (.inr (.inr 6)))
 ((eC c.fH 0 200).bind λ k =>
 ab (!k)
 (some (.inr (.inr 1)))
 ((eC c.eN 1 60).bind λ m =>
 ab (!m)
 (some (.inr (.inr 1)))
 ((eC c.ay 1 3).bind λ n =>
 ab (!n)
 (some (.inr (.inr 1)))
 (some (.inl (i64 (d+1))))))))
 (some (.inr (.inl ())))) 0).bind (Sum.elim (λ (_:Unit) =>
 ab (decide ((x0.a0.length:Int) > 3))
 (some 2)
 ((bb (O:=(Unit ⊕ Int)) (λ (b:Int) =>
 ab (decide (b < (x0.a0.length:Int)))
 ((idx x0.a0 b).bind λ o =>
 (qt x0 o.Place).bind λ p =>
 ab (!p)
 (some (.inr (.inr 6)))
 ((idx x0.a0 b).bind λ s =>
 (eC s.g3 0 30).bind λ w =>
 ab (!w)
 (some (.inr (.inr 1)))
 (some (.inl (i64 (b+1))))))
 (some (.inr (.inl ())))) 0).bind (Sum.elim (λ (_:Unit) =>
 some 0)
  (λ q=>some q))))
  (λ q=>some q)))))
def m4(x0:an):a5 :=
 (r9 x0).bind λ b =>
 ab (!b)
 ((oG x0).bind λ c =>
 some (c == 0))
 (some false)
def u3(x0:bC):a5 :=
 ab (decide ((x0.a9.length:Int) > 20))
 (some true)
 (some (decide ((x0.bz.length:Int) > 20)))
def qu(x0:fG):a5 :=
 (eC x0.bR (-20) 20).bind λ b =>
 ab b
 ((eC x0.bS (-20) 20).bind λ c =>
 some c)
 (some false)
def qw(x0:bC)(x1:Int):a5 :=
 (eC x1 0 (i64 ((x0.a9.length:Int) - 1))).bind λ b =>
 some b
def u4(x0:bC):b5 :=
 ((((eC x0.bK 2 7).bind λ j =>
 ab (!j)
 (some true)
 ((eC x0.bV 2 7).bind λ k =>
 ab (!k)
 (some true)
 ((eC x0.b8 0 2).bind λ m =>
 some (!m)))):a5)).bind (λ (g:Bool) =>
 ab g
 (some 1)
 ((eC (x0.a9.length:Int) 1 3).bind λ n =>
 ab (!n)
 (some 2)
 ((bb (O:=(Unit ⊕ Int)) (λ (b:Int) =>
 ab (decide (b < (x0.a9.length:Int)))
 ((idx x0.a9 b).bind λ d =>
 (l5 d (-3) 3).bind λ o =>
 ab (!o)
 (some (.inr (.inr 1)))
 (ab (decide (i64 (d.bh - d.aZ) ≥ 3))
 (some (.inr (.inr 1)))
 (some (.inl (i64 (b+1))))))
 (some (.inr (.inl ())))) 0).bind (Sum.elim (λ (_:Unit) =>
 ab (decide ((x0.bz.length:Int) > 5))
 (some 2)
 ((bb (O:=(Unit ⊕ Int)) (λ (c:Int) =>
 ab (decide (c < (x0.bz.length:Int)))
 ((idx x0.bz c).bind λ f =>
 ((((qu f.U).bind λ p =>
 ab (!p)
 (some true)
 ((eC f.hG 0 7).bind λ s =>
 some (!s))):a5)).bind (λ (i:Bool) =>
 ab i
 (some (.inr (.inr 1)))
 ((qw x0 f.fK).bind λ w =>
 ab (!w)
 (some (.inr (.inr 6)))
 (some (.inl (i64 (c+1)))))))
 (some (.inr (.inl ())))) 0).bind (Sum.elim (λ (_:Unit) =>
 some 0)
  (λ q=>some q))))
  (λ q=>some q)))))
def m5(x0:bC):a5 :=
 (u3 x0).bind λ b =>
 ab (!b)
 ((u4 x0).bind λ c =>
 some (c == 0))
 (some false)
def kB(x0:Int)(x1:Int):Option Reach :=
 some (⟨x0,x1⟩:Reach)
def qx(x0:Int):Option Reach :=
 some (⟨x0,x0⟩:Reach)
def si  : Option an :=
 (kB 9 11).bind λ b =>
 (qx 15).bind λ c =>
 some (⟨10,[(⟨10,40⟩:dJ),(⟨20,20⟩:dJ)],[b,c],[(⟨⟨#[97,110,110]⟩,20⟩:dk),(⟨⟨#[98,111]⟩,12⟩:dk)],[(⟨0,0,20,2⟩:gD),(⟨1,30,15,1⟩:gD),(⟨0,60,30,1⟩:gD)],[]⟩:an)
def oL(x0:an)(x1:c5):Option an :=
 (dO [] x0.a0).bind λ b =>
 (dO b [x1]).bind λ c =>
 some (⟨x0.Rest,x0.Rows,x0.aJ,x0.ay,x0.az,c⟩:an)
def qg(x0:an):b5 :=
 (fC x0.Rest 0 60).bind λ b =>
 ab (!b)
 (some 1)
 (some 0)
def oP(x0:an):b5 :=
 (fC (x0.Rows.length:Int) 1 4).bind λ k =>
 ab (!k)
 (some 2)
 ((bb (O:=(Unit ⊕ Int)) (λ (b:Int) =>
 ab (decide (b < (x0.Rows.length:Int)))
 ((idx x0.Rows b).bind λ c =>
 (fC c.db 1 30).bind λ d =>
 (((ab (!d)
 (some (!d))
 ((fC c.dr 1 60).bind λ g =>
 some (!g))):a5)).bind (λ (f:Bool) =>
 ab f
 (some (.inr (.inr 1)))
 (ab (decide (b > 0))
 ((idx x0.Rows (i64 (b - 1))).bind λ i =>
 ab (decide (c.db≤i.db))
 (some (.inr (.inr 7)))
 ((idx x0.Rows (i64 (b - 1))).bind λ j =>
 ab (decide (c.dr > j.dr))
 (some (.inr (.inr 7)))
 (some (.inl (i64 (b+1))))))
 (some (.inl (i64 (b+1)))))))
 (some (.inr (.inl ())))) 0).bind (Sum.elim (λ (_:Unit) =>
 some 0)
  (λ q=>some q)))
def sD(x0:(List Reach))(x1:(Reach→a5)):b5 :=
 (bb (O:=(Unit ⊕ Int)) (λ (b:Int) =>
 ab (decide (b < (x0.length:Int)))
 ((idx x0 b).bind λ c =>
 (x1 c).bind λ d =>
 ab d
 (some (.inr (.inr b)))
 (some (.inl (i64 (b+1)))))
 (some (.inr (.inl ())))) 0).bind (Sum.elim (λ (_:Unit) =>
 some (-1))
  (λ q=>some q))
def qi(x0:(List Reach))(x1:(Reach→a5)):a5 :=
 (sD x0 x1).bind λ b =>
 some (decide (b ≥ 0))
def oX(x0:Reach)(x1:Int)(x2:Int)(x3:Int):a5 :=
 ab (decide (x1≤x0.aZ))
 (ab (decide (x0.aZ≤x0.bh))
 (ab (decide (x0.bh≤x2))
 (some (decide (i64 (x0.bh - x0.aZ) < x3)))
 (some false))
 (some false))
 (some false)
def oV(x0:Reach):a5 :=
 (oX x0 1 30 3).bind λ b =>
 some (!b)
def oQ(x0:an):b5 :=
 (fC (x0.aJ.length:Int) 1 3).bind λ b =>
 ab (!b)
 (some 2)
 ((qi x0.aJ (λ y=>oV y)).bind λ c =>
 ab c
 (some 1)
 (some 0))
def sE(x0:(List dk))(x1:(dk→a5)):b5 :=
 (bb (O:=(Unit ⊕ Int)) (λ (b:Int) =>
 ab (decide (b < (x0.length:Int)))
 ((idx x0 b).bind λ c =>
 (x1 c).bind λ d =>
 ab d
 (some (.inr (.inr b)))
 (some (.inl (i64 (b+1)))))
 (some (.inr (.inl ())))) 0).bind (Sum.elim (λ (_:Unit) =>
 some (-1))
  (λ q=>some q))
def qj(x0:(List dk))(x1:(dk→a5)):a5 :=
 (sE x0 x1).bind λ b =>
 some (decide (b ≥ 0))
def oY(x0:dk)(x1:dk):a5 :=
 some (x0.Name.toList == x1.Name.toList)
def oR(x0:an):b5 :=
 (fC (x0.ay.length:Int) 1 4).bind λ g =>
 ab (!g)
 (some 2)
 ((bb (O:=(Unit ⊕ Int)) (λ (b:Int) =>
 ab (decide (b < (x0.ay.length:Int)))
 ((idx x0.ay b).bind λ c =>
 (sC c.Name).bind λ i =>
 ab (!i)
 (some (.inr (.inr 4)))
 ((fP x0.ay 0 b).bind λ j =>
 (qj j (λ y=>oY y c)).bind λ d =>
 ab d
 (some (.inr (.inr 5)))
 ((fC c.hH 1 30).bind λ f =>
 ab (!f)
 (some (.inr (.inr 1)))
 (some (.inl (i64 (b+1)))))))
 (some (.inr (.inl ())))) 0).bind (Sum.elim (λ (_:Unit) =>
 some 0)
  (λ q=>some q)))
def m64(x0:Int)(x1:Int):b5 :=
 (fC x0 0 (i64 (x1 - 1))).bind λ b =>
 ab (!b)
 (some 6)
 (some 0)
def oT(x0:an):b5 :=
 (fC (x0.az.length:Int) 1 4).bind λ j =>
 ab (!j)
 (some 2)
 ((bb (O:=(Unit ⊕ Int)) (λ (c:Int) =>
 ab (decide (c < (x0.az.length:Int)))
 ((idx x0.az c).bind λ b =>
 (m64 b.Place (x0.aJ.length:Int)).bind λ d =>
 ab (d != 0)
 (some (.inr (.inr d)))
 ((fC b.fH 0 200).bind λ f =>
 ab (!f)
 (some (.inr (.inr 1)))
 ((fC b.eN 1 60).bind λ g =>
 ab (!g)
 (some (.inr (.inr 1)))
 ((fC b.ay 1 3).bind λ i =>
 ab (!i)
 (some (.inr (.inr 1)))
 (some (.inl (i64 (c+1))))))))
 (some (.inr (.inl ())))) 0).bind (Sum.elim (λ (_:Unit) =>
 some 0)
  (λ q=>some q)))
def oU(x0:an):b5 :=
 ab (decide ((x0.a0.length:Int) > 3))
 (some 2)
 ((bb (O:=(Unit ⊕ Int)) (λ (b:Int) =>
 ab (decide (b < (x0.a0.length:Int)))
 ((idx x0.a0 b).bind λ c =>
 (m64 c.Place (x0.aJ.length:Int)).bind λ d =>
 ab (d != 0)
 (some (.inr (.inr d)))
 ((fC c.g3 0 30).bind λ f =>
 ab (!f)
 (some (.inr (.inr 1)))
 (some (.inl (i64 (b+1))))))
 (some (.inr (.inl ())))) 0).bind (Sum.elim (λ (_:Unit) =>
 some 0)
  (λ q=>some q)))
def iG(x0:an):b5 :=
 (qg (⟨x0.Rest,x0.Rows,x0.aJ,x0.ay,x0.az,x0.a0⟩:an)).bind λ b =>
 ab (b != 0)
 (some b)
 ((oP (⟨x0.Rest,x0.Rows,x0.aJ,x0.ay,x0.az,x0.a0⟩:an)).bind λ c =>
 ab (c != 0)
 (some c)
 ((oQ (⟨x0.Rest,x0.Rows,x0.aJ,x0.ay,x0.az,x0.a0⟩:an)).bind λ d =>
 ab (d != 0)
 (some d)
 ((oR (⟨x0.Rest,x0.Rows,x0.aJ,x0.ay,x0.az,x0.a0⟩:an)).bind λ f =>
 ab (f != 0)
 (some f)
 ((oT (⟨x0.Rest,x0.Rows,x0.aJ,x0.ay,x0.az,x0.a0⟩:an)).bind λ g =>
 ab (g != 0)
 (some g)
 ((oU (⟨x0.Rest,x0.Rows,x0.aJ,x0.ay,x0.az,x0.a0⟩:an)).bind λ i =>
 ab (i != 0)
 (some i)
 (some 0))))))
def oM(x0:an)(x1:Int):Option (Int × Int) :=
 (iG x0).bind λ b =>
 ab (b != 0)
 (some (0,b))
 ((fC x1 1 30).bind λ c =>
 ab (!c)
 (some (0,1))
 ((lA (⟨x0.Rest,x0.Rows,x0.aJ,x0.ay,x0.az,x0.a0⟩:an) x1).bind λ d =>
 some (d,0)))
def pX (x1:(bc→((List bc) ⊕ Empty)→Option (((List bc) ⊕ Empty) × Bool))→((List bc) ⊕ Empty)→Option ((List bc) ⊕ Empty)):Option (List bc) :=
 (x1 (dM (λ (c:bc) (b:(List bc))=>(((dO b [c]).bind λ d =>
 some (.inl d)):Option ((List bc) ⊕ Empty)))) (.inl [])).bind (Sum.elim (λ (b:(List bc)) =>
 some b)
  (λ (o:Empty)=>o.elim))
def l6 (x0:(bc→((List bc) ⊕ Empty)→Option (((List bc) ⊕ Empty) × Bool))→((List bc) ⊕ Empty)→Option ((List bc) ⊕ Empty)):Option (List bc) :=
 (pX x0).bind λ b =>
 some b
def sw(x0:(List c5))(x1:(c5→a5)):b5 :=
 (bb (O:=(Unit ⊕ Int)) (λ (b:Int) =>
 ab (decide (b < (x0.length:Int)))
 ((idx x0 b).bind λ c =>
 (x1 c).bind λ d =>
 ab d
 (some (.inr (.inr b)))
 (some (.inl (i64 (b+1)))))
 (some (.inr (.inl ())))) 0).bind (Sum.elim (λ (_:Unit) =>
 some (-1))
  (λ q=>some q))
def qd(x0:(List c5))(x1:(c5→a5)):a5 :=
 (sw x0 x1).bind λ b =>
 some (decide (b ≥ 0))
def oK(x0:c5)(x1:bc):a5 :=
 (idx x1.deep x0.Place).bind λ b =>
 some (!((decide (b≤x0.g3)) == x0.mL))
def ng(x0:an)(x1:bc):a5 :=
 (qd x0.a0 (λ y=>oK y x1)).bind λ b =>
 some (!b)
def jd{S:Type}(ys:bc→S→Option (S × Bool)):Nat→Int→an→bc→S→Option (S × (bc × Bool))
 | 0,_,_,_,_=>none
 | k+1,x0,x1,x2,s0 =>
  ab (x0 == (x1.aJ.length:Int))
  (((((ng x1 x2).bind λ i =>
  ab (!i)
  (some (s0,true))
  ((ys x2 s0).bind λ g =>
  some (g.1,g.2))):Option (S × Bool))).bind (λ (d:(S × Bool)) =>
  some (d.1,(x2,d.2))))
  ((idx x1.aJ x0).bind λ j =>
  (bb (O:=((S × ah) ⊕ (S × (bc × Bool)))) (λ (b:(S × Int × ah)) =>
  (idx x1.aJ x0).bind λ m =>
  ab (decide (b.2.1≤m.bh))
  ((idx b.2.2 x0).bind λ _ =>
  (jd ys k (i64 (x0+1)) x1 (⟨b.2.2.set x0.toNat b.2.1⟩:bc) b.1).bind λ c =>
  ab (!c.2.2)
  (some (.inr (.inr (c.1,(c.2.1,false)))))
  (some (.inl (c.1,i64 (b.2.1+1),c.2.1.deep))))
  (some (.inr (.inl (b.1,b.2.2))))) (s0,j.aZ,x2.deep)).bind (Sum.elim (λ (f:(S × ah)) =>
  some (f.1,((⟨f.2⟩:bc),true)))
   (λ q=>some q)))
def hR{S:Type}(ys:bc→S→Option (S × Bool))(x0:an)(s0:S):Option S :=
 (jd ys 9 0 x0 (⟨[0,0,0]⟩:bc) s0).bind λ b =>
  some b.1
def lq(x0:an):Option (Int × Int) :=
 (iG x0).bind λ b =>
 ab (b != 0)
 (some (0,b))
 ((l6 (λ y s=>hR y (⟨x0.Rest,x0.Rows,x0.aJ,x0.ay,x0.az,x0.a0⟩:an) s)).bind λ c =>
 some ((c.length:Int),0))
def hS(x0:an)(x1:(an→b5)):Option (bU × Int) :=
 (iG x0).bind λ b =>
 ab (b != 0)
 (some ((⟨⟨0,[],[],[],[],[]⟩,[]⟩:bU),b))
 ((x1 x0).bind λ c =>
 ab (c != 0)
 (some ((⟨⟨0,[],[],[],[],[]⟩,[]⟩:bU),c))
 ((l6 (λ y s=>hR y x0 s)).bind λ d =>
 ab ((d.length:Int) == 0)
 (some ((⟨⟨0,[],[],[],[],[]⟩,[]⟩:bU),9))
 (some ((⟨⟨x0.Rest,x0.Rows,x0.aJ,x0.ay,x0.az,x0.a0⟩,d⟩:bU),0))))
def iC(x0:an)(x1:Int):b5 :=
 (m64 x1 (x0.aJ.length:Int)).bind λ b =>
 some b
def o2(x0:Int):b5 :=
 some x0
def lZ(x0:Int):a5 :=
 some (x0 != x0)
def eh(x0:Int)(x1:Int):a5 :=
 (lZ x0).bind λ b =>
 ab b
 ((lZ x1).bind λ c =>
 ab (!c)
 (some true)
 (some (decide (x0 < x1))))
 (some (decide (x0 < x1)))
def nh(x0:ah)(x1:Int)(x2:Int):Option ah :=
 (bb (O:=ah) (λ (c:(ah × Int)) =>
 ab (decide (c.2 < x2))
 ((bb (O:=ah) (λ (b:(ah × Int)) =>
 (((ab (decide (b.2 > x1))
 ((idx b.1 b.2).bind λ j =>
 (idx b.1 (i64 (b.2 - 1))).bind λ k =>
 (eh j k).bind λ m =>
 some m)
 (some false)):a5)).bind (λ (i:Bool) =>
 ab i
 ((idx b.1 (i64 (b.2 - 1))).bind λ d =>
 (idx b.1 b.2).bind λ n =>
 (idx b.1 b.2).bind λ _ =>
 (idx (b.1.set b.2.toNat d) (i64 (b.2 - 1))).bind λ _ =>
 some (.inl ((b.1.set b.2.toNat d).set (i64 (b.2 - 1)).toNat n,i64 (b.2 - 1))))
 (some (.inr b.1)))) (c.1,c.2)).bind (λ (g:ah) =>
 some (.inl (g,i64 (c.2+1)))))
 (some (.inr c.1))) (x0,i64 (x1+1))).bind (λ (f:ah) =>
 some f)
def np(x0:ah)(x1:Int)(x2:Int)(x3:Int):Option ah :=
 (bb (O:=(ah ⊕ ah)) (λ (b:(ah × Int)) =>
 ab (decide (i64 ((i64 (2 * b.2))+1) ≥ x2))
 (some (.inr (.inl b.1)))
 ((((ab (decide (i64 ((i64 ((i64 (2 * b.2))+1))+1) < x2))
 ((idx b.1 (i64 (x3+(i64 ((i64 (2 * b.2))+1))))).bind λ i =>
 (idx b.1 (i64 ((i64 (x3+(i64 ((i64 (2 * b.2))+1))))+1))).bind λ j =>
 (eh i j).bind λ k =>
 some k)
 (some false)):a5)).bind (λ (g:Bool) =>
 (((ab g
 (some (i64 ((i64 ((i64 (2 * b.2))+1))+1)))
 (some (i64 ((i64 (2 * b.2))+1)))):b5)).bind (λ (c:Int) =>
 (idx b.1 (i64 (x3+b.2))).bind λ m =>
 (idx b.1 (i64 (x3+c))).bind λ n =>
 (eh m n).bind λ o =>
 ab (!o)
 (some (.inr (.inr b.1)))
 ((idx b.1 (i64 (x3+c))).bind λ d =>
 (idx b.1 (i64 (x3+b.2))).bind λ p =>
 (idx b.1 (i64 (x3+b.2))).bind λ _ =>
 (idx (b.1.set (i64 (x3+b.2)).toNat d) (i64 (x3+c))).bind λ _ =>
 some (.inl ((b.1.set (i64 (x3+b.2)).toNat d).set (i64 (x3+c)).toNat p,c))))))) (x0,x1)).bind (Sum.elim (λ (f:ah) =>
 some f)
  (λ q=>some q))
def ni(x0:ah)(x1:Int)(x2:Int):Option ah :=
 (gp (i64 ((i64 (x2 - x1)) - 1)) 2).bind λ k =>
 (bb (O:=ah) (λ (c:(ah × Int)) =>
 ab (decide (c.2 ≥ 0))
 ((np c.1 c.2 (i64 (x2 - x1)) x1).bind λ m =>
 some (.inl (m,i64 (c.2 - 1))))
 (some (.inr c.1))) (x0,k)).bind (λ (f:ah) =>
 (bb (O:=ah) (λ (b:(ah × Int)) =>
 ab (decide (b.2 ≥ 0))
 ((idx b.1 (i64 (x1+b.2))).bind λ d =>
 (idx b.1 x1).bind λ i =>
 (idx b.1 x1).bind λ _ =>
 (idx (b.1.set x1.toNat d) (i64 (x1+b.2))).bind λ _ =>
 (np ((b.1.set x1.toNat d).set (i64 (x1+b.2)).toNat i) 0 b.2 x1).bind λ j =>
 some (.inl (j,i64 (b.2 - 1))))
 (some (.inr b.1))) (f,i64 ((i64 (x2 - x1)) - 1))).bind (λ (g:ah) =>
 some g))
def qb(x0:Int):b5 :=
 (((ab (decide (x0 ≥ 4294967296))
 ((eR .u64 x0 32).bind λ f =>
 some (f,32))
 (some (x0,0))):Option (Int × Int))).bind (λ (b:(Int × Int)) =>
 (((ab (decide (b.1 ≥ 65536))
 ((eR .u64 b.1 16).bind λ g =>
 some (g,i64 (b.2+16)))
 (some (b.1,b.2))):Option (Int × Int))).bind (λ (c:(Int × Int)) =>
 (((ab (decide (c.1 ≥ 256))
 ((eR .u64 c.1 8).bind λ i =>
 some (i,i64 (c.2+8)))
 (some (c.1,c.2))):Option (Int × Int))).bind (λ (d:(Int × Int)) =>
 (kR (⟨#[0,1,2,2,3,3,3,3,4,4,4,4,4,4,4,4,5,5,5,5,5,5,5,5,5,5,5,5,5,5,5,5,6,6,6,6,6,6,6,6,6,6,6,6,6,6,6,6,6,6,6,6,6,6,6,6,6,6,6,6,6,6,6,6,7,7,7,7,7,7,7,7,7,7,7,7,7,7,7,7,7,7,7,7,7,7,7,7,7,7,7,7,7,7,7,7,7,7,7,7,7,7,7,7,7,7,7,7,7,7,7,7,7,7,7,7,7,7,7,7,7,7,7,7,7,7,7,7,8,8,8,8,8,8,8,8,8,8,8,8,8,8,8,8,8,8,8,8,8,8,8,8,8,8,8,8,8,8,8,8,8,8,8,8,8,8,8,8,8,8,8,8,8,8,8,8,8,8,8,8,8,8,8,8,8,8,8,8,8,8,8,8,8,8,8,8,8,8,8,8,8,8,8,8,8,8,8,8,8,8,8,8,8,8,8,8,8,8,8,8,8,8,8,8,8,8,8,8,8,8,8,8,8,8,8,8,8,8,8,8,8,8,8,8,8,8,8,8,8,8,8,8,8,8,8,8]⟩) (IntKind.wrap .u8 d.1)).bind λ j =>
 some (i64 (d.2+(i64 j))))))
def ky(x0:Int):b5 :=
 (qb x0).bind λ b =>
 some b
def lp(x0:Int):b5 :=
 (ky (IntKind.wrap .u64 x0)).bind λ b =>
 (gX .u64 1 b).bind λ c =>
 some c
def oN(x0:Int):Option (Int × Int) :=
 (gX .u64 x0 13).bind λ f =>
 (cC .xor .u64 x0 f).bind λ b =>
 (eR .u64 b 7).bind λ g =>
 (cC .xor .u64 b g).bind λ c =>
 (gX .u64 c 17).bind λ i =>
 (cC .xor .u64 c i).bind λ d =>
 some (d,d)
def lX(x0:ah)(x1:Int)(x2:Int):Option ah :=
 ab (decide (i64 (x2 - x1) ≥ 8))
 ((lp (i64 (x2 - x1))).bind λ m =>
 (gp (i64 (x2 - x1)) 4).bind λ n =>
 (bb (O:=ah) (λ (b:(ah × Int × Int)) =>
 (gp (i64 (x2 - x1)) 4).bind λ j =>
 ab (decide (b.2.1≤i64 ((i64 (x1+(i64 (j * 2))))+1)))
 ((oN b.2.2).bind λ f =>
 (cC .and .u64 f.2 (IntKind.wrap .u64 (m - 1))).bind λ d =>
 (((ab (decide (i64 d ≥ i64 (x2 - x1)))
 (some (i64 ((i64 d) - (i64 (x2 - x1)))))
 (some (i64 d))):b5)).bind (λ (c:Int) =>
 (idx b.1 (i64 (x1+c))).bind λ g =>
 (idx b.1 b.2.1).bind λ k =>
 (idx b.1 b.2.1).bind λ _ =>
 (idx (b.1.set b.2.1.toNat g) (i64 (x1+c))).bind λ _ =>
 some (.inl ((b.1.set b.2.1.toNat g).set (i64 (x1+c)).toNat k,i64 (b.2.1+1),f.1))))
 (some (.inr b.1))) (x0,i64 ((i64 (x1+(i64 (n * 2)))) - 1),IntKind.wrap .u64 (i64 (x2 - x1)))).bind (λ (i:ah) =>
 some i))
 (some x0)
def jK(x0:ah)(x1:Int)(x2:Int)(x3:Int):Option (Int × Int × Int) :=
 (idx x0 x2).bind λ b =>
 (idx x0 x1).bind λ c =>
 (eh b c).bind λ d =>
 ab d
 (some (i64 (x3+1),x2,x1))
 (some (x3,x1,x2))
def kz(x0:ah)(x1:Int)(x2:Int)(x3:Int)(x4:Int):Option (Int × Int) :=
 (jK x0 x1 x2 x4).bind λ b =>
 (jK x0 b.2.2 x3 b.1).bind λ c =>
 (jK x0 b.2.1 c.2.1 c.1).bind λ d =>
 some (d.1,d.2.2)
def jJ(x0:ah)(x1:Int)(x2:Int):Option (Int × Int) :=
 (kz x0 (i64 (x1 - 1)) x1 (i64 (x1+1)) x2).bind λ b =>
 some (b.1,b.2)
def nj(x0:ah)(x1:Int)(x2:Int):Option (Int × Int) :=
 (gp (i64 (x2 - x1)) 4).bind λ d =>
 (gp (i64 (x2 - x1)) 4).bind λ c =>
 (gp (i64 (x2 - x1)) 4).bind λ f =>
 (((ab (decide (i64 (x2 - x1) ≥ 8))
 (ab (decide (i64 (x2 - x1) ≥ 50))
 ((jJ x0 (i64 (x1+(i64 (d * 1)))) 0).bind λ g =>
 (jJ x0 (i64 (x1+(i64 (c * 2)))) g.1).bind λ i =>
 (jJ x0 (i64 (x1+(i64 (f * 3)))) i.1).bind λ j =>
 (kz x0 g.2 i.2 j.2 j.1).bind λ k =>
 some (k.2,k.1))
 ((kz x0 (i64 (x1+(i64 (d * 1)))) (i64 (x1+(i64 (c * 2)))) (i64 (x1+(i64 (f * 3)))) 0).bind λ m =>
 some (m.2,m.1)))
 (some (i64 (x1+(i64 (c * 2))),0))):Option (Int × Int))).bind (λ (b:(Int × Int)) =>
 ab (b.2 == 0)
 (some (b.1,1))
 (ab (b.2 == 12)
 (some (b.1,2))
 (some (b.1,0))))
def lY(x0:ah)(x1:Int)(x2:Int):Option ah :=
 (bb (O:=ah) (λ (b:(ah × Int × Int)) =>
 ab (decide (b.2.1 < b.2.2))
 ((idx b.1 b.2.2).bind λ c =>
 (idx b.1 b.2.1).bind λ f =>
 (idx b.1 b.2.1).bind λ _ =>
 (idx (b.1.set b.2.1.toNat c) b.2.2).bind λ _ =>
 some (.inl ((b.1.set b.2.1.toNat c).set b.2.2.toNat f,i64 (b.2.1+1),i64 (b.2.2 - 1))))
 (some (.inr b.1))) (x0,x1,i64 (x2 - 1))).bind (λ (d:ah) =>
 some d)
def ln(x0:ah)(x1:Int)(x2:Int):Option (ah × Bool) :=
 (bb (O:=(ah ⊕ (ah × Bool))) (λ (f:(ah × Int × Int)) =>
 ab (decide (f.2.2 < 5))
 ((bb (O:=Int) (λ (g:Int) =>
 ab (decide (g < x2))
 ((idx f.1 g).bind λ F =>
 (idx f.1 (i64 (g - 1))).bind λ G =>
 (eh F G).bind λ H =>
 ab (!H)
 (some (.inl (i64 (g+1))))
 (some (.inr g)))
 (some (.inr g))) f.2.1).bind (λ (d:Int) =>
 ab (d == x2)
 (some (.inr (.inr (f.1,true))))
 (ab (decide (i64 (x2 - x1) < 50))
 (some (.inr (.inr (f.1,false))))
 ((idx f.1 (i64 (d - 1))).bind λ i =>
 (idx f.1 d).bind λ n =>
 (idx f.1 d).bind λ _ =>
 (idx (f.1.set d.toNat i) (i64 (d - 1))).bind λ _ =>
 (((ab (decide (i64 (d - x1) ≥ 2))
 ((bb (O:=ah) (λ (c:(ah × Int)) =>
 ab (decide (c.2 ≥ 1))
 ((idx c.1 c.2).bind λ w =>
 (idx c.1 (i64 (c.2 - 1))).bind λ y =>
 (eh w y).bind λ z =>
 ab (!z)
 (some (.inr c.1))
 ((idx c.1 (i64 (c.2 - 1))).bind λ k =>
 (idx c.1 c.2).bind λ A =>
 (idx c.1 c.2).bind λ _ =>
 (idx (c.1.set c.2.toNat k) (i64 (c.2 - 1))).bind λ _ =>
 some (.inl ((c.1.set c.2.toNat k).set (i64 (c.2 - 1)).toNat A,i64 (c.2 - 1)))))
 (some (.inr c.1))) ((f.1.set d.toNat i).set (i64 (d - 1)).toNat n,i64 (d - 1))).bind (λ (s:ah) =>
 some s))
 (some ((f.1.set d.toNat i).set (i64 (d - 1)).toNat n))):Option ah)).bind (λ (j:ah) =>
 ab (decide (i64 (x2 - d) ≥ 2))
 ((bb (O:=ah) (λ (b:(ah × Int)) =>
 ab (decide (b.2 < x2))
 ((idx b.1 b.2).bind λ B =>
 (idx b.1 (i64 (b.2 - 1))).bind λ C =>
 (eh B C).bind λ D =>
 ab (!D)
 (some (.inr b.1))
 ((idx b.1 (i64 (b.2 - 1))).bind λ m =>
 (idx b.1 b.2).bind λ E =>
 (idx b.1 b.2).bind λ _ =>
 (idx (b.1.set b.2.toNat m) (i64 (b.2 - 1))).bind λ _ =>
 some (.inl ((b.1.set b.2.toNat m).set (i64 (b.2 - 1)).toNat E,i64 (b.2+1)))))
 (some (.inr b.1))) (j,i64 (d+1))).bind (λ (o:ah) =>
 some (.inl (o,d,i64 (f.2.2+1)))))
 (some (.inl (j,d,i64 (f.2.2+1)))))))))
 (some (.inr (.inl f.1)))) (x0,i64 (x1+1),0)).bind (Sum.elim (λ (p:ah) =>
 some (p,false))
  (λ q=>some q))
def nk(x0:ah)(x1:Int)(x2:Int)(x3:Int):Option (ah × Int) :=
 (idx x0 x3).bind λ j =>
 (idx x0 x1).bind λ m =>
 (idx x0 x1).bind λ _ =>
 (idx (x0.set x1.toNat j) x3).bind λ _ =>
 (bb (O:=(ah × Int)) (λ (b:(ah × Int × Int)) =>
 (bb (O:=Int) (λ (f:Int) =>
 ab (decide (f≤b.2.2))
 ((idx b.1 x1).bind λ n =>
 (idx b.1 f).bind λ o =>
 (eh n o).bind λ p =>
 ab (!p)
 (some (.inl (i64 (f+1))))
 (some (.inr f)))
 (some (.inr f))) b.2.1).bind (λ (c:Int) =>
 (bb (O:=Int) (λ (g:Int) =>
 ab (decide (c≤g))
 ((idx b.1 x1).bind λ s =>
 (idx b.1 g).bind λ w =>
 (eh s w).bind λ y =>
 ab y
 (some (.inl (i64 (g - 1))))
 (some (.inr g)))
 (some (.inr g))) b.2.2).bind (λ (d:Int) =>
 ab (decide (c > d))
 (some (.inr (b.1,c)))
 ((idx b.1 d).bind λ k =>
 (idx b.1 c).bind λ z =>
 (idx b.1 c).bind λ _ =>
 (idx (b.1.set c.toNat k) d).bind λ _ =>
 some (.inl ((b.1.set c.toNat k).set d.toNat z,i64 (c+1),i64 (d - 1))))))) ((x0.set x1.toNat j).set x3.toNat m,i64 (x1+1),i64 (x2 - 1))).bind (λ (i:(ah × Int)) =>
 some (i.1,i.2))
def nm(x0:ah)(x1:Int)(x2:Int)(x3:Int):Option (ah × Int × Bool) :=
 (idx x0 x3).bind λ b =>
 (idx x0 x1).bind λ c =>
 (idx x0 x1).bind λ _ =>
 (idx (x0.set x1.toNat b) x3).bind λ _ =>
 (bb (O:=Int) (λ (m:Int) =>
 ab (decide (m≤i64 (x2 - 1)))
 ((idx ((x0.set x1.toNat b).set x3.toNat c) m).bind λ A =>
 (idx ((x0.set x1.toNat b).set x3.toNat c) x1).bind λ B =>
 (eh A B).bind λ C =>
 ab C
 (some (.inl (i64 (m+1))))
 (some (.inr m)))
 (some (.inr m))) (i64 (x1+1))).bind (λ (i:Int) =>
 (bb (O:=Int) (λ (n:Int) =>
 ab (decide (i≤n))
 ((idx ((x0.set x1.toNat b).set x3.toNat c) n).bind λ D =>
 (idx ((x0.set x1.toNat b).set x3.toNat c) x1).bind λ E =>
 (eh D E).bind λ F =>
 ab (!F)
 (some (.inl (i64 (n - 1))))
 (some (.inr n)))
 (some (.inr n))) (i64 (x2 - 1))).bind (λ (f:Int) =>
 ab (decide (i > f))
 ((idx ((x0.set x1.toNat b).set x3.toNat c) x1).bind λ s =>
 (idx ((x0.set x1.toNat b).set x3.toNat c) f).bind λ G =>
 (idx ((x0.set x1.toNat b).set x3.toNat c) f).bind λ _ =>
 (idx (((x0.set x1.toNat b).set x3.toNat c).set f.toNat s) x1).bind λ _ =>
 some ((((x0.set x1.toNat b).set x3.toNat c).set f.toNat s).set x1.toNat G,f,true))
 ((idx ((x0.set x1.toNat b).set x3.toNat c) f).bind λ w =>
 (idx ((x0.set x1.toNat b).set x3.toNat c) i).bind λ H =>
 (idx ((x0.set x1.toNat b).set x3.toNat c) i).bind λ _ =>
 (idx (((x0.set x1.toNat b).set x3.toNat c).set i.toNat w) f).bind λ _ =>
 (bb (O:=(ah × Int)) (λ (d:(ah × Int × Int)) =>
 (bb (O:=Int) (λ (o:Int) =>
 ab (decide (o≤d.2.2))
 ((idx d.1 o).bind λ I =>
 (idx d.1 x1).bind λ J =>
 (eh I J).bind λ K =>
 ab K
 (some (.inl (i64 (o+1))))
 (some (.inr o)))
 (some (.inr o))) d.2.1).bind (λ (j:Int) =>
 (bb (O:=Int) (λ (p:Int) =>
 ab (decide (j≤p))
 ((idx d.1 p).bind λ L =>
 (idx d.1 x1).bind λ M =>
 (eh L M).bind λ N =>
 ab (!N)
 (some (.inl (i64 (p - 1))))
 (some (.inr p)))
 (some (.inr p))) d.2.2).bind (λ (k:Int) =>
 ab (decide (j > k))
 (some (.inr (d.1,k)))
 ((idx d.1 k).bind λ y =>
 (idx d.1 j).bind λ P =>
 (idx d.1 j).bind λ _ =>
 (idx (d.1.set j.toNat y) k).bind λ _ =>
 some (.inl ((d.1.set j.toNat y).set k.toNat P,i64 (j+1),i64 (k - 1))))))) ((((x0.set x1.toNat b).set x3.toNat c).set i.toNat w).set f.toNat H,i64 (i+1),i64 (f - 1))).bind (λ (g:(ah × Int)) =>
 (idx g.1 x1).bind λ z =>
 (idx g.1 g.2).bind λ Q =>
 (idx g.1 g.2).bind λ _ =>
 (idx (g.1.set g.2.toNat z) x1).bind λ _ =>
 some ((g.1.set g.2.toNat z).set x1.toNat Q,g.2,false)))))
def kx:Nat→ah→Int→Int→Int→Option ah
 | 0,_,_,_,_=>none
 | k+1,x0,x1,x2,x3 =>
  (bb (O:=ah) (λ (b:(ah × Int × Int × Int × Bool × Bool)) =>
  ab (decide (i64 (b.2.2.1 - b.2.1)≤12))
  ((nh b.1 b.2.1 b.2.2.1).bind λ s =>
  some (.inr s))
  (ab (b.2.2.2.1 == 0)
  ((ni b.1 b.2.1 b.2.2.1).bind λ w =>
  some (.inr w))
  ((((ab (!b.2.2.2.2.1)
  ((lX b.1 b.2.1 b.2.2.1).bind λ y =>
  some (y,i64 (b.2.2.2.1 - 1)))
  (some (b.1,b.2.2.2.1))):Option (ah × Int))).bind (λ (d:(ah × Int)) =>
  (nj d.1 b.2.1 b.2.2.1).bind λ i =>
  (((ab (i.2 == 2)
  ((lY d.1 b.2.1 b.2.2.1).bind λ z =>
  some (z,i64 ((i64 (b.2.2.1 - 1)) - (i64 (i.1 - b.2.1))),1))
  (some (d.1,i.1,i.2))):Option (ah × Int × Int))).bind (λ (f:(ah × Int × Int)) =>
  (((ab b.2.2.2.2.1
  (ab b.2.2.2.2.2
  (some (f.2.2 == 1))
  (some false))
  (some false)):a5)).bind (λ (o:Bool) =>
  (((ab o
  ((ln f.1 b.2.1 b.2.2.1).bind λ j =>
  ab j.2
  (some (.inr j.1))
  (some (.inl j.1)))
  (some (.inl f.1))):Option (ah ⊕ ah))).bind (Sum.elim (λ (g:ah) =>
  (((ab (decide (b.2.1 > 0))
  ((idx g (i64 (b.2.1 - 1))).bind λ A =>
  (idx g f.2.1).bind λ B =>
  (eh A B).bind λ C =>
  some (!C))
  (some false)):a5)).bind (λ (p:Bool) =>
  ab p
  ((nk g b.2.1 b.2.2.1 f.2.1).bind λ m =>
  some (.inl (m.1,m.2,b.2.2.1,d.2,b.2.2.2.2.1,b.2.2.2.2.2)))
  ((nm g b.2.1 b.2.2.1 f.2.1).bind λ c =>
  (gp (i64 (b.2.2.1 - b.2.1)) 8).bind λ n =>
  ab (decide (i64 (c.2.1 - b.2.1) < i64 (b.2.2.1 - c.2.1)))
  ((kx k c.1 b.2.1 c.2.1 d.2).bind λ D =>
  some (.inl (D,i64 (c.2.1+1),b.2.2.1,d.2,decide (i64 (c.2.1 - b.2.1) ≥ n),c.2.2)))
  ((kx k c.1 (i64 (c.2.1+1)) b.2.2.1 d.2).bind λ E =>
  some (.inl (E,b.2.1,c.2.1,d.2,decide (i64 (b.2.2.1 - c.2.1) ≥ n),c.2.2))))))
   (λ q=>some (.inr q))))))))) (x0,x1,x2,x3,true,true)).bind (λ q=>some q)
def l3(x0:ah):Option ah :=
 (ky (IntKind.wrap .u64 (x0.length:Int))).bind λ b =>
 (kx 16 x0 0 (x0.length:Int) b).bind λ c =>
 some c
def l4(x0:ah):Option ah :=
 ab (decide ((x0.length:Int) < 2))
 (some x0)
 ((bb (O:=(Unit ⊕ ah)) (λ (c:Int) =>
 ab (decide (c < (x0.length:Int)))
 ((idx x0 c).bind λ f =>
 (idx x0 (i64 (c - 1))).bind λ g =>
 ab (f == g)
 ((fP x0 c (x0.length:Int)).bind λ _ =>
 (bb (O:=(ah × Int)) (λ (b:(ah × Int × Int)) =>
 ab (decide (b.2.2 < ((b.1.drop c.toNat).length:Int)))
 ((idx (b.1.drop c.toNat) b.2.2).bind λ i =>
 (idx (b.1.drop c.toNat) (i64 (b.2.2 - 1))).bind λ j =>
 ab (i != j)
 ((idx (b.1.drop c.toNat) b.2.2).bind λ k =>
 (idx b.1 b.2.1).bind λ _ =>
 some (.inl (b.1.set b.2.1.toNat k,i64 (b.2.1+1),i64 (b.2.2+1))))
 (some (.inl (b.1,b.2.1,i64 (b.2.2+1)))))
 (some (.inr (b.1,b.2.1)))) (x0,c,1)).bind (λ (d:(ah × Int)) =>
 (fP d.1 d.2 (d.1.length:Int)).bind λ _ =>
 (fP (iU d.1 d.2.toNat) 0 d.2).bind λ m =>
 some (.inr (.inr m))))
 (some (.inl (i64 (c+1)))))
 (some (.inr (.inl ())))) 1).bind (Sum.elim (λ (_:Unit) =>
 some x0)
  (λ q=>some q)))
def nq(x0:bU)(x1:(bc→b5)):Option ah :=
 (bb (O:=ah) (λ (b:(ah × Int)) =>
 ab (decide (b.2 < (x0.cY.length:Int)))
 ((idx x0.cY b.2).bind λ d =>
 (x1 d).bind λ f =>
 (dO b.1 [f]).bind λ g =>
 some (.inl (g,i64 (b.2+1))))
 (some (.inr b.1))) ([],0)).bind (λ (c:ah) =>
 (l3 c).bind λ i =>
 (l4 i).bind λ j =>
 some j)
def o3(x0:bc)(x1:Int):b5 :=
 (idx x0.deep x1).bind λ b =>
 some b
def lu(x0:an)(x1:Int):Option (ah × Int) :=
 (o2 x1).bind λ c =>
 (hS x0 (λ y=>iC y c)).bind λ b =>
 ab (b.2 != 0)
 (some ([],b.2))
 ((nq b.1 (λ y=>o3 y x1)).bind λ d =>
 some (d,0))
def qz(x0:bc)(x1:bU)(x2:Int):b5 :=
 (idx x0.deep x2).bind λ b =>
 (lA x1.book b).bind λ c =>
 some c
def qe(x0:an)(x1:Int):Option (Reach × Int) :=
 (o2 x1).bind λ d =>
 (hS x0 (λ y=>iC y d)).bind λ b =>
 ab (b.2 != 0)
 (some ((⟨0,0⟩:Reach),b.2))
 ((nq b.1 (λ y=>qz y b.1 x1)).bind λ c =>
 (idx c 0).bind λ f =>
 (idx c (i64 ((c.length:Int) - 1))).bind λ g =>
 some ((⟨f,g⟩:Reach),0))
def ns(x0:an)(x1:Int)(x2:Int):b5 :=
 (m64 x1 (x0.ay.length:Int)).bind λ b =>
 (m64 x2 (x0.az.length:Int)).bind λ c =>
 some (ei b [c])
def l7(x0:bU)(x1:Int):b5 :=
 ab (x1 == 0)
 (some 2)
 (ab (x1 == (x0.cY.length:Int))
 (some 1)
 (some 0))
def o4(x0:bc)(x1:bU)(x2:Int)(x3:Int):a5 :=
 (l8 x1.book x0 x2 x3).bind λ b =>
 some b
def jL(x0:an)(x1:Int)(x2:Int):Option (Int × Int) :=
 (hS x0 (λ y=>ns y x1 x2)).bind λ b =>
 ab (b.2 != 0)
 (some (0,b.2))
 ((kF b.1 (λ y=>o4 y b.1 x1 x2)).bind λ c =>
 (l7 b.1 c).bind λ d =>
 some (d,0))
def nu(x0:an)(x1:Int)(x2:Int):a5 :=
 (idx x0.az x1).bind λ b =>
 (idx x0.az x2).bind λ c =>
 ab (x1 != x2)
 (ab (decide (c.fH ≥ i64 ((i64 (b.fH+b.eN))+x0.Rest)))
 (some true)
 (some (decide (b.fH ≥ i64 ((i64 (c.fH+c.eN))+x0.Rest)))))
 (some false)
def qf(x0:an)(x1:Int)(x2:Int):Option (Bool × Int) :=
 (iG x0).bind λ b =>
 ab (b != 0)
 (some (false,b))
 ((m64 x1 (x0.az.length:Int)).bind λ c =>
 (m64 x2 (x0.az.length:Int)).bind λ d =>
 ab (ei c [d] != 0)
 (some (false,ei c [d]))
 ((nu (⟨x0.Rest,x0.Rows,x0.aJ,x0.ay,x0.az,x0.a0⟩:an) x1 x2).bind λ f =>
 some (f,0)))
def mc(x0:ah):Option aW :=
 (bb (O:=aW) (λ (b:(Int × aW)) =>
 ab (decide (b.1 < (x0.length:Int)))
 ((idx x0 b.1).bind λ c =>
 (idx b.2 c).bind λ _ =>
 some (.inl (i64 (b.1+1),b.2.set c.toNat true)))
 (some (.inr b.2))) (0,[false,false,false,false])).bind (λ (d:aW) =>
 some d)
def sK(x0:an)(x1:bB):Option (aW × Int) :=
 ab ((x1.length:Int) != (x0.az.length:Int))
 (some ([false,false,false,false,false,false,false,false,false,false,false,false,false,false,false,false],2))
 ((bb (O:=(aW ⊕ (aW × Int))) (λ (b:(Int × aW)) =>
 ab (decide (b.1 < (x1.length:Int)))
 ((idx x1 b.1).bind λ d =>
 (idx x0.az b.1).bind λ k =>
 ab ((d.length:Int) != k.ay)
 (some (.inr (.inr ([false,false,false,false,false,false,false,false,false,false,false,false,false,false,false,false],2))))
 ((bb (O:=(Unit ⊕ (aW × Int))) (λ (c:Int) =>
 ab (decide (c < (d.length:Int)))
 ((idx d c).bind λ f =>
 (m64 f (x0.ay.length:Int)).bind λ g =>
 ab (g != 0)
 (some (.inr (.inr ([false,false,false,false,false,false,false,false,false,false,false,false,false,false,false,false],g))))
 ((((ab (decide (c > 0))
 ((idx d (i64 (c - 1))).bind λ m =>
 some (decide (f≤m)))
 (some false)):a5)).bind (λ (j:Bool) =>
 ab j
 (some (.inr (.inr ([false,false,false,false,false,false,false,false,false,false,false,false,false,false,false,false],7))))
 (some (.inl (i64 (c+1)))))))
 (some (.inr (.inl ())))) 0).bind (Sum.elim (λ (_:Unit) =>
 (mc d).bind λ n =>
 (eo 4 b.2 b.1).bind λ _ =>
 some (.inl (i64 (b.1+1),qR 4 b.2 b.1 n)))
  (λ q=>some (.inr (.inr q))))))
 (some (.inr (.inl b.2)))) (0,[false,false,false,false,false,false,false,false,false,false,false,false,false,false,false,false])).bind (Sum.elim (λ (i:aW) =>
 some (i,0))
  (λ q=>some q)))
def sJ(x0:an)(x1:bB)(_:aW):Option (aW × Int) :=
 (sK x0 x1).bind λ b =>
 some (b.1,b.2)
def l9(x0:an)(x1:aW)(x2:Int):a5 :=
 (bb (O:=(Unit ⊕ Bool)) (λ (b:Int) =>
 ab (decide (b < x2))
 ((nu x0 b x2).bind λ d =>
 ab d
 (some (.inl (i64 (b+1))))
 ((bb (O:=(Unit ⊕ Bool)) (λ (c:Int) =>
 ab (decide (c < (x0.ay.length:Int)))
 ((eo 4 x1 b).bind λ f =>
 (idx f c).bind λ g =>
 ab g
 ((eo 4 x1 x2).bind λ i =>
 (idx i c).bind λ j =>
 ab j
 (some (.inr (.inr false)))
 (some (.inl (i64 (c+1)))))
 (some (.inl (i64 (c+1)))))
 (some (.inr (.inl ())))) 0).bind (Sum.elim (λ (_:Unit) =>
 some (.inl (i64 (b+1))))
  (λ q=>some (.inr (.inr q))))))
 (some (.inr (.inl ())))) 0).bind (Sum.elim (λ (_:Unit) =>
 some true)
  (λ q=>some q))
def o5(x0:bc)(x1:an)(x2:aW)(x3:bU):a5 :=
 (bb (O:=(Unit ⊕ Bool)) (λ (c:Int) =>
 ab (decide (c < (x1.az.length:Int)))
 ((eo 4 x2 c).bind λ d =>
 (bb (O:=(Unit ⊕ Bool)) (λ (b:Int) =>
 ab (decide (b < 4))
 ((idx d b).bind λ f =>
 ab f
 ((l8 x3.book x0 b c).bind λ g =>
 ab (!g)
 (some (.inr (.inr false)))
 (some (.inl (i64 (b+1)))))
 (some (.inl (i64 (b+1)))))
 (some (.inr (.inl ())))) 0).bind (Sum.elim (λ (_:Unit) =>
 some (.inl (i64 (c+1))))
  (λ q=>some (.inr (.inr q)))))
 (some (.inr (.inl ())))) 0).bind (Sum.elim (λ (_:Unit) =>
 some true)
  (λ q=>some q))
def se(x0:an)(g:bB)(c:aW):Option (aW × bU × Int) :=
 (iG x0).bind λ d =>
 ab (d != 0)
 (some (c,(⟨⟨0,[],[],[],[],[]⟩,[]⟩:bU),d))
 ((sJ x0 g c).bind λ b =>
 ab (b.2 != 0)
 (some (b.1,(⟨⟨0,[],[],[],[],[]⟩,[]⟩:bU),b.2))
 ((l6 (λ y s=>hR y x0 s)).bind λ f =>
 ab ((f.length:Int) == 0)
 (some (b.1,(⟨⟨0,[],[],[],[],[]⟩,[]⟩:bU),9))
 (some (b.1,(⟨⟨x0.Rest,x0.Rows,x0.aJ,x0.ay,x0.az,x0.a0⟩,f⟩:bU),0))))
def qh(x0:an)(x1:bB):Option (Int × Int) :=
 (se x0 x1 [false,false,false,false,false,false,false,false,false,false,false,false,false,false,false,false]).bind λ b =>
 ab (b.2.2 != 0)
 (some (0,b.2.2))
 ((bb (O:=(Unit ⊕ (Int × Int))) (λ (c:Int) =>
 ab (decide (c < (x0.az.length:Int)))
 ((l9 b.2.1.book b.1 c).bind λ d =>
 ab (!d)
 (some (.inr (.inr (2,0))))
 (some (.inl (i64 (c+1)))))
 (some (.inr (.inl ())))) 0).bind (Sum.elim (λ (_:Unit) =>
 (kF b.2.1 (λ y=>o5 y x0 b.1 b.2.1)).bind λ f =>
 (l7 b.2.1 f).bind λ g =>
 some (g,0))
  (λ q=>some q)))
def pZ(x0:ah)(x1:ah):a5 :=
 (bb (O:=(Unit ⊕ Bool)) (λ (b:Int) =>
 ab (decide (b < (x1.length:Int)))
 ((((ab (decide (b ≥ (x0.length:Int)))
 (some true)
 ((idx x0 b).bind λ d =>
 (idx x1 b).bind λ f =>
 some (decide (d < f)))):a5)).bind (λ (c:Bool) =>
 ab c
 (some (.inr (.inr true)))
 ((idx x0 b).bind λ g =>
 (idx x1 b).bind λ i =>
 ab (decide (g > i))
 (some (.inr (.inr false)))
 (some (.inl (i64 (b+1)))))))
 (some (.inr (.inl ())))) 0).bind (Sum.elim (λ (_:Unit) =>
 some false)
  (λ q=>some q))
def o6(x0:ah)(x1:ah):a5 :=
 (pZ x0 x1).bind λ b =>
 ab (!b)
 ((pZ x1 x0).bind λ c =>
 some (!c))
 (some false)
def l2(x0:ah)(x1:ah):a5 :=
 (o6 x0 x1).bind λ b =>
 some b
def hv(_:an):b5 :=
 some 0
def fo{S:Type}(ys:aW→S→Option (S × Bool)):Nat→(aW→Int→bU→Int→aW→aW→S→Option (S × Bool)) × (aW→Int→Int→Int→bU→Int→aW→aW→S→Option (S × Bool))
 | 0=>(λ _ _ _ _ _ _ _=>none,λ _ _ _ _ _ _ _ _ _=>none)
 | k+1=>(λ x0 x1 c g f d s0 =>
  ab (x1 == (c.book.az.length:Int))
  ((ys x0 s0).bind λ n =>
  some (n.1,n.2))
  ((eR .i64 g x1).bind λ A =>
  (cC .and .i64 A 1).bind λ i =>
  ab (i == 1)
  (((fo ys k).1 x0 (i64 (x1+1)) c g f d s0).bind λ p =>
  some (p.1,p.2))
  ((idx c.book.az x1).bind λ B =>
  ((fo ys k).2 x0 x1 0 B.ay c g f d s0).bind λ s =>
  some (s.1,s.2))),
  λ x0 x1 x2 x3 c g f d s0 =>
  ab (x3 == 0)
  (((((l9 c.book x0 x1).bind λ i =>
  ab (!i)
  (some (s0,true))
  (((fo ys k).1 x0 (i64 (x1+1)) c g f d s0).bind λ o =>
  some (o.1,o.2))):Option (S × Bool))).bind (λ (m:(S × Bool)) =>
  some (m.1,m.2)))
  ((bb (O:=(S ⊕ (S × Bool))) (λ (b:(S × Int × aW)) =>
  ab (decide (b.2.1 < (c.book.ay.length:Int)))
  (((((idx f b.2.1).bind λ C =>
  ab (!C)
  (some true)
  ((eo 4 d x1).bind λ D =>
  (idx D b.2.1).bind λ E =>
  some (!E))):a5)).bind (λ (y:Bool) =>
  ab y
  (some (.inl (b.1,i64 (b.2.1+1),b.2.2)))
  ((eo 4 b.2.2 x1).bind λ F =>
  (idx F b.2.1).bind λ _ =>
  ((fo ys k).2 (fT 4 b.2.2 x1 b.2.1 true) x1 (i64 (b.2.1+1)) (i64 (x3 - 1)) c g f d b.1).bind λ j =>
  ab (!j.2)
  (some (.inr (.inr (j.1,false))))
  ((eo 4 (fT 4 b.2.2 x1 b.2.1 true) x1).bind λ z =>
  (idx z b.2.1).bind λ _ =>
  some (.inl (j.1,i64 (b.2.1+1),fT 4 (fT 4 b.2.2 x1 b.2.1 true) x1 b.2.1 false))))))
  (some (.inr (.inl b.1)))) (s0,x2,x0)).bind (Sum.elim (λ (w:S) =>
  some (w,true))
   (λ q=>some q))))
def hQ{S:Type}(ys:aW→S→Option (S × Bool))(x1:bU)(x2:Int)(x3:aW)(x4:aW)(s0:S):Option S :=
 ((fo ys 40).1 [false,false,false,false,false,false,false,false,false,false,false,false,false,false,false,false] 0 x1 x2 x3 x4 s0).bind λ b =>
  some b.1
def kG(x0:bU)(x1:aW)(x2:aW)(x3:Int):Option (bU × Int × aW × aW) :=
 some (x0,x3,x2,x1)
def kH(x0:an):Option aW :=
 (bb (O:=aW) (λ (b:(Int × aW)) =>
 ab (decide (b.1 < (x0.ay.length:Int)))
 ((idx b.2 b.1).bind λ _ =>
 some (.inl (i64 (b.1+1),b.2.set b.1.toNat true)))
 (some (.inr b.2))) (0,[false,false,false,false])).bind (λ (c:aW) =>
 some c)
def kC(x0:an):Option (Int × Int) :=
 (hS x0 (λ y=>hv y)).bind λ b =>
 ab (b.2 != 0)
 (some (0,b.2))
 ((jM b.1).bind λ f =>
 (kH b.1.book).bind λ g =>
 (kG b.1 f g 0).bind λ c =>
 (hQ (dM (λ (_:aW) (d:Int)=>((some (.inl (i64 (d+1)))):Option (Int ⊕ Empty)))) c.1 c.2.1 c.2.2.1 c.2.2.2 (.inl 0)).bind (Sum.elim (λ (d:Int) =>
 some (d,0))
  (λ (o:Empty)=>o.elim)))
def nv(x0:an)(x1:aW):Option bB :=
 (bb (O:=bB) (λ (c:(bB × Int)) =>
 ab (decide (c.2 < (x0.az.length:Int)))
 ((eo 4 x1 c.2).bind λ g =>
 (bb (O:=ah) (λ (b:(ah × Int)) =>
 ab (decide (b.2 < 4))
 ((idx g b.2).bind λ i =>
 ab i
 ((dO b.1 [b.2]).bind λ j =>
 some (.inl (j,i64 (b.2+1))))
 (some (.inl (b.1,i64 (b.2+1)))))
 (some (.inr b.1))) ([],0)).bind (λ (f:ah) =>
 (dO c.1 [f]).bind λ k =>
 some (.inl (k,i64 (c.2+1)))))
 (some (.inr c.1))) ([],0)).bind (λ (d:bB) =>
 some d)
def qk(x0:an):Option (bB × Bool × Int) :=
 (hS x0 (λ y=>hv y)).bind λ b =>
 ab (b.2 != 0)
 (some ([],false,b.2))
 ((jM b.1).bind λ g =>
 (kH b.1.book).bind λ i =>
 (kG b.1 g i 0).bind λ c =>
 (hQ (dM (λ (j:aW) (_:Unit)=>(((nv b.1.book j).bind λ k =>
 some (.inr k)):Option (Unit ⊕ bB)))) c.1 c.2.1 c.2.2.1 c.2.2.2 (.inl ())).bind (Sum.elim (λ (_:Unit) =>
 some ([],false,0))
  (λ (d:bB) =>
 some (d,true,0))))
def p0(x1:(aW→(cM ⊕ Empty)→Option ((cM ⊕ Empty) × Bool))→(cM ⊕ Empty)→Option (cM ⊕ Empty)):Option cM :=
 (x1 (dM (λ (c:aW) (b:cM)=>(((dO b [c]).bind λ d =>
 some (.inl d)):Option (cM ⊕ Empty)))) (.inl [])).bind (Sum.elim (λ (b:cM) =>
 some b)
  (λ (o:Empty)=>o.elim))
def o7(x0:(aW→(cM ⊕ Empty)→Option ((cM ⊕ Empty) × Bool))→(cM ⊕ Empty)→Option (cM ⊕ Empty)):Option cM :=
 (p0 x0).bind λ b =>
 some b
def o8(x0:(aW→b5))(x1:cM):Option aW :=
 (idx x1 0).bind λ g =>
 (fP x1 1 (x1.length:Int)).bind λ c =>
 (bb (O:=aW) (λ (b:(Int × aW)) =>
 ab (decide (b.1 < (c.length:Int)))
 ((idx c b.1).bind λ d =>
 (x0 d).bind λ i =>
 (x0 b.2).bind λ j =>
 ab (decide (i < j))
 (some (.inl (i64 (b.1+1),d)))
 (some (.inl (i64 (b.1+1),b.2))))
 (some (.inr b.2))) (0,g)).bind (λ (f:aW) =>
 some f)
def ma(x0:an)(x1:aW):b5 :=
 (bb (O:=Int) (λ (c:((Int→Int) × Int × Int)) =>
 ab (decide (c.2.2 < (x0.az.length:Int)))
 ((idx x0.az c.2.2).bind λ f =>
 (eo 4 x1 c.2.2).bind λ i =>
 (bb (O:=((Int→Int) × Int)) (λ (b:((Int→Int) × Int × Int)) =>
 ab (decide (b.2.2 < 4))
 ((idx i b.2.2).bind λ j =>
 ab j
 (some (.inl (gy b.1 b.2.2 (i64 ((b.1 b.2.2)+f.eN)),ei b.2.1 [(gy b.1 b.2.2 (i64 ((b.1 b.2.2)+f.eN))) b.2.2],i64 (b.2.2+1))))
 (some (.inl (b.1,b.2.1,i64 (b.2.2+1)))))
 (some (.inr (b.1,b.2.1)))) (c.1,c.2.1,0)).bind (λ (d:((Int→Int) × Int)) =>
 some (.inl (d.1,d.2,i64 (c.2.2+1)))))
 (some (.inr c.2.1))) ((λ _=>0),0,0)).bind (λ (g:Int) =>
 some g)
def lx(x0:an):Option (bB × Int × Bool × Int) :=
 (hS x0 (λ y=>hv y)).bind λ b =>
 ab (b.2 != 0)
 (some ([],0,false,b.2))
 ((jM b.1).bind λ g =>
 (kH b.1.book).bind λ i =>
 (kG b.1 g i 0).bind λ c =>
 (o7 (λ y s=>hQ y c.1 c.2.1 c.2.2.1 c.2.2.2 s)).bind λ d =>
 ab ((d.length:Int) == 0)
 (some ([],0,false,0))
 ((o8 (λ y=>ma b.1.book y) d).bind λ f =>
 (nv b.1.book f).bind λ j =>
 (ma b.1.book f).bind λ k =>
 some (j,k,true,0)))
def me(x0:Int):Option ah :=
 (bb (O:=ah) (λ (b:(ah × Int)) =>
 ab (decide (b.2 < 4))
 ((eR .i64 x0 b.2).bind λ d =>
 (cC .and .i64 d 1).bind λ f =>
 ab (f == 1)
 ((dO b.1 [b.2]).bind λ g =>
 some (.inl (g,i64 (b.2+1))))
 (some (.inl (b.1,i64 (b.2+1)))))
 (some (.inr b.1))) ([],0)).bind (λ (c:ah) =>
 some c)
def sj(x0:Int)(x1:Int):b5 :=
 (lZ x0).bind λ c =>
 (lZ x1).bind λ b =>
 ab c
 (ab b
 (some 0)
 (some (-1)))
 (ab b
 (some 1)
 (ab (decide (x0 < x1))
 (some (-1))
 (ab (decide (x0 > x1))
 (some 1)
 (some 0))))
def oH(x0:ah)(x1:ah):b5 :=
 (bb (O:=(Unit ⊕ Int)) (λ (b:Int) =>
 ab (decide (b < (x0.length:Int)))
 ((idx x0 b).bind λ d =>
 ab (decide (b ≥ (x1.length:Int)))
 (some (.inr (.inr 1)))
 ((idx x1 b).bind λ f =>
 (sj d f).bind λ c =>
 ab (c != 0)
 (some (.inr (.inr c)))
 (some (.inl (i64 (b+1))))))
 (some (.inr (.inl ())))) 0).bind (Sum.elim (λ (_:Unit) =>
 ab (decide ((x0.length:Int) < (x1.length:Int)))
 (some (-1))
 (some 0))
  (λ q=>some q))
def mb(x0:Int)(x1:(Int→a5)):Option (ah × Bool) :=
 (gX .i64 1 x0).bind λ m =>
 (bb (O:=(ah × Bool)) (λ (b:(ah × Bool × Int)) =>
 ab (decide (b.2.2 < m))
 ((me b.2.2).bind λ c =>
 (((ab (!b.2.1)
 ((x1 b.2.2).bind λ g =>
 some g)
 (ab (decide ((c.length:Int) < (b.1.length:Int)))
 ((x1 b.2.2).bind λ i =>
 some i)
 (ab ((c.length:Int) == (b.1.length:Int))
 ((oH c b.1).bind λ j =>
 ab (decide (j < 0))
 ((x1 b.2.2).bind λ k =>
 some k)
 (some false))
 (some false)))):a5)).bind (λ (f:Bool) =>
 ab f
 (some (.inl (c,true,i64 (b.2.2+1))))
 (some (.inl (b.1,b.2.1,i64 (b.2.2+1))))))
 (some (.inr (b.1,b.2.1)))) ([],false,0)).bind (λ (d:(ah × Bool)) =>
 some (d.1,d.2))
def mf(x0:bU)(x1:aW)(x2:aW)(x3:Int):a5 :=
 (kG x0 x1 x2 x3).bind λ b =>
 (hQ (dM (λ (_:aW) (_:Unit)=>((some (.inr ())):Option (Unit ⊕ Unit)))) b.1 b.2.1 b.2.2.1 b.2.2.2 (.inl ())).bind (Sum.elim (λ (_:Unit) =>
 some false)
  (λ (_:Unit) =>
 some true))
def o9(x0:Int)(x1:bU)(x2:aW)(x3:aW):a5 :=
 (me x0).bind λ c =>
 (mc c).bind λ b =>
 (mf x1 x2 b 0).bind λ d =>
 ab d
 (some true)
 (ab (rN b x3 == true)
 ((mf x1 x2 x3 0).bind λ f =>
 some f)
 (some false))
def ly(x0:an):Option (ah × Bool × Int) :=
 (hS x0 (λ y=>hv y)).bind λ b =>
 ab (b.2 != 0)
 (some ([],false,b.2))
 ((jM b.1).bind λ d =>
 (kH b.1.book).bind λ f =>
 (mb (x0.ay.length:Int) (λ y=>o9 y b.1 d f)).bind λ c =>
 some (c.1,c.2,0))
def pa(x0:Int)(x1:bU)(x2:aW)(x3:aW):a5 :=
 (mf x1 x2 x3 x0).bind λ b =>
 some b
def kD(x0:an):Option (ah × Int) :=
 (hS x0 (λ y=>hv y)).bind λ b =>
 ab (b.2 != 0)
 (some ([],b.2))
 ((jM b.1).bind λ c =>
 (kH b.1.book).bind λ d =>
 (mb (x0.az.length:Int) (λ y=>pa y b.1 c d)).bind λ f =>
 some (f.1,0))
def qB(x0:bc)(x1:Int)(x2:Int):a5 :=
 (idx x0.deep x1).bind λ b =>
 some (decide (b≤x2))
def ql(x0:an):Option (Int × Int × Int × Int) :=
 (hS x0 (λ y=>hv y)).bind λ d =>
 ab (d.2 != 0)
 (some (0,0,0,d.2))
 ((bb (O:=(Int × Int × Int)) (λ (c:(Int × Int × Int × Int)) =>
 ab (decide (c.2.2.2 < (x0.aJ.length:Int)))
 ((bb (O:=(Int × Int × Int)) (λ (b:(Int × Int × Int × Int)) =>
 ab (decide (b.2.2.2 < 31))
 ((kF d.1 (λ y=>qB y c.2.2.2 b.2.2.2)).bind λ f =>
 ab (decide (ei f [i64 ((d.1.cY.length:Int) - f)] < b.2.2.1))
 (some (.inl (c.2.2.2,b.2.2.2,ei f [i64 ((d.1.cY.length:Int) - f)],i64 (b.2.2.2+1))))
 (some (.inl (b.1,b.2.1,b.2.2.1,i64 (b.2.2.2+1)))))
 (some (.inr (b.1,b.2.1,b.2.2.1)))) (c.1,c.2.1,c.2.2.1,0)).bind (λ (i:(Int × Int × Int)) =>
 some (.inl (i.1,i.2.1,i.2.2,i64 (c.2.2.2+1)))))
 (some (.inr (c.1,c.2.1,c.2.2.1)))) ((-1),(-1),(d.1.cY.length:Int),0)).bind (λ (g:(Int × Int × Int)) =>
 some (g.1,g.2.1,g.2.2,0)))
def kE(x0:(List Reach)):Option (List Reach) :=
 (dO [] x0).bind λ b =>
 some b
def p5(x0:(List dJ)):Option (List dJ) :=
 (dO [] x0).bind λ b =>
 some b
def p6(x0:(List dk)):Option (List dk) :=
 (dO [] x0).bind λ b =>
 some b
def p7(x0:(List gD)):Option (List gD) :=
 (dO [] x0).bind λ b =>
 some b
def p8(x0:(List c5)):Option (List c5) :=
 (dO [] x0).bind λ b =>
 some b
def sL(x0:an):Option an :=
 (p5 x0.Rows).bind λ b =>
 (kE x0.aJ).bind λ c =>
 (p6 x0.ay).bind λ d =>
 (p7 x0.az).bind λ f =>
 (p8 x0.a0).bind λ g =>
 some (⟨x0.Rest,b,c,d,f,g⟩:an)
def qm(x0:an)(x1:Int)(x2:Int):Option (an × Int) :=
 (iG x0).bind λ i =>
 ab (i != 0)
 (some ((⟨0,[],[],[],[],[]⟩:an),i))
 ((fC x1 1 30).bind λ j =>
 (((ab (!j)
 (some (!j))
 ((fC x2 1 60).bind λ n =>
 some (!n))):a5)).bind (λ (k:Bool) =>
 ab k
 (some ((⟨0,[],[],[],[],[]⟩:an),1))
 ((lA (⟨x0.Rest,x0.Rows,x0.aJ,x0.ay,x0.az,x0.a0⟩:an) x1).bind λ o =>
 ab (decide (x2 > o))
 (some ((⟨0,[],[],[],[],[]⟩:an),7))
 ((bb (O:=(List dJ)) (λ (b:((List dJ) × Bool × Int)) =>
 ab (decide (b.2.2 < (x0.Rows.length:Int)))
 ((idx x0.Rows b.2.2).bind λ c =>
 (((ab (decide (c.db > x1))
 (some (!b.2.1))
 (some false)):a5)).bind (λ (m:Bool) =>
 (((ab m
 ((dO b.1 [(⟨x1,x2⟩:dJ)]).bind λ p =>
 some (p,true))
 (some (b.1,b.2.1))):Option ((List dJ) × Bool))).bind (λ (f:((List dJ) × Bool)) =>
 (((ab (decide (c.db ≥ x1))
 (some (true,jQ c.dr [x2]))
 (some (f.2,c.dr))):Option (Bool × Int))).bind (λ (g:(Bool × Int)) =>
 (dO f.1 [(⟨c.db,g.2⟩:dJ)]).bind λ s =>
 some (.inl (s,g.1,i64 (b.2.2+1)))))))
 (some (.inr b.1))) ([],false,0)).bind (λ (d:(List dJ)) =>
 ab (decide ((d.length:Int) > 4))
 (some ((⟨0,[],[],[],[],[]⟩:an),2))
 ((sL (⟨x0.Rest,d,x0.aJ,x0.ay,x0.az,x0.a0⟩:an)).bind λ w =>
 some (w,0)))))))
def sN(x0:an)(x1:Int):Option an :=
 (me x1).bind λ c =>
 (bb (O:=(List c5)) (λ (b:((List c5) × Int)) =>
 ab (decide (b.2 < (c.length:Int)))
 ((idx c b.2).bind λ f =>
 (idx x0.a0 f).bind λ g =>
 (dO b.1 [g]).bind λ i =>
 some (.inl (i,i64 (b.2+1))))
 (some (.inr b.1))) ([],0)).bind (λ (d:(List c5)) =>
 some (⟨x0.Rest,x0.Rows,x0.aJ,x0.ay,x0.az,d⟩:an))
def sO(x0:an):a5 :=
 (hR (dM (λ (_:bc) (_:Unit)=>((some (.inr ())):Option (Unit ⊕ Unit)))) x0 (.inl ())).bind (Sum.elim (λ (_:Unit) =>
 some false)
  (λ (_:Unit) =>
 some true))
def qC(x0:Int)(x1:an):a5 :=
 (sN x1 x0).bind λ b =>
 (sO b).bind λ c =>
 some (!c)
def m32(x0:an):Option (ah × Int) :=
 (iG x0).bind λ b =>
 ab (b != 0)
 (some ([],b))
 ((mb (x0.a0.length:Int) (λ y=>qC y x0)).bind λ c =>
 some (c.1,0))
def sP(x0:bB)(x1:bB):a5 :=
 ab ((x0.length:Int) != (x1.length:Int))
 (some false)
 ((bb (O:=(Unit ⊕ Bool)) (λ (b:Int) =>
 ab (decide (b < (x0.length:Int)))
 ((idx x0 b).bind λ c =>
 (idx x1 b).bind λ d =>
 (o6 c d).bind λ f =>
 ab (!f)
 (some (.inr (.inr false)))
 (some (.inl (i64 (b+1)))))
 (some (.inr (.inl ())))) 0).bind (Sum.elim (λ (_:Unit) =>
 some true)
  (λ q=>some q)))
def qn(x0:bB)(x1:bB):a5 :=
 (sP x0 x1).bind λ b =>
 some b
def m6  : a5 :=
 (si).bind λ b =>
 (oL b (⟨0,10,true⟩:c5)).bind λ c =>
 (oM b 10).bind λ k =>
 (oM b 21).bind λ m =>
 (lq b).bind λ n =>
 (lu c 0).bind λ o =>
 (qe b 0).bind λ p =>
 (jL b 1 0).bind λ s =>
 (jL b 1 1).bind λ w =>
 (jL b 1 2).bind λ y =>
 (qf b 0 1).bind λ z =>
 (qh b ([[0,1],[0],[1]])).bind λ A =>
 (qh c ([[0,1],[0],[1]])).bind λ B =>
 (((ab (k.2 != 0)
 (some true)
 (ab (m.2 != 0)
 (some true)
 (ab (n.2 != 0)
 (some true)
 (ab (o.2 != 0)
 (some true)
 (ab (p.2 != 0)
 (some true)
 (ab (s.2 != 0)
 (some true)
 (ab (w.2 != 0)
 (some true)
 (ab (y.2 != 0)
 (some true)
 (ab (z.2 != 0)
 (some true)
 (ab (A.2 != 0)
 (some true)
 (some (B.2 != 0)))))))))))):a5)).bind (λ (H:Bool) =>
 ab H
 (some false)
 ((((ab (k.1 != 40)
 (some true)
 (ab (m.1 != 0)
 (some true)
 (ab (n.1 != 3)
 (some true)
 ((l2 o.1 [9,10]).bind λ L =>
 ab (!L)
 (some true)
 ((kB 20 40).bind λ M =>
 ab (!(yu p.1 M == true))
 (some true)
 (ab (s.1 != 1)
 (some true)
 (ab (w.1 != 2)
 (some true)
 (ab (y.1 != 0)
 (some true)
 (ab (!z.1)
 (some true)
 (ab (A.1 != 0)
 (some true)
 (some (B.1 != 1)))))))))))):a5)).bind (λ (I:Bool) =>
 ab I
 (some false)
 ((kC b).bind λ C =>
 (kC c).bind λ D =>
 (qk c).bind λ i =>
 (lx c).bind λ f =>
 (ly c).bind λ j =>
 (kD b).bind λ E =>
 (ql b).bind λ g =>
 (qm c 12 15).bind λ d =>
 (kD d.1).bind λ F =>
 (oL c (⟨0,8,true⟩:c5)).bind λ N =>
 (m32 N).bind λ G =>
 (((ab (C.2 != 0)
 (some true)
 (ab (D.2 != 0)
 (some true)
 (ab (i.2.2 != 0)
 (some true)
 (ab (f.2.2.2 != 0)
 (some true)
 (ab (j.2.2 != 0)
 (some true)
 (ab (E.2 != 0)
 (some true)
 (ab (g.2.2.2 != 0)
 (some true)
 (ab (d.2 != 0)
 (some true)
 (ab (F.2 != 0)
 (some true)
 (some (G.2 != 0))))))))))):a5)).bind (λ (J:Bool) =>
 ab J
 (some false)
 ((((ab (C.1 != 0)
 (some true)
 (ab (D.1 != 2)
 (some true)
 (ab (!i.2.1)
 (some true)
 ((qn i.1 ([[0,1],[0],[0]])).bind λ O =>
 ab (!O)
 (some true)
 (ab (!f.2.2.1)
 (some true)
 (ab (f.2.1 != 50)
 (some true)
 ((qn f.1 ([[0,1],[0],[1]])).bind λ P =>
 ab (!P)
 (some true)
 (ab (!j.2.1)
 (some true)
 ((l2 j.1 [0,1]).bind λ Q =>
 ab (!Q)
 (some true)
 ((l2 E.1 [2]).bind λ R =>
 some (!R))))))))))):a5)).bind (λ (K:Bool) =>
 ab K
 (some false)
 (ab (g.1 == 0)
 (ab (g.2.1 == 9)
 (ab (g.2.2.1 == 2)
 (ab ((F.1.length:Int) == 0)
 ((l2 G.1 [1]).bind λ S =>
 ab S
 (ab ((d.1.Rows.length:Int) == 3)
 ((idx d.1.Rows 1).bind λ T =>
 ab (rO T (⟨12,15⟩:dJ) == true)
 ((idx d.1.Rows 2).bind λ U =>
 some (rO U (⟨20,15⟩:dJ) == true))
 (some false))
 (some false))
 (some false))
 (some false))
 (some false))
 (some false))
 (some false)))))))))
def jN(x0:Int)(x1:Int)(x2:Int):a5 :=
 ab (decide (x1≤x0))
 (some (decide (x0≤x2)))
 (some false)
def sy(x0:bC):b5 :=
 (jN x0.bK 2 7).bind λ b =>
 ab (!b)
 (some 1)
 ((jN x0.bV 2 7).bind λ c =>
 ab (!c)
 (some 1)
 ((jN x0.b8 0 2).bind λ d =>
 ab (!d)
 (some 1)
 (some 0)))
def qp(x0:Reach)(x1:Int)(x2:Int):a5 :=
 ab (decide (x1≤x0.aZ))
 (ab (decide (x0.aZ≤x0.bh))
 (some (decide (x0.bh≤x2)))
 (some false))
 (some false)
def sz(x0:bC):b5 :=
 (jN (x0.a9.length:Int) 1 3).bind λ d =>
 ab (!d)
 (some 2)
 ((bb (O:=(Unit ⊕ Int)) (λ (b:Int) =>
 ab (decide (b < (x0.a9.length:Int)))
 ((idx x0.a9 b).bind λ c =>
 (qp c (-3) 3).bind λ f =>
 ab (!f)
 (some (.inr (.inr 1)))
 (ab (decide (i64 (c.bh - c.aZ) ≥ 3))
 (some (.inr (.inr 1)))
 (some (.inl (i64 (b+1))))))
 (some (.inr (.inl ())))) 0).bind (Sum.elim (λ (_:Unit) =>
 some 0)
  (λ q=>some q)))
def sR(x0:Bool):b5 :=
 ab (!x0)
 (some 6)
 (some 0)
def oZ(x0:bC)(x1:Int):b5 :=
 (jN x1 0 (i64 ((x0.a9.length:Int) - 1))).bind λ b =>
 (sR b).bind λ c =>
 some c
def sB(x0:fG):a5 :=
 (jN x0.bR (-20) 20).bind λ b =>
 ab b
 ((jN x0.bS (-20) 20).bind λ c =>
 some c)
 (some false)
def sA(x0:bC):b5 :=
 ab (decide ((x0.bz.length:Int) > 5))
 (some 2)
 ((bb (O:=(Unit ⊕ Int)) (λ (b:Int) =>
 ab (decide (b < (x0.bz.length:Int)))
 ((idx x0.bz b).bind λ c =>
 ((((sB c.U).bind λ f =>
 ab (!f)
 (some true)
 ((jN c.hG 0 7).bind λ g =>
 some (!g))):a5)).bind (λ (d:Bool) =>
 ab d
 (some (.inr (.inr 1)))
 ((oZ x0 c.fK).bind λ i =>
 ab (i != 0)
 (some (.inr (.inr 6)))
 (some (.inl (i64 (b+1)))))))
 (some (.inr (.inl ())))) 0).bind (Sum.elim (λ (_:Unit) =>
 some 0)
  (λ q=>some q)))
def qo(x0:bC):b5 :=
 (sy (⟨x0.bK,x0.bV,x0.b8,x0.a9,x0.bz⟩:bC)).bind λ b =>
 ab (b != 0)
 (some b)
 ((sz (⟨x0.bK,x0.bV,x0.b8,x0.a9,x0.bz⟩:bC)).bind λ c =>
 ab (c != 0)
 (some c)
 ((sA (⟨x0.bK,x0.bV,x0.b8,x0.a9,x0.bz⟩:bC)).bind λ d =>
 ab (d != 0)
 (some d)
 (some 0)))
def sf(x0:bC):b5 :=
 (bb (O:=Int) (λ (b:(Int × Int)) =>
 ab (decide (b.2 < (x0.bz.length:Int)))
 ((idx x0.bz b.2).bind λ d =>
 ab d.n7
 ((gX .i64 1 b.2).bind λ f =>
 (cC .or .i64 b.1 f).bind λ g =>
 some (.inl (g,i64 (b.2+1))))
 (some (.inl (b.1,i64 (b.2+1)))))
 (some (.inr b.1))) (0,0)).bind (λ (c:Int) =>
 some c)
def je{S:Type}(ys:c0→S→Option (S × Bool)):Nat→Int→bC→c0→S→Option (S × (c0 × Bool))
 | 0,_,_,_,_=>none
 | k+1,x0,x1,x3,s0 =>
  ab (x0 == (x1.a9.length:Int))
  ((ys x3 s0).bind λ f =>
  some (f.1,(x3,f.2)))
  ((idx x1.a9 x0).bind λ g =>
  (bb (O:=((S × Int × Int × ah) ⊕ (S × (c0 × Bool)))) (λ (b:(S × Int × Int × Int × ah)) =>
  (idx x1.a9 x0).bind λ i =>
  ab (decide (b.2.1≤i.bh))
  ((idx b.2.2.2.2 x0).bind λ _ =>
  (je ys k (i64 (x0+1)) x1 (⟨⟨b.2.2.1,b.2.2.2.1⟩,b.2.2.2.2.set x0.toNat b.2.1⟩:c0) b.1).bind λ c =>
  ab (!c.2.2)
  (some (.inr (.inr (c.1,(c.2.1,false)))))
  (some (.inl (c.1,i64 (b.2.1+1),c.2.1.at_.bR,c.2.1.at_.bS,c.2.1.off))))
  (some (.inr (.inl (b.1,b.2.2.1,b.2.2.2.1,b.2.2.2.2))))) (s0,g.aZ,x3.at_.bR,x3.at_.bS,x3.off)).bind (Sum.elim (λ (d:(S × Int × Int × ah)) =>
  some (d.1,((⟨⟨d.2.1,d.2.2.1⟩,d.2.2.2⟩:c0),true)))
   (λ q=>some q)))
def p9{S:Type}(ys:c0→S→Option (S × Bool))(x0:bC)(s0:S):Option S :=
 (bb (O:=(S ⊕ S)) (λ (b:(S × Int × Int × Int × ah)) =>
  ab (decide (b.2.1 < i64 (x0.bK * x0.bV)))
  ((hy b.2.1 x0.bK).bind λ f =>
  (gp b.2.1 x0.bK).bind λ g =>
  (je ys 9 0 x0 (⟨⟨f,g⟩,b.2.2.2.2⟩:c0) b.1).bind λ c =>
  ab (!c.2.2)
  (some (.inr (.inr c.1)))
  (some (.inl (c.1,i64 (b.2.1+1),c.2.1.at_.bR,c.2.1.at_.bS,c.2.1.off))))
  (some (.inr (.inl b.1)))) (s0,0,0,0,[0,0,0])).bind (Sum.elim (λ (d:S) =>
  some d)
   (λ q=>some q))
def u7(x0:Bool)(x1:Bool):b5 :=
 (((ab x0
 (some x1)
 (some false)):a5)).bind (λ (b:Bool) =>
 ab b
 (some 1)
 (ab x0
 (some 3)
 (ab x1
 (some 7)
 (some 5))))
def oO(x0:fG)(x1:fG):b5 :=
 ab (decide (i64 (12 * (jQ (ei (i64 (x1.bR - x0.bR)) [i64 (0 - i64 (x1.bR - x0.bR))]) [ei (i64 (x1.bS - x0.bS)) [i64 (0 - i64 (x1.bS - x0.bS))]])) > i64 (5 * (ei (ei (i64 (x1.bR - x0.bR)) [i64 (0 - i64 (x1.bR - x0.bR))]) [ei (i64 (x1.bS - x0.bS)) [i64 (0 - i64 (x1.bS - x0.bS))]]))))
 ((u7 (decide (i64 (x1.bR - x0.bR) > 0)) (decide (i64 (x1.bS - x0.bS) > 0))).bind λ c =>
 some c)
 ((((ab (decide (ei (i64 (x1.bR - x0.bR)) [i64 (0 - i64 (x1.bR - x0.bR))] > ei (i64 (x1.bS - x0.bS)) [i64 (0 - i64 (x1.bS - x0.bS))]))
 (some (decide (i64 (x1.bR - x0.bR) > 0)))
 (some false)):a5)).bind (λ (b:Bool) =>
 ab b
 (some 2)
 (ab (decide (ei (i64 (x1.bR - x0.bR)) [i64 (0 - i64 (x1.bR - x0.bR))] > ei (i64 (x1.bS - x0.bS)) [i64 (0 - i64 (x1.bS - x0.bS))]))
 (some 6)
 (ab (decide (i64 (x1.bS - x0.bS) > 0))
 (some 0)
 (some 4)))))
def ss(_:bC)(x1:iN)(x2:c0):a5 :=
 ab (ou x1.U x2.at_ == true)
 (some true)
 ((oO x1.U x2.at_).bind λ b =>
 (idx x2.off x1.fK).bind λ c =>
 (hy (i64 ((i64 (b+c))+8)) 8).bind λ d =>
 some (d == x1.hG))
def qa(x0:bC)(x1:c0):b5 :=
 (bb (O:=Int) (λ (b:(Int × Int)) =>
 ab (decide (b.2 < (x0.bz.length:Int)))
 ((idx x0.bz b.2).bind λ d =>
 (ss x0 d x1).bind λ f =>
 ab (!f)
 ((gX .i64 1 b.2).bind λ g =>
 (cC .or .i64 b.1 g).bind λ i =>
 some (.inl (i,i64 (b.2+1))))
 (some (.inl (b.1,i64 (b.2+1)))))
 (some (.inr b.1))) (0,0)).bind (λ (c:Int) =>
 some c)
def oI(x0:Int):Option ah :=
 (bb (O:=ah) (λ (b:(ah × Int)) =>
 ab (decide (b.2 < 5))
 ((eR .i64 x0 b.2).bind λ d =>
 (cC .and .i64 d 1).bind λ f =>
 ab (f == 1)
 ((dO b.1 [b.2]).bind λ g =>
 some (.inl (g,i64 (b.2+1))))
 (some (.inl (b.1,i64 (b.2+1)))))
 (some (.inr b.1))) ([],0)).bind (λ (c:ah) =>
 some c)
def qD{S:Type}(ys:fM→S→Option (S × Bool))(x0:bC)(s0:S):Option S :=
 (sf x0).bind λ s =>
  (p9 (dM (λ (c:c0) (d:S)=>(((qa x0 c).bind λ k =>
  (gX .i64 1 (x0.bz.length:Int)).bind λ m =>
  (bb (O:=(S ⊕ S)) (λ (b:(S × Int)) =>
  ab (decide (b.2 < m))
  (((((cC .andNot .i64 k b.2).bind λ n =>
  ab (n != 0)
  (some true)
  ((cC .and .i64 b.2 s).bind λ o =>
  ab (o != 0)
  (some true)
  ((oI b.2).bind λ p =>
  some (decide ((p.length:Int) > x0.b8))))):a5)).bind (λ (i:Bool) =>
  ab i
  (some (.inl (b.1,i64 (b.2+1))))
  ((ys (⟨⟨⟨c.at_.bR,c.at_.bS⟩,c.off⟩,b.2⟩:fM) b.1).bind λ f =>
  ab (!f.2)
  (some (.inr (.inr f.1)))
  (some (.inl (f.1,i64 (b.2+1)))))))
  (some (.inr (.inl b.1)))) (d,0)).bind (Sum.elim (λ (g:S) =>
  some (.inl g))
   (λ q=>some (.inr q)))):Option (S ⊕ S)))) x0 (.inl s0)).bind (Sum.elim (λ (d:S) =>
  some d)
   (λ (j:S) =>
  some j))
def qq(x0:bC)(x1:(bC→b5)):Option (n1 × Int) :=
 (qo x0).bind λ c =>
 ab (c != 0)
 (some ((⟨⟨0,0,0,[],[]⟩,[]⟩:n1),c))
 ((x1 x0).bind λ d =>
 ab (d != 0)
 (some ((⟨⟨0,0,0,[],[]⟩,[]⟩:n1),d))
 ((qD (dM (λ (f:fM) (b:(List fM))=>(((dO b [f]).bind λ g =>
 some (.inl g)):Option ((List fM) ⊕ Empty)))) x0 (.inl [])).bind (Sum.elim (λ (b:(List fM)) =>
 ab ((b.length:Int) == 0)
 (some ((⟨⟨0,0,0,[],[]⟩,[]⟩:n1),9))
 (some ((⟨⟨x0.bK,x0.bV,x0.b8,x0.a9,x0.bz⟩,b⟩:n1),0)))
  (λ (o:Empty)=>o.elim))))
def sS(_:bC):b5 :=
 some 0
def sT(x0:(List iN)):Option (List iN) :=
 (dO [] x0).bind λ b =>
 some b
def vf(x0:bC):Option (bC × Int) :=
 (qq x0 (λ y=>sS y)).bind λ b =>
 ab (b.2 != 0)
 (some ((⟨0,0,0,[],[]⟩:bC),b.2))
 ((kE x0.a9).bind λ c =>
 (sT x0.bz).bind λ d =>
 some ((⟨x0.bK,x0.bV,x0.b8,c,d⟩:bC),0))
def m7(x0:bC)(x1:Int)(x2:Reach):Option (bC × Int) :=
 (qo x0).bind λ c =>
 ab (c != 0)
 (some ((⟨0,0,0,[],[]⟩:bC),c))
 ((oZ (⟨x0.bK,x0.bV,x0.b8,x0.a9,x0.bz⟩:bC) x1).bind λ d =>
 ab (d != 0)
 (some ((⟨0,0,0,[],[]⟩:bC),d))
 ((qp x2 (-3) 3).bind λ i =>
 ab (!i)
 (some ((⟨0,0,0,[],[]⟩:bC),1))
 ((idx x0.a9 x1).bind λ b =>
 ab (decide (ei b.aZ [x2.aZ] > jQ b.bh [x2.bh]))
 (some ((⟨0,0,0,[],[]⟩:bC),9))
 ((kE x0.a9).bind λ f =>
 (idx f x1).bind λ _ =>
 (vf (⟨x0.bK,x0.bV,x0.b8,f.set x1.toNat (⟨ei b.aZ [x2.aZ],jQ b.bh [x2.bh]⟩:Reach),x0.bz⟩:bC)).bind λ g =>
 some (g.1,g.2)))))
def qs(x0:bC)(x1:Int):b5 :=
 (oZ x0 x1).bind λ b =>
 some b
def m8(x0:bC)(x1:Int):Option (ah × Int) :=
 (qq x0 (λ y=>qs y x1)).bind λ c =>
 ab (c.2 != 0)
 (some ([],c.2))
 ((bb (O:=ah) (λ (b:(ah × Int)) =>
 ab (decide (b.2 < (c.1.cY.length:Int)))
 ((idx c.1.cY b.2).bind λ f =>
 (idx f.g5.off x1).bind λ g =>
 (dO b.1 [g]).bind λ i =>
 some (.inl (i,i64 (b.2+1))))
 (some (.inr b.1))) ([],0)).bind (λ (d:ah) =>
 (l3 d).bind λ j =>
 (l4 j).bind λ k =>
 some (k,0)))
def sa(x0:ah)(x1:Int):a5 :=
 (bb (O:=(Unit ⊕ Bool)) (λ (b:Int) =>
 ab (decide (b < (x0.length:Int)))
 ((idx x0 b).bind λ c =>
 ab (c == x1)
 (some (.inr (.inr true)))
 (some (.inl (i64 (b+1)))))
 (some (.inr (.inl ())))) 0).bind (Sum.elim (λ (_:Unit) =>
 some false)
  (λ q=>some q))
def o0(x0:ah)(x1:ah):a5 :=
 (bb (O:=(Unit ⊕ Bool)) (λ (b:Int) =>
 ab (decide (b < (x0.length:Int)))
 ((idx x0 b).bind λ c =>
 (sa x1 c).bind λ d =>
 ab (!d)
 (some (.inr (.inr false)))
 (some (.inl (i64 (b+1)))))
 (some (.inr (.inl ())))) 0).bind (Sum.elim (λ (_:Unit) =>
 some true)
  (λ q=>some q))
def sF(x0:an)(x1:an)(x2:Int)(x3:Int)(x4:Int):a5 :=
 (lq x0).bind λ s =>
 (lq x1).bind λ w =>
 (lu x0 x2).bind λ k =>
 (lu x1 x2).bind λ m =>
 (jL x0 x3 x4).bind λ f =>
 (jL x1 x3 x4).bind λ n =>
 (((ab (s.2 != 0)
 (some true)
 (ab (w.2 != 0)
 (some true)
 (ab (k.2 != 0)
 (some true)
 (ab (m.2 != 0)
 (some true)
 (ab (f.2 != 0)
 (some true)
 (ab (n.2 != 0)
 (some true)
 ((eC w.1 1 s.1).bind λ A =>
 ab (!A)
 (some true)
 ((o0 m.1 k.1).bind λ B =>
 ab (!B)
 (some true)
 (ab (f.1 != 0)
 (some (f.1 != n.1))
 (some false)))))))))):a5)).bind (λ (y:Bool) =>
 ab y
 (some false)
 ((kC x0).bind λ c =>
 (kC x1).bind λ g =>
 (lx x0).bind λ b =>
 (lx x1).bind λ d =>
 (ly x0).bind λ i =>
 (ly x1).bind λ j =>
 (((ab (c.2 != 0)
 (some true)
 (ab (g.2 != 0)
 (some true)
 (ab (b.2.2.2 != 0)
 (some true)
 (ab (d.2.2.2 != 0)
 (some true)
 (ab (i.2.2 != 0)
 (some true)
 (ab (j.2.2 != 0)
 (some true)
 (ab (decide (c.1 < 0))
 (some true)
 (ab (decide (g.1 < c.1))
 (some true)
 (ab (!(b.2.2.1 == (decide (c.1 > 0))))
 (some true)
 (ab (!(d.2.2.1 == (decide (g.1 > 0))))
 (some true)
 (ab (!(i.2.1 == b.2.2.1))
 (some true)
 (ab (!(j.2.1 == d.2.2.1))
 (some true)
 (ab b.2.2.1
 (ab (decide (d.2.1 > b.2.1))
 (some true)
 (some (decide ((j.1.length:Int) > (i.1.length:Int)))))
 (some false)))))))))))))):a5)).bind (λ (z:Bool) =>
 ab z
 (some false)
 ((kD x0).bind λ o =>
 (kD x1).bind λ p =>
 ab (o.2 == 0)
 (ab (p.2 == 0)
 (some (decide ((p.1.length:Int)≤(o.1.length:Int))))
 (some false))
 (some false)))))
def m9(x0:an)(x1:Int)(x2:ah)(x3:ah)(x4:Int)(x5:Int):a5 :=
 (((ab ((x2.length:Int) == 0)
 (some true)
 (ab ((x3.length:Int) == 0)
 (some true)
 ((o0 x3 x2).bind λ i =>
 some (!i)))):a5)).bind (λ (g:Bool) =>
 ab g
 (some false)
 ((dO [] x0.aJ).bind λ d =>
 (dO [] x0.aJ).bind λ f =>
 (idx x2 0).bind λ j =>
 (idx x2 (i64 ((x2.length:Int) - 1))).bind λ k =>
 (kB (i64 (10+j)) (i64 (10+k))).bind λ b =>
 (idx x3 0).bind λ m =>
 (idx x3 (i64 ((x3.length:Int) - 1))).bind λ n =>
 (kB (i64 (10+m)) (i64 (10+n))).bind λ c =>
 (idx d x1).bind λ _ =>
 (idx f x1).bind λ _ =>
 (oG (⟨x0.Rest,x0.Rows,d.set x1.toNat (⟨b.aZ,b.bh⟩:Reach),x0.ay,x0.az,x0.a0⟩:an)).bind λ o =>
 ab (o == 0)
 ((oG (⟨x0.Rest,x0.Rows,f.set x1.toNat (⟨c.aZ,c.bh⟩:Reach),x0.ay,x0.az,x0.a0⟩:an)).bind λ p =>
 ab (p == 0)
 ((sF (⟨x0.Rest,x0.Rows,d.set x1.toNat (⟨b.aZ,b.bh⟩:Reach),x0.ay,x0.az,x0.a0⟩:an) (⟨x0.Rest,x0.Rows,f.set x1.toNat (⟨c.aZ,c.bh⟩:Reach),x0.ay,x0.az,x0.a0⟩:an) x1 x4 x5).bind λ s =>
 some s)
 (some false))
 (some false)))
def m3(x0:an)(x1:bC)(x2:Int)(x3:Int)(x4:Reach)(x5:Int)(x6:Int)(x7:Int):a5 :=
 ((((m4 (⟨x0.Rest,x0.Rows,x0.aJ,x0.ay,x0.az,[]⟩:an)).bind λ i =>
 ab (!i)
 (some true)
 ((m5 x1).bind λ j =>
 some (!j))):a5)).bind (λ (g:Bool) =>
 ab g
 ((m6).bind λ k =>
 some k)
 ((hy (i64 x2) (x1.a9.length:Int)).bind λ m =>
 (hy (i64 x3) (x1.a9.length:Int)).bind λ b =>
 (m7 x1 m x4).bind λ c =>
 ab (c.2 != 0)
 ((m6).bind λ n =>
 some n)
 ((m8 x1 b).bind λ d =>
 (m8 c.1 b).bind λ f =>
 ab (d.2 == 0)
 (ab (f.2 == 0)
 ((hy (i64 x5) (x0.aJ.length:Int)).bind λ o =>
 (hy (i64 x6) (x0.ay.length:Int)).bind λ p =>
 (hy (i64 x7) (x0.az.length:Int)).bind λ s =>
 (m9 (⟨x0.Rest,x0.Rows,x0.aJ,x0.ay,x0.az,[]⟩:an) o d.1 f.1 p s).bind λ w =>
 ab w
 ((m6).bind λ y =>
 some y)
 (some false))
 (some false))
 (some false))))
def j5{B:Base}{main:Bool}(ae:Jd prog B main):Prop:=∀ {R:aA} {H:ai} (x0:bU) {b c d f g i:Value},aa bQ 2 R b x0.book.Rows→aa bd 2 R c x0.book.aJ→aa bL 2 R d x0.book.ay→aa bP 4 R f x0.book.az→aa bG 3 R g x0.book.a0→aa dI 3 R i x0.cY→∀ {r:aW},jM x0=some r →
 aO ae 77 #[.agg #[iv x0.book.Rest,b,c,d,f,g,i]] R H λ v R' H'=>aK R R'∧H=H'∧r.length=16∧v = .agg (List.toArray ([]++(r.map Value.bool++[])))
theorem jg{B:Base}{main:Bool}{ae:Jd prog B main}{R:aA}{H:ai}(x0:bU)(s:j5 ae){b c d f g i:Value}(j:aa bQ 2 R b x0.book.Rows)(k:aa bd 2 R c x0.book.aJ)(m:aa bL 2 R d x0.book.ay)(n:aa bP 4 R f x0.book.az)(o:aa bG 3 R g x0.book.a0)(p:aa dI 3 R i x0.cY){r:aW}(w:jM x0=some r) :
 aO ae 77 #[.agg #[iv x0.book.Rest,b,c,d,f,g,i]] R H λ v R' H'=>aK R R'∧H=H'∧r.length=16∧v = .agg (List.toArray ([]++(r.map Value.bool++[]))):=s x0 j k m n o p w
end
end Go.Proofs.YtikficpdfaajlaaGreatDoor
