/- What the functions compute. Conditions: none. -/
import Derived.Test.YtoaoffinglajbaaGreatDoorQBHbF
namespace Go.Proofs.YtoaoffinglajbaaGreatDoor
open Go.Lg Go.Proofs Tryz
noncomputable section
set_option maxRecDepth 100000
def hj(f:an)(x1:bm)(x2:(List Bool)):Option Int :=
 (a1 (O:=Int) (λ (d:(Int × Int)) =>
 ab (decide (d.2 < (f.ao.length:Int)))
 ((idx f.ao d.2).bind λ m =>
 (idx x2 d.2).bind λ s =>
 ab (!s)
 ((idx x1.weights d.2).bind λ y =>
 some (.inl (i64 (d.1+(i64 (m.dR * y))),i64 (d.2+1))))
 (some (.inl (d.1,i64 (d.2+1)))))
 (some (.inr d.1))) (x1.eb,0)).bind (λ (g:Int) =>
 some g)
def j1(g:cN)(x1:Int):Option (List Bool × Int) :=
 (a1 (O:=(List Bool)) (λ (d:(Int × (List Bool))) =>
 ab (decide (d.1 < (g.book.ao.length:Int)))
 ((fo .i64 x1 d.1).bind λ z =>
 (dB .and .i64 z 1).bind λ A =>
 (idx d.2 d.1).bind λ _ =>
 some (.inl (i64 (d.1+1),d.2.set d.1.toNat (A == 1))))
 (some (.inr d.2))) (0,[false,false,false,false,false])).bind (λ (m:(List Bool)) =>
 (a1 (O:=Int) (λ (f:(Int × Int)) =>
 ab (decide (f.2 < (g.cW.length:Int)))
 ((idx g.cW f.2).bind λ B =>
 (hj g.book B m).bind λ s =>
 some (.inl (cy f.1 [s,i64 (0 - s)],i64 (f.2+1))))
 (some (.inr f.1))) (0,0)).bind (λ (y:Int) =>
 some (m,y)))
def jD(d:cN):Option ev :=
 (fK .i64 1 (d.book.ao.length:Int)).bind λ many =>
 ((List.range many.toNat).mapM (λ (i:Nat)=>j1 d (i:Int))).bind λ l =>
 if d.hq=[]∧(l.map (·.1)).Nodup∧(∀ p∈l,p.1.length=5)∧0≤many∧many≤1048576 then some l else none
def kC{B:Base}{main:Bool}(af:Jd prog B main):Prop:=∀ {R:ay} {H:aj} (d:cN) {m s y z f:Value} {Hs:aj},ah bz 5 R m d.book.ao→ah (CI .i64) 1 R s d.book.Out→ah bq 2 R y d.book.aV→ah eA 6 R z d.cW→gu f d.hq Hs→∀ {r:ev},jD d=some r →
 aL af 81 #[.agg #[iv d.book.ax,iv d.book.ad.ai,iv d.book.ad.ak,m,s,y,z,f]] R (Hs++H) λ v R' H'=>∃ g,(aH R R'∧gL R' f r∧v = .tuple #[]∧g=[])∧H'=g++H
abbrev km(r:List Bool × Int):Value:=.agg (List.toArray ([]++(r.1.map Value.bool++[iv r.2])))
def en(d:Int)(x1:Int)(x2:Int):Option Bool :=
 ab (decide (x1≤d))
 (some (decide (d≤x2)))
 (some false)
def jz(d:Reach)(x1:Int)(x2:Int):Option Bool :=
 ab (decide (x1≤d.ai))
 (ab (decide (d.ai≤d.ak))
 (some (decide (d.ak≤x2)))
 (some false))
 (some false)
def mf(d:Int):Option Bool :=
 (en (i64 d) 97 122).bind λ f =>
 some f
def nI(d:Int):Option Bool :=
 (en (i64 d) 48 57).bind λ f =>
 some f
def pj(f:ByteArray):Option Bool :=
 ((((en (f.size:Int) 1 12).bind λ m =>
 ab (!m)
 (some true)
 ((jf f 0).bind λ s =>
 (mf s).bind λ y =>
 some (!y))):Option Bool)).bind (λ (g:Bool) =>
 ab g
 (some false)
 ((a1 (O:=(Unit ⊕ Bool)) (λ (d:Int) =>
 ab (decide (d < (f.size:Int)))
 ((jf f d).bind λ z =>
 (mf z).bind λ A =>
 ab (!A)
 ((jf f d).bind λ B =>
 (nI B).bind λ C =>
 ab (!C)
 (some (.inr (.inr false)))
 (some (.inl (i64 (d+1)))))
 (some (.inl (i64 (d+1)))))
 (some (.inr (.inl ())))) 1).bind (Sum.elim (λ (_:Unit) =>
 some true)
  (λ q=>some q))))
def pk(f:(List Int))(x1:Int):Option Int :=
 (a1 (O:=(Unit ⊕ Int)) (λ (d:Int) =>
 ab (decide (d < (f.length:Int)))
 ((idx f d).bind λ g =>
 (en g 0 (i64 (x1 - 1))).bind λ m =>
 ab (!m)
 (some (.inr (.inr 6)))
 (ab (decide (d > 0))
 ((idx f d).bind λ s =>
 (idx f (i64 (d - 1))).bind λ y =>
 ab (decide (s≤y))
 (some (.inr (.inr 7)))
 (some (.inl (i64 (d+1)))))
 (some (.inl (i64 (d+1))))))
 (some (.inr (.inl ())))) 0).bind (Sum.elim (λ (_:Unit) =>
 some 0)
  (λ q=>some q))
def pN(g:an):Option Int :=
 (en (g.ao.length:Int) 1 5).bind λ z =>
 ab (!z)
 (some 2)
 ((a1 (O:=(Unit ⊕ Int)) (λ (f:Int) =>
 ab (decide (f < (g.ao.length:Int)))
 ((idx g.ao f).bind λ d =>
 (pj d.Name).bind λ A =>
 ab (!A)
 (some (.inr (.inr 4)))
 ((a1 (O:=(Unit ⊕ Int)) (λ (m:Int) =>
 ab (decide (m < f))
 ((idx g.ao m).bind λ B =>
 ab (B.Name.toList == d.Name.toList)
 (some (.inr (.inr 5)))
 (some (.inl (i64 (m+1)))))
 (some (.inr (.inl ())))) 0).bind (Sum.elim (λ (_:Unit) =>
 ((((en d.dR (-9) 9).bind λ C =>
 ab (!C)
 (some true)
 ((jz d.Weight 1 99).bind λ D =>
 ab (!D)
 (some true)
 (some (decide (i64 (d.Weight.ak - d.Weight.ai) ≥ 3))))):Option Bool)).bind (λ (y:Bool) =>
 ab y
 (some (.inr (.inr 1)))
 ((pk d.On f).bind λ s =>
 ab (s != 0)
 (some (.inr (.inr s)))
 (some (.inl (i64 (f+1)))))))
  (λ q=>some (.inr (.inr q))))))
 (some (.inr (.inl ())))) 0).bind (Sum.elim (λ (_:Unit) =>
 some 0)
  (λ q=>some q)))
def gE(f:(List Int))(x1:Int):Option Bool :=
 (a1 (O:=(Unit ⊕ Bool)) (λ (d:Int) =>
 ab (decide (d < (f.length:Int)))
 ((idx f d).bind λ g =>
 ab (g == x1)
 (some (.inr (.inr true)))
 (some (.inl (i64 (d+1)))))
 (some (.inr (.inl ())))) 0).bind (Sum.elim (λ (_:Unit) =>
 some false)
  (λ q=>some q))
def nC(d:an)(x1:Int):Option Bool :=
 (en x1 0 (i64 ((d.ao.length:Int) - 1))).bind λ f =>
 some f
def md(f:an)(x1:(List Int))(x2:Int):Option Bool :=
 (gE x1 x2).bind λ g =>
 ab g
 (some false)
 ((a1 (O:=(Unit ⊕ Bool)) (λ (d:Int) =>
 ab (decide (d < (f.ao.length:Int)))
 ((gE x1 d).bind λ m =>
 ab (!m)
 ((idx f.ao d).bind λ s =>
 (gE s.On x2).bind λ y =>
 ab y
 (some (.inr (.inr false)))
 (some (.inl (i64 (d+1)))))
 (some (.inl (i64 (d+1)))))
 (some (.inr (.inl ())))) 0).bind (Sum.elim (λ (_:Unit) =>
 some true)
  (λ q=>some q)))
def pO(f:an)(x1:(List Int))(x2:(List Int)):Option Int :=
 (cu [] x1).bind λ D =>
 (a1 (O:=(Unit ⊕ Int)) (λ (d:((List Int) × Int)) =>
 ab (decide (d.2 < (x2.length:Int)))
 ((idx x2 d.2).bind λ g =>
 (nC f g).bind λ m =>
 ab (!m)
 (some (.inr (.inr 6)))
 ((idx x2 d.2).bind λ s =>
 (gE d.1 s).bind λ y =>
 ab y
 (some (.inr (.inr 5)))
 ((idx x2 d.2).bind λ z =>
 (md f d.1 z).bind λ A =>
 ab (!A)
 (some (.inr (.inr 7)))
 ((idx x2 d.2).bind λ B =>
 (cu d.1 [B]).bind λ C =>
 some (.inl (C,i64 (d.2+1)))))))
 (some (.inr (.inl ())))) (D,0)).bind (Sum.elim (λ (_:Unit) =>
 some 0)
  (λ q=>some q))
def mm(d:an):Option Int :=
 ((((en d.ax 0 9999).bind λ C =>
 ab (!C)
 (some true)
 ((jz d.ad (-999) 999).bind λ D =>
 ab (!D)
 (some true)
 (some (decide (i64 (d.ad.ak - d.ad.ai) ≥ 3))))):Option Bool)).bind (λ (s:Bool) =>
 ab s
 (some 1)
 ((pN d).bind λ g =>
 ab (g != 0)
 (some g)
 ((pO d [] d.Out).bind λ m =>
 ab (m != 0)
 (some m)
 (ab (decide ((d.aV.length:Int) > 4))
 (some 2)
 ((a1 (O:=(Unit ⊕ Int)) (λ (f:Int) =>
 ab (decide (f < (d.aV.length:Int)))
 ((idx d.aV f).bind λ y =>
 (en y.cT 0 (d.Out.length:Int)).bind λ z =>
 ab (!z)
 (some (.inr (.inr 6)))
 ((idx d.aV f).bind λ A =>
 (en A.dZ 0 2).bind λ B =>
 ab (!B)
 (some (.inr (.inr 1)))
 (some (.inl (i64 (f+1))))))
 (some (.inr (.inl ())))) 0).bind (Sum.elim (λ (_:Unit) =>
 some 0)
  (λ q=>some q)))))))
def pG(d:an):Option Bool :=
 (((ab (decide ((d.ao.length:Int) > 20))
 (some true)
 (ab (decide ((d.Out.length:Int) > 20))
 (some true)
 (some (decide ((d.aV.length:Int) > 20))))):Option Bool)).bind (λ (g:Bool) =>
 ab g
 (some true)
 ((a1 (O:=(Unit ⊕ Bool)) (λ (f:Int) =>
 ab (decide (f < (d.ao.length:Int)))
 ((idx d.ao f).bind λ m =>
 ab (decide ((m.Name.size:Int) > 100))
 (some (.inr (.inr true)))
 ((idx d.ao f).bind λ s =>
 ab (decide ((s.On.length:Int) > 20))
 (some (.inr (.inr true)))
 (some (.inl (i64 (f+1))))))
 (some (.inr (.inl ())))) 0).bind (Sum.elim (λ (_:Unit) =>
 some false)
  (λ q=>some q))))
def m4(d:an):Option Bool :=
 (pG d).bind λ f =>
 ab (!f)
 ((mm d).bind λ g =>
 some (g == 0))
 (some false)
def ry(d:bg):Option Bool :=
 ab (decide ((d.a4.length:Int) > 20))
 (some true)
 (some (decide ((d.aN.length:Int) > 20)))
def n8(d:de):Option Bool :=
 (en d.aQ (-20) 20).bind λ f =>
 ab f
 ((en d.aZ (-20) 20).bind λ g =>
 some g)
 (some false)
def n9(d:bg)(x1:Int):Option Bool :=
 (en x1 0 (i64 ((d.a4.length:Int) - 1))).bind λ f =>
 some f
def rz(d:bg):Option Int :=
 ((((en d.a9 2 7).bind λ A =>
 ab (!A)
 (some true)
 ((en d.bh 2 7).bind λ B =>
 ab (!B)
 (some true)
 ((en d.a5 0 2).bind λ C =>
 some (!C)))):Option Bool)).bind (λ (y:Bool) =>
 ab y
 (some 1)
 ((en (d.a4.length:Int) 1 3).bind λ D =>
 ab (!D)
 (some 2)
 ((a1 (O:=(Unit ⊕ Int)) (λ (f:Int) =>
 ab (decide (f < (d.a4.length:Int)))
 ((idx d.a4 f).bind λ m =>
 (jz m (-3) 3).bind λ E =>
 ab (!E)
 (some (.inr (.inr 1)))
 (ab (decide (i64 (m.ak - m.ai) ≥ 3))
 (some (.inr (.inr 1)))
 (some (.inl (i64 (f+1))))))
 (some (.inr (.inl ())))) 0).bind (Sum.elim (λ (_:Unit) =>
 ab (decide ((d.aN.length:Int) > 5))
 (some 2)
 ((a1 (O:=(Unit ⊕ Int)) (λ (g:Int) =>
 ab (decide (g < (d.aN.length:Int)))
 ((idx d.aN g).bind λ s =>
 ((((n8 s.U).bind λ F =>
 ab (!F)
 (some true)
 ((en s.dS 0 7).bind λ G =>
 some (!G))):Option Bool)).bind (λ (z:Bool) =>
 ab z
 (some (.inr (.inr 1)))
 ((n9 d s.cz).bind λ H =>
 ab (!H)
 (some (.inr (.inr 6)))
 (some (.inl (i64 (g+1)))))))
 (some (.inr (.inl ())))) 0).bind (Sum.elim (λ (_:Unit) =>
 some 0)
  (λ q=>some q))))
  (λ q=>some q)))))
def m5(d:bg):Option Bool :=
 (ry d).bind λ f =>
 ab (!f)
 ((rz d).bind λ g =>
 some (g == 0))
 (some false)
def lf(d:Int)(x1:Int):Option Reach :=
 some (⟨d,x1⟩:Reach)
def lg(d:Int):Option Reach :=
 (lf d d).bind λ f =>
 some f
def pH  : Option an :=
 (lf 20 21).bind λ d =>
 (lg 30).bind λ f =>
 (lg 10).bind λ g =>
 some (⟨62,⟨0,0⟩,[(⟨⟨#[103,117,110]⟩,(-3),⟨d.ai,d.ak⟩,[]⟩:cA),(⟨⟨#[99,104,101,115,116]⟩,2,⟨f.ai,f.ak⟩,[]⟩:cA),(⟨⟨#[97,110,99,104,111,114]⟩,1,⟨g.ai,g.ak⟩,[0]⟩:cA)],[],[]⟩:an)
def lb(d:an)(x1:bU):Option an :=
 (cu [] d.aV).bind λ f =>
 (cu f [x1]).bind λ g =>
 some (⟨d.ax,⟨d.ad.ai,d.ad.ak⟩,d.ao,d.Out,g⟩:an)
def nQ(d:an)(x1:Int):Option an :=
 (cu [] d.Out).bind λ f =>
 (cu f [x1]).bind λ g =>
 some (⟨d.ax,⟨d.ad.ai,d.ad.ak⟩,d.ao,g,d.aV⟩:an)
def j9(d:Reach)(x1:Int)(x2:Int)(x3:Int):Option Bool :=
 ab (decide (x1≤d.ai))
 (ab (decide (d.ai≤d.ak))
 (ab (decide (d.ak≤x2))
 (some (decide (i64 (d.ak - d.ai) < x3)))
 (some false))
 (some false))
 (some false)
def gd(d:Int)(x1:Int)(x2:Int):Option Bool :=
 ab (decide (x1≤d))
 (some (decide (d≤x2)))
 (some false)
def my(d:an):Option Int :=
 (gd d.ax 0 9999).bind λ f =>
 ab (!f)
 (some 1)
 ((j9 d.ad (-999) 999 3).bind λ g =>
 ab (!g)
 (some 1)
 (some 0))
def j7(f:(List Int))(x1:Int):Option Int :=
 (a1 (O:=(Unit ⊕ Int)) (λ (d:Int) =>
 ab (decide (d < (f.length:Int)))
 ((idx f d).bind λ g =>
 (gd g 0 (i64 (x1 - 1))).bind λ m =>
 ab (!m)
 (some (.inr (.inr 6)))
 (ab (decide (d > 0))
 ((idx f (i64 (d - 1))).bind λ s =>
 ab (decide (g≤s))
 (some (.inr (.inr 7)))
 (some (.inl (i64 (d+1)))))
 (some (.inl (i64 (d+1))))))
 (some (.inr (.inl ())))) 0).bind (Sum.elim (λ (_:Unit) =>
 some 0)
  (λ q=>some q))
def mC(f:ByteArray):Option Bool :=
 (a1 (O:=(Unit ⊕ Bool)) (λ (d:Int) =>
 ab (decide (d < ((ee f).length:Int)))
 ((idx (ee f) d).bind λ g =>
 (gd (i64 g) 97 122).bind λ m =>
 ab (!m)
 (ab (d == 0)
 (some (.inr (.inr false)))
 ((gd (i64 g) 48 57).bind λ s =>
 ab (!s)
 (some (.inr (.inr false)))
 (some (.inl (i64 (d+1))))))
 (some (.inl (i64 (d+1)))))
 (some (.inr (.inl ())))) 0).bind (Sum.elim (λ (_:Unit) =>
 (gd (f.size:Int) 1 12).bind λ y =>
 some y)
  (λ q=>some q))
def nP(f:(List cA))(x1:(cA→Option Bool)):Option Int :=
 (a1 (O:=(Unit ⊕ Int)) (λ (d:Int) =>
 ab (decide (d < (f.length:Int)))
 ((idx f d).bind λ g =>
 (x1 g).bind λ m =>
 ab m
 (some (.inr (.inr d)))
 (some (.inl (i64 (d+1)))))
 (some (.inr (.inl ())))) 0).bind (Sum.elim (λ (_:Unit) =>
 some (-1))
  (λ q=>some q))
def mD(d:(List cA))(x1:(cA→Option Bool)):Option Bool :=
 (nP d x1).bind λ f =>
 some (decide (f ≥ 0))
def mE(d:cA)(x1:cA):Option Bool :=
 some (d.Name.toList == x1.Name.toList)
def mz(g:an):Option Int :=
 (gd (g.ao.length:Int) 1 5).bind λ z =>
 ab (!z)
 (some 2)
 ((a1 (O:=(Unit ⊕ Int)) (λ (d:Int) =>
 ab (decide (d < (g.ao.length:Int)))
 ((idx g.ao d).bind λ f =>
 (mC f.Name).bind λ A =>
 ab (!A)
 (some (.inr (.inr 4)))
 ((fw g.ao 0 d).bind λ B =>
 (mD B (λ y=>mE y f)).bind λ C =>
 ab C
 (some (.inr (.inr 5)))
 (((((gd f.dR (-9) 9).bind λ D =>
 ab (!D)
 (some true)
 ((j9 f.Weight 1 99 3).bind λ E =>
 some (!E))):Option Bool)).bind (λ (s:Bool) =>
 ab s
 (some (.inr (.inr 1)))
 ((j7 f.On d).bind λ m =>
 ab (m != 0)
 (some (.inr (.inr m)))
 (some (.inl (i64 (d+1)))))))))
 (some (.inr (.inl ())))) 0).bind (Sum.elim (λ (_:Unit) =>
 some 0)
  (λ q=>some q)))
def e9(m:(List Bool))(x1:(List Int)):Option (List Bool) :=
 (a1 (O:=(List Bool)) (λ (d:(Int × (List Bool))) =>
 ab (decide (d.1 < (x1.length:Int)))
 ((idx x1 d.1).bind λ f =>
 (idx d.2 f).bind λ _ =>
 some (.inl (i64 (d.1+1),d.2.set f.toNat true)))
 (some (.inr d.2))) (0,m)).bind (λ (g:(List Bool)) =>
 some g)
def jA(d:an)(x1:Int):Option Bool :=
 (gd x1 0 (i64 ((d.ao.length:Int) - 1))).bind λ f =>
 some f
def nJ(f:(List Int))(x1:(Int→Option Bool)):Option Int :=
 (a1 (O:=(Unit ⊕ Int)) (λ (d:Int) =>
 ab (decide (d < (f.length:Int)))
 ((idx f d).bind λ g =>
 (x1 g).bind λ m =>
 ab m
 (some (.inr (.inr d)))
 (some (.inl (i64 (d+1)))))
 (some (.inr (.inl ())))) 0).bind (Sum.elim (λ (_:Unit) =>
 some (-1))
  (λ q=>some q))
def kN(d:(List Int))(x1:(Int→Option Bool)):Option Bool :=
 (nJ d x1).bind λ f =>
 some (decide (f ≥ 0))
def nO(f:(List Int))(x1:Int):Option Int :=
 (a1 (O:=(Unit ⊕ Int)) (λ (d:Int) =>
 ab (decide (d < (f.length:Int)))
 ((idx f d).bind λ g =>
 ab (x1 == g)
 (some (.inr (.inr d)))
 (some (.inl (i64 (d+1)))))
 (some (.inr (.inl ())))) 0).bind (Sum.elim (λ (_:Unit) =>
 some (-1))
  (λ q=>some q))
def mn(d:(List Int))(x1:Int):Option Bool :=
 (nO d x1).bind λ f =>
 some (decide (f ≥ 0))
def mi(f:an)(x1:Int):Option (List Int) :=
 (a1 (O:=(List Int)) (λ (d:((List Int) × Int)) =>
 ab (decide (d.2 < (f.ao.length:Int)))
 ((idx f.ao d.2).bind λ m =>
 (mn m.On x1).bind λ s =>
 ab s
 ((cu d.1 [d.2]).bind λ y =>
 some (.inl (y,i64 (d.2+1))))
 (some (.inl (d.1,i64 (d.2+1)))))
 (some (.inr d.1))) ([],0)).bind (λ (g:(List Int)) =>
 some g)
def mj(d:Int)(x1:(List Bool)):Option Bool :=
 (idx x1 d).bind λ f =>
 some (!f)
def j0(d:an)(x1:(List Bool))(x2:Int):Option Bool :=
 (idx x1 x2).bind λ f =>
 ab (!f)
 ((mi d x2).bind λ g =>
 (kN g (λ y=>mj y x1)).bind λ m =>
 some (!m))
 (some false)
def j8(g:an)(x1:(List Bool))(x2:(List Int)):Option ((List Bool) × Int) :=
 (a1 (O:=((List Bool) ⊕ ((List Bool) × Int))) (λ (d:(Int × (List Bool))) =>
 ab (decide (d.1 < (x2.length:Int)))
 ((idx x2 d.1).bind λ f =>
 (jA g f).bind λ s =>
 ab (!s)
 (some (.inr (.inr (d.2,6))))
 ((idx d.2 f).bind λ y =>
 ab y
 (some (.inr (.inr (d.2,5))))
 ((j0 g d.2 f).bind λ z =>
 ab (!z)
 (some (.inr (.inr (d.2,7))))
 ((e9 d.2 [f]).bind λ A =>
 some (.inl (i64 (d.1+1),A))))))
 (some (.inr (.inl d.2)))) (0,x1)).bind (Sum.elim (λ (m:(List Bool)) =>
 some (m,0))
  (λ q=>some q))
def mA(d:an):Option Int :=
 (j8 d [false,false,false,false,false] d.Out).bind λ f =>
 some f.2
def mB(g:an):Option Int :=
 ab (decide ((g.aV.length:Int) > 4))
 (some 2)
 ((a1 (O:=(Unit ⊕ Int)) (λ (f:Int) =>
 ab (decide (f < (g.aV.length:Int)))
 ((idx g.aV f).bind λ d =>
 (gd d.cT 0 (g.Out.length:Int)).bind λ m =>
 ab (!m)
 (some (.inr (.inr 6)))
 (ab (d.dZ == 0)
 (ab (d.dZ == 0)
 (some (.inl (i64 (f+1))))
 (some (.inr (.inr 1))))
 (ab (d.dZ == 1)
 (ab (d.dZ == 1)
 (some (.inl (i64 (f+1))))
 (some (.inr (.inr 1))))
 (ab (d.dZ == 2)
 (some (.inl (i64 (f+1))))
 (some (.inr (.inr 1)))))))
 (some (.inr (.inl ())))) 0).bind (Sum.elim (λ (_:Unit) =>
 some 0)
  (λ q=>some q)))
def gF(d:an):Option Int :=
 (my (⟨d.ax,⟨d.ad.ai,d.ad.ak⟩,d.ao,d.Out,d.aV⟩:an)).bind λ f =>
 ab (f != 0)
 (some f)
 ((mz (⟨d.ax,⟨d.ad.ai,d.ad.ak⟩,d.ao,d.Out,d.aV⟩:an)).bind λ g =>
 ab (g != 0)
 (some g)
 ((mA (⟨d.ax,⟨d.ad.ai,d.ad.ak⟩,d.ao,d.Out,d.aV⟩:an)).bind λ m =>
 ab (m != 0)
 (some m)
 ((mB (⟨d.ax,⟨d.ad.ai,d.ad.ak⟩,d.ao,d.Out,d.aV⟩:an)).bind λ s =>
 ab (s != 0)
 (some s)
 (some 0))))
def nD(d:Int):Option Bool :=
 (gd d 0 99).bind λ f =>
 some (!f)
def m64(d:an)(x1:dq):Option (bm × Int) :=
 (gd x1.ad (-999) 999).bind λ f =>
 ab (!f)
 (some ((⟨0,[0,0,0,0,0]⟩:bm),1))
 (ab ((x1.eJ.length:Int) != (d.ao.length:Int))
 (some ((⟨0,[0,0,0,0,0]⟩:bm),2))
 ((kN x1.eJ (λ y=>nD y)).bind λ g =>
 ab g
 (some ((⟨0,[0,0,0,0,0]⟩:bm),1))
 (some ((⟨x1.ad,c8 [0,0,0,0,0] x1.eJ⟩:bm),0))))
def nR(d:an)(x1:dq)(x2:(List Int)):Option (Int × Int) :=
 (gF d).bind λ g =>
 ab (g != 0)
 (some (0,g))
 ((m64 d x1).bind λ f =>
 ab (f.2 != 0)
 (some (0,f.2))
 ((j7 x2 (d.ao.length:Int)).bind λ m =>
 ab (m != 0)
 (some (0,m))
 ((e9 [false,false,false,false,false] x2).bind λ s =>
 (hj d f.1 s).bind λ y =>
 some (y,0))))
def jB(d:an)(x1:Int):Option Bool :=
 some (decide (cy x1 [i64 (0 - x1)] > d.ax))
def nN(f:(List bU))(x1:(bU→Option Bool)):Option Int :=
 (a1 (O:=(Unit ⊕ Int)) (λ (d:Int) =>
 ab (decide (d < (f.length:Int)))
 ((idx f d).bind λ g =>
 (x1 g).bind λ m =>
 ab m
 (some (.inr (.inr d)))
 (some (.inl (i64 (d+1)))))
 (some (.inr (.inl ())))) 0).bind (Sum.elim (λ (_:Unit) =>
 some (-1))
  (λ q=>some q))
def mg(d:(List bU))(x1:(bU→Option Bool)):Option Bool :=
 (nN d x1).bind λ f =>
 some (decide (f ≥ 0))
def mh(d:Int):Option Int :=
 ab (decide (d > 0))
 (some 2)
 (ab (decide (d < 0))
 (some 1)
 (some 0))
def kS(d:bU)(x1:Int)(x2:Int):Option Bool :=
 ab (d.cT == x1)
 ((mh x2).bind λ f =>
 some (d.dZ != f))
 (some false)
def kO(d:an)(x1:bm):Option Bool :=
 (a1 (O:=(Unit ⊕ Bool)) (λ (f:Int) =>
 ab (decide (f < i64 ((d.Out.length:Int)+1)))
 ((fw d.Out 0 f).bind λ z =>
 (e9 [false,false,false,false,false] z).bind λ A =>
 (hj d x1 A).bind λ g =>
 (jB d g).bind λ m =>
 ab m
 (some (.inr (.inr false)))
 ((mg d.aV (λ y=>kS y f g)).bind λ s =>
 ab s
 (some (.inr (.inr false)))
 (some (.inl (i64 (f+1))))))
 (some (.inr (.inl ())))) 0).bind (Sum.elim (λ (_:Unit) =>
 some true)
  (λ q=>some q))
def iQ{S:Type}(ys:bm→S→Option (S × Bool)):Nat→bm→Int→an→S→Option (S × Bool)
 | 0,_,_,_,_=>none
 | k+1,f,x1,x2,g =>
  ab (x1 == (x2.ao.length:Int))
  (((((kO x2 f).bind λ B =>
  ab (!B)
  (some (g,true))
  ((ys f g).bind λ y =>
  some (y.1,y.2))):Option (S × Bool))).bind (λ (s:(S × Bool)) =>
  some (s.1,s.2)))
  ((idx x2.ao x1).bind λ z =>
  (a1 (O:=(S ⊕ (S × Bool))) (λ (d:(S × Int × (List Int))) =>
  ab (decide (d.2.1≤z.Weight.ak))
  ((idx d.2.2 x1).bind λ _ =>
  (iQ ys k (⟨f.eb,d.2.2.set x1.toNat d.2.1⟩:bm) (i64 (x1+1)) x2 d.1).bind λ m =>
  ab (!m.2)
  (some (.inr (.inr (m.1,false))))
  (some (.inl (m.1,i64 (d.2.1+1),d.2.2.set x1.toNat d.2.1))))
  (some (.inr (.inl d.1)))) (g,z.Weight.ai,f.weights)).bind (Sum.elim (λ (A:S) =>
  some (A,true))
   (λ q=>some q)))
def hN{S:Type}(ys:bm→S→Option (S × Bool))(f:an)(s:S):Option S :=
 (a1 (O:=(S ⊕ S)) (λ (d:(S × Int)) =>
  ab (decide (d.2≤f.ad.ak))
  ((iQ ys 9 (⟨d.2,[0,0,0,0,0]⟩:bm) 0 f d.1).bind λ g =>
  ab (!g.2)
  (some (.inr (.inr g.1)))
  (some (.inl (g.1,i64 (d.2+1)))))
  (some (.inr (.inl d.1)))) (s,f.ad.ai)).bind (Sum.elim (λ (m:S) =>
  some m)
   (λ q=>some q))
def iT(d:an):Option (Int × Int) :=
 (gF d).bind λ g =>
 ab (g != 0)
 (some (0,g))
 ((hN (cp (λ (_:bm) (f:Int)=>((some (.inl (i64 (f+1)))):Option (Int ⊕ Empty)))) (⟨d.ax,⟨d.ad.ai,d.ad.ak⟩,d.ao,d.Out,d.aV⟩:an) (.inl 0)).bind (Sum.elim (λ (f:Int) =>
 some (f,0))
  (λ (o:Empty)=>o.elim)))
def nK (x1:(bm→((List bm) ⊕ Empty)→Option (((List bm) ⊕ Empty) × Bool))→((List bm) ⊕ Empty)→Option ((List bm) ⊕ Empty)):Option (List bm) :=
 (x1 (cp (λ (f:bm) (d:(List bm))=>(((cu d [f]).bind λ g =>
 some (.inl g)):Option ((List bm) ⊕ Empty)))) (.inl [])).bind (Sum.elim (λ (d:(List bm)) =>
 some d)
  (λ (o:Empty)=>o.elim))
def me (d:(bm→((List bm) ⊕ Empty)→Option (((List bm) ⊕ Empty) × Bool))→((List bm) ⊕ Empty)→Option ((List bm) ⊕ Empty)):Option (List bm) :=
 (nK d).bind λ f =>
 some f
def gR(d:an)(x1:(an→Option Int)):Option (cN × Int) :=
 (gF d).bind λ f =>
 ab (f != 0)
 (some ((⟨⟨0,⟨0,0⟩,[],[],[]⟩,[],gh⟩:cN),f))
 ((x1 d).bind λ g =>
 ab (g != 0)
 (some ((⟨⟨0,⟨0,0⟩,[],[],[]⟩,[],gh⟩:cN),g))
 ((me (λ y s=>hN y d s)).bind λ m =>
 ab ((m.length:Int) == 0)
 (some ((⟨⟨0,⟨0,0⟩,[],[],[]⟩,[],gh⟩:cN),9))
 (some ((⟨⟨d.ax,⟨d.ad.ai,d.ad.ak⟩,d.ao,d.Out,d.aV⟩,m,[]⟩:cN),0))))
def mH(d:an)(x1:Int):Option Int :=
 (jA d x1).bind λ f =>
 ab (!f)
 (some 6)
 (some 0)
def j5(d:Int):Option Bool :=
 some (d != d)
def dV(d:Int)(x1:Int):Option Bool :=
 (j5 d).bind λ f =>
 ab f
 ((j5 x1).bind λ g =>
 ab (!g)
 (some true)
 (some (decide (d < x1))))
 (some (decide (d < x1)))
def kV(z:(List Int))(x1:Int)(x2:Int):Option (List Int) :=
 (a1 (O:=(List Int)) (λ (f:((List Int) × Int)) =>
 ab (decide (f.2 < x2))
 ((a1 (O:=(List Int)) (λ (d:((List Int) × Int)) =>
 (((ab (decide (d.2 > x1))
 ((idx d.1 d.2).bind λ A =>
 (idx d.1 (i64 (d.2 - 1))).bind λ B =>
 (dV A B).bind λ C =>
 some C)
 (some false)):Option Bool)).bind (λ (y:Bool) =>
 ab y
 ((idx d.1 (i64 (d.2 - 1))).bind λ g =>
 (idx d.1 d.2).bind λ D =>
 (idx d.1 d.2).bind λ _ =>
 (idx (d.1.set d.2.toNat g) (i64 (d.2 - 1))).bind λ _ =>
 some (.inl ((d.1.set d.2.toNat g).set (i64 (d.2 - 1)).toNat D,i64 (d.2 - 1))))
 (some (.inr d.1)))) (f.1,f.2)).bind (λ (s:(List Int)) =>
 some (.inl (s,i64 (f.2+1)))))
 (some (.inr f.1))) (z,i64 (x1+1))).bind (λ (m:(List Int)) =>
 some m)
def la(y:(List Int))(x1:Int)(x2:Int)(x3:Int):Option (List Int) :=
 (a1 (O:=((List Int) ⊕ (List Int))) (λ (d:((List Int) × Int)) =>
 ab (decide (i64 ((i64 (2 * d.2))+1) ≥ x2))
 (some (.inr (.inl d.1)))
 ((((ab (decide (i64 ((i64 ((i64 (2 * d.2))+1))+1) < x2))
 ((idx d.1 (i64 (x3+(i64 ((i64 (2 * d.2))+1))))).bind λ z =>
 (idx d.1 (i64 ((i64 (x3+(i64 ((i64 (2 * d.2))+1))))+1))).bind λ A =>
 (dV z A).bind λ B =>
 some B)
 (some false)):Option Bool)).bind (λ (s:Bool) =>
 (((ab s
 (some (i64 ((i64 ((i64 (2 * d.2))+1))+1)))
 (some (i64 ((i64 (2 * d.2))+1)))):Option Int)).bind (λ (f:Int) =>
 (idx d.1 (i64 (x3+d.2))).bind λ C =>
 (idx d.1 (i64 (x3+f))).bind λ D =>
 (dV C D).bind λ E =>
 ab (!E)
 (some (.inr (.inr d.1)))
 ((idx d.1 (i64 (x3+f))).bind λ g =>
 (idx d.1 (i64 (x3+d.2))).bind λ F =>
 (idx d.1 (i64 (x3+d.2))).bind λ _ =>
 (idx (d.1.set (i64 (x3+d.2)).toNat g) (i64 (x3+f))).bind λ _ =>
 some (.inl ((d.1.set (i64 (x3+d.2)).toNat g).set (i64 (x3+f)).toNat F,f))))))) (y,x1)).bind (Sum.elim (λ (m:(List Int)) =>
 some m)
  (λ q=>some q))
def kW(y:(List Int))(x1:Int)(x2:Int):Option (List Int) :=
 (fe (i64 ((i64 (x2 - x1)) - 1)) 2).bind λ B =>
 (a1 (O:=(List Int)) (λ (f:((List Int) × Int)) =>
 ab (decide (f.2 ≥ 0))
 ((la f.1 f.2 (i64 (x2 - x1)) x1).bind λ C =>
 some (.inl (C,i64 (f.2 - 1))))
 (some (.inr f.1))) (y,B)).bind (λ (m:(List Int)) =>
 (a1 (O:=(List Int)) (λ (d:((List Int) × Int)) =>
 ab (decide (d.2 ≥ 0))
 ((idx d.1 (i64 (x1+d.2))).bind λ g =>
 (idx d.1 x1).bind λ z =>
 (idx d.1 x1).bind λ _ =>
 (idx (d.1.set x1.toNat g) (i64 (x1+d.2))).bind λ _ =>
 (la ((d.1.set x1.toNat g).set (i64 (x1+d.2)).toNat z) 0 d.2 x1).bind λ A =>
 some (.inl (A,i64 (d.2 - 1))))
 (some (.inr d.1))) (m,i64 ((i64 (x2 - x1)) - 1))).bind (λ (s:(List Int)) =>
 some s))
def pw(g:Int):Option Int :=
 (((ab (decide (g ≥ 4294967296))
 ((fo .u64 g 32).bind λ s =>
 some (s,32))
 (some (g,0))):Option (Int × Int))).bind (λ (d:(Int × Int)) =>
 (((ab (decide (d.1 ≥ 65536))
 ((fo .u64 d.1 16).bind λ y =>
 some (y,i64 (d.2+16)))
 (some (d.1,d.2))):Option (Int × Int))).bind (λ (f:(Int × Int)) =>
 (((ab (decide (f.1 ≥ 256))
 ((fo .u64 f.1 8).bind λ z =>
 some (z,i64 (f.2+8)))
 (some (f.1,f.2))):Option (Int × Int))).bind (λ (m:(Int × Int)) =>
 (jf (⟨#[0,1,2,2,3,3,3,3,4,4,4,4,4,4,4,4,5,5,5,5,5,5,5,5,5,5,5,5,5,5,5,5,6,6,6,6,6,6,6,6,6,6,6,6,6,6,6,6,6,6,6,6,6,6,6,6,6,6,6,6,6,6,6,6,7,7,7,7,7,7,7,7,7,7,7,7,7,7,7,7,7,7,7,7,7,7,7,7,7,7,7,7,7,7,7,7,7,7,7,7,7,7,7,7,7,7,7,7,7,7,7,7,7,7,7,7,7,7,7,7,7,7,7,7,7,7,7,7,8,8,8,8,8,8,8,8,8,8,8,8,8,8,8,8,8,8,8,8,8,8,8,8,8,8,8,8,8,8,8,8,8,8,8,8,8,8,8,8,8,8,8,8,8,8,8,8,8,8,8,8,8,8,8,8,8,8,8,8,8,8,8,8,8,8,8,8,8,8,8,8,8,8,8,8,8,8,8,8,8,8,8,8,8,8,8,8,8,8,8,8,8,8,8,8,8,8,8,8,8,8,8,8,8,8,8,8,8,8,8,8,8,8,8,8,8,8,8,8,8,8,8,8,8,8,8,8]⟩) (IntKind.wrap .u8 m.1)).bind λ A =>
 some (i64 (m.2+(i64 A))))))
def kT(d:Int):Option Int :=
 (pw d).bind λ f =>
 some f
def mq(d:Int):Option Int :=
 (kT (IntKind.wrap .u64 d)).bind λ f =>
 (fK .u64 1 f).bind λ g =>
 some g
def mv(d:Int):Option (Int × Int) :=
 (fK .u64 d 13).bind λ s =>
 (dB .xor .u64 d s).bind λ f =>
 (fo .u64 f 7).bind λ y =>
 (dB .xor .u64 f y).bind λ g =>
 (fK .u64 g 17).bind λ z =>
 (dB .xor .u64 g z).bind λ m =>
 some (m,m)
def j3(m:(List Int))(x1:Int)(x2:Int):Option (List Int) :=
 ab (decide (i64 (x2 - x1) ≥ 8))
 ((mq (i64 (x2 - x1))).bind λ C =>
 (fe (i64 (x2 - x1)) 4).bind λ D =>
 (a1 (O:=(List Int)) (λ (d:((List Int) × Int × Int)) =>
 (fe (i64 (x2 - x1)) 4).bind λ A =>
 ab (decide (d.2.1≤i64 ((i64 (x1+(i64 (A * 2))))+1)))
 ((mv d.2.2).bind λ s =>
 (dB .and .u64 s.2 (IntKind.wrap .u64 (C - 1))).bind λ g =>
 (((ab (decide (i64 g ≥ i64 (x2 - x1)))
 (some (i64 ((i64 g) - (i64 (x2 - x1)))))
 (some (i64 g))):Option Int)).bind (λ (f:Int) =>
 (idx d.1 (i64 (x1+f))).bind λ y =>
 (idx d.1 d.2.1).bind λ B =>
 (idx d.1 d.2.1).bind λ _ =>
 (idx (d.1.set d.2.1.toNat y) (i64 (x1+f))).bind λ _ =>
 some (.inl ((d.1.set d.2.1.toNat y).set (i64 (x1+f)).toNat B,i64 (d.2.1+1),s.1))))
 (some (.inr d.1))) (m,i64 ((i64 (x1+(i64 (D * 2)))) - 1),IntKind.wrap .u64 (i64 (x2 - x1)))).bind (λ (z:(List Int)) =>
 some z))
 (some m)
def h9(d:(List Int))(x1:Int)(x2:Int)(x3:Int):Option (Int × Int × Int) :=
 (idx d x2).bind λ f =>
 (idx d x1).bind λ g =>
 (dV f g).bind λ m =>
 ab m
 (some (i64 (x3+1),x2,x1))
 (some (x3,x1,x2))
def iS(d:(List Int))(x1:Int)(x2:Int)(x3:Int)(x4:Int):Option (Int × Int) :=
 (h9 d x1 x2 x4).bind λ f =>
 (h9 d f.2.2 x3 f.1).bind λ g =>
 (h9 d f.2.1 g.2.1 g.1).bind λ m =>
 some (m.1,m.2.2)
def h8(f:(List Int))(x1:Int)(x2:Int):Option (Int × Int) :=
 (iS f (i64 (x1 - 1)) x1 (i64 (x1+1)) x2).bind λ d =>
 some (d.1,d.2)
def kY(f:(List Int))(x1:Int)(x2:Int):Option (Int × Int) :=
 (fe (i64 (x2 - x1)) 4).bind λ m =>
 (fe (i64 (x2 - x1)) 4).bind λ g =>
 (fe (i64 (x2 - x1)) 4).bind λ s =>
 (((ab (decide (i64 (x2 - x1) ≥ 8))
 (ab (decide (i64 (x2 - x1) ≥ 50))
 ((h8 f (i64 (x1+(i64 (m * 1)))) 0).bind λ y =>
 (h8 f (i64 (x1+(i64 (g * 2)))) y.1).bind λ z =>
 (h8 f (i64 (x1+(i64 (s * 3)))) z.1).bind λ A =>
 (iS f y.2 z.2 A.2 A.1).bind λ B =>
 some (B.2,B.1))
 ((iS f (i64 (x1+(i64 (m * 1)))) (i64 (x1+(i64 (g * 2)))) (i64 (x1+(i64 (s * 3)))) 0).bind λ C =>
 some (C.2,C.1)))
 (some (i64 (x1+(i64 (g * 2))),0))):Option (Int × Int))).bind (λ (d:(Int × Int)) =>
 ab (d.2 == 0)
 (some (d.1,1))
 (ab (d.2 == 12)
 (some (d.1,2))
 (some (d.1,0))))
def j4(m:(List Int))(x1:Int)(x2:Int):Option (List Int) :=
 (a1 (O:=(List Int)) (λ (d:((List Int) × Int × Int)) =>
 ab (decide (d.2.1 < d.2.2))
 ((idx d.1 d.2.2).bind λ f =>
 (idx d.1 d.2.1).bind λ s =>
 (idx d.1 d.2.1).bind λ _ =>
 (idx (d.1.set d.2.1.toNat f) d.2.2).bind λ _ =>
 some (.inl ((d.1.set d.2.1.toNat f).set d.2.2.toNat s,i64 (d.2.1+1),i64 (d.2.2 - 1))))
 (some (.inr d.1))) (m,x1,i64 (x2 - 1))).bind (λ (g:(List Int)) =>
 some g)
def jw(G:(List Int))(x1:Int)(x2:Int):Option ((List Int) × Bool) :=
 (a1 (O:=((List Int) ⊕ ((List Int) × Bool))) (λ (m:((List Int) × Int × Int)) =>
 ab (decide (m.2.2 < 5))
 ((a1 (O:=Int) (λ (s:Int) =>
 ab (decide (s < x2))
 ((idx m.1 s).bind λ Q =>
 (idx m.1 (i64 (s - 1))).bind λ R =>
 (dV Q R).bind λ S =>
 ab (!S)
 (some (.inl (i64 (s+1))))
 (some (.inr s)))
 (some (.inr s))) m.2.1).bind (λ (g:Int) =>
 ab (g == x2)
 (some (.inr (.inr (m.1,true))))
 (ab (decide (i64 (x2 - x1) < 50))
 (some (.inr (.inr (m.1,false))))
 ((idx m.1 (i64 (g - 1))).bind λ y =>
 (idx m.1 g).bind λ C =>
 (idx m.1 g).bind λ _ =>
 (idx (m.1.set g.toNat y) (i64 (g - 1))).bind λ _ =>
 (((ab (decide (i64 (g - x1) ≥ 2))
 ((a1 (O:=(List Int)) (λ (f:((List Int) × Int)) =>
 ab (decide (f.2 ≥ 1))
 ((idx f.1 f.2).bind λ H =>
 (idx f.1 (i64 (f.2 - 1))).bind λ I =>
 (dV H I).bind λ J =>
 ab (!J)
 (some (.inr f.1))
 ((idx f.1 (i64 (f.2 - 1))).bind λ A =>
 (idx f.1 f.2).bind λ K =>
 (idx f.1 f.2).bind λ _ =>
 (idx (f.1.set f.2.toNat A) (i64 (f.2 - 1))).bind λ _ =>
 some (.inl ((f.1.set f.2.toNat A).set (i64 (f.2 - 1)).toNat K,i64 (f.2 - 1)))))
 (some (.inr f.1))) ((m.1.set g.toNat y).set (i64 (g - 1)).toNat C,i64 (g - 1))).bind (λ (F:(List Int)) =>
 some F))
 (some ((m.1.set g.toNat y).set (i64 (g - 1)).toNat C))):Option (List Int))).bind (λ (z:(List Int)) =>
 ab (decide (i64 (x2 - g) ≥ 2))
 ((a1 (O:=(List Int)) (λ (d:((List Int) × Int)) =>
 ab (decide (d.2 < x2))
 ((idx d.1 d.2).bind λ L =>
 (idx d.1 (i64 (d.2 - 1))).bind λ M =>
 (dV L M).bind λ N =>
 ab (!N)
 (some (.inr d.1))
 ((idx d.1 (i64 (d.2 - 1))).bind λ B =>
 (idx d.1 d.2).bind λ P =>
 (idx d.1 d.2).bind λ _ =>
 (idx (d.1.set d.2.toNat B) (i64 (d.2 - 1))).bind λ _ =>
 some (.inl ((d.1.set d.2.toNat B).set (i64 (d.2 - 1)).toNat P,i64 (d.2+1)))))
 (some (.inr d.1))) (z,i64 (g+1))).bind (λ (D:(List Int)) =>
 some (.inl (D,g,i64 (m.2.2+1)))))
 (some (.inl (z,g,i64 (m.2.2+1)))))))))
 (some (.inr (.inl m.1)))) (G,i64 (x1+1),0)).bind (Sum.elim (λ (E:(List Int)) =>
 some (E,false))
  (λ q=>some q))
def kZ(y:(List Int))(x1:Int)(x2:Int)(x3:Int):Option ((List Int) × Int) :=
 (idx y x3).bind λ A =>
 (idx y x1).bind λ C =>
 (idx y x1).bind λ _ =>
 (idx (y.set x1.toNat A) x3).bind λ _ =>
 (a1 (O:=((List Int) × Int)) (λ (d:((List Int) × Int × Int)) =>
 (a1 (O:=Int) (λ (m:Int) =>
 ab (decide (m≤d.2.2))
 ((idx d.1 x1).bind λ D =>
 (idx d.1 m).bind λ E =>
 (dV D E).bind λ F =>
 ab (!F)
 (some (.inl (i64 (m+1))))
 (some (.inr m)))
 (some (.inr m))) d.2.1).bind (λ (f:Int) =>
 (a1 (O:=Int) (λ (s:Int) =>
 ab (decide (f≤s))
 ((idx d.1 x1).bind λ G =>
 (idx d.1 s).bind λ H =>
 (dV G H).bind λ I =>
 ab I
 (some (.inl (i64 (s - 1))))
 (some (.inr s)))
 (some (.inr s))) d.2.2).bind (λ (g:Int) =>
 ab (decide (f > g))
 (some (.inr (d.1,f)))
 ((idx d.1 g).bind λ B =>
 (idx d.1 f).bind λ J =>
 (idx d.1 f).bind λ _ =>
 (idx (d.1.set f.toNat B) g).bind λ _ =>
 some (.inl ((d.1.set f.toNat B).set g.toNat J,i64 (f+1),i64 (g - 1))))))) ((y.set x1.toNat A).set x3.toNat C,i64 (x1+1),i64 (x2 - 1))).bind (λ (z:((List Int) × Int)) =>
 some (z.1,z.2))
def k0(d:(List Int))(x1:Int)(x2:Int)(x3:Int):Option ((List Int) × Int × Bool) :=
 (idx d x3).bind λ f =>
 (idx d x1).bind λ g =>
 (idx d x1).bind λ _ =>
 (idx (d.set x1.toNat f) x3).bind λ _ =>
 (a1 (O:=Int) (λ (C:Int) =>
 ab (decide (C≤i64 (x2 - 1)))
 ((idx ((d.set x1.toNat f).set x3.toNat g) C).bind λ K =>
 (idx ((d.set x1.toNat f).set x3.toNat g) x1).bind λ L =>
 (dV K L).bind λ M =>
 ab M
 (some (.inl (i64 (C+1))))
 (some (.inr C)))
 (some (.inr C))) (i64 (x1+1))).bind (λ (z:Int) =>
 (a1 (O:=Int) (λ (D:Int) =>
 ab (decide (z≤D))
 ((idx ((d.set x1.toNat f).set x3.toNat g) D).bind λ N =>
 (idx ((d.set x1.toNat f).set x3.toNat g) x1).bind λ P =>
 (dV N P).bind λ Q =>
 ab (!Q)
 (some (.inl (i64 (D - 1))))
 (some (.inr D)))
 (some (.inr D))) (i64 (x2 - 1))).bind (λ (s:Int) =>
 ab (decide (z > s))
 ((idx ((d.set x1.toNat f).set x3.toNat g) x1).bind λ G =>
 (idx ((d.set x1.toNat f).set x3.toNat g) s).bind λ R =>
 (idx ((d.set x1.toNat f).set x3.toNat g) s).bind λ _ =>
 (idx (((d.set x1.toNat f).set x3.toNat g).set s.toNat G) x1).bind λ _ =>
 some ((((d.set x1.toNat f).set x3.toNat g).set s.toNat G).set x1.toNat R,s,true))
 ((idx ((d.set x1.toNat f).set x3.toNat g) s).bind λ H =>
 (idx ((d.set x1.toNat f).set x3.toNat g) z).bind λ S =>
 (idx ((d.set x1.toNat f).set x3.toNat g) z).bind λ _ =>
 (idx (((d.set x1.toNat f).set x3.toNat g).set z.toNat H) s).bind λ _ =>
 (a1 (O:=((List Int) × Int)) (λ (m:((List Int) × Int × Int)) =>
 (a1 (O:=Int) (λ (E:Int) =>
 ab (decide (E≤m.2.2))
 ((idx m.1 E).bind λ T =>
 (idx m.1 x1).bind λ V =>
 (dV T V).bind λ W =>
 ab W
 (some (.inl (i64 (E+1))))
 (some (.inr E)))
 (some (.inr E))) m.2.1).bind (λ (A:Int) =>
 (a1 (O:=Int) (λ (F:Int) =>
 ab (decide (A≤F))
 ((idx m.1 F).bind λ Y =>
 (idx m.1 x1).bind λ Z =>
 (dV Y Z).bind λ aa =>
 ab (!aa)
 (some (.inl (i64 (F - 1))))
 (some (.inr F)))
 (some (.inr F))) m.2.2).bind (λ (B:Int) =>
 ab (decide (A > B))
 (some (.inr (m.1,B)))
 ((idx m.1 B).bind λ I =>
 (idx m.1 A).bind λ ac =>
 (idx m.1 A).bind λ _ =>
 (idx (m.1.set A.toNat I) B).bind λ _ =>
 some (.inl ((m.1.set A.toNat I).set B.toNat ac,i64 (A+1),i64 (B - 1))))))) ((((d.set x1.toNat f).set x3.toNat g).set z.toNat H).set s.toNat S,i64 (z+1),i64 (s - 1))).bind (λ (y:((List Int) × Int)) =>
 (idx y.1 x1).bind λ J =>
 (idx y.1 y.2).bind λ ad =>
 (idx y.1 y.2).bind λ _ =>
 (idx (y.1.set y.2.toNat J) x1).bind λ _ =>
 some ((y.1.set y.2.toNat J).set x1.toNat ad,y.2,false)))))
def iR:Nat→(List Int)→Int→Int→Int→Option (List Int)
 | 0,_,_,_,_=>none
 | k+1,E,x1,x2,x3 =>
  (a1 (O:=(List Int)) (λ (d:((List Int) × Int × Int × Int × Bool × Bool)) =>
  ab (decide (i64 (d.2.2.1 - d.2.1)≤12))
  ((kV d.1 d.2.1 d.2.2.1).bind λ F =>
  some (.inr F))
  (ab (d.2.2.2.1 == 0)
  ((kW d.1 d.2.1 d.2.2.1).bind λ G =>
  some (.inr G))
  ((((ab (!d.2.2.2.2.1)
  ((j3 d.1 d.2.1 d.2.2.1).bind λ H =>
  some (H,i64 (d.2.2.2.1 - 1)))
  (some (d.1,d.2.2.2.1))):Option ((List Int) × Int))).bind (λ (g:((List Int) × Int)) =>
  (kY g.1 d.2.1 d.2.2.1).bind λ y =>
  (((ab (y.2 == 2)
  ((j4 g.1 d.2.1 d.2.2.1).bind λ I =>
  some (I,i64 ((i64 (d.2.2.1 - 1)) - (i64 (y.1 - d.2.1))),1))
  (some (g.1,y.1,y.2))):Option ((List Int) × Int × Int))).bind (λ (m:((List Int) × Int × Int)) =>
  (((ab d.2.2.2.2.1
  (ab d.2.2.2.2.2
  (some (m.2.2 == 1))
  (some false))
  (some false)):Option Bool)).bind (λ (C:Bool) =>
  (((ab C
  ((jw m.1 d.2.1 d.2.2.1).bind λ z =>
  ab z.2
  (some (.inr z.1))
  (some (.inl z.1)))
  (some (.inl m.1))):Option ((List Int) ⊕ (List Int)))).bind (Sum.elim (λ (s:(List Int)) =>
  (((ab (decide (d.2.1 > 0))
  ((idx s (i64 (d.2.1 - 1))).bind λ J =>
  (idx s m.2.1).bind λ K =>
  (dV J K).bind λ L =>
  some (!L))
  (some false)):Option Bool)).bind (λ (D:Bool) =>
  ab D
  ((kZ s d.2.1 d.2.2.1 m.2.1).bind λ A =>
  some (.inl (A.1,A.2,d.2.2.1,g.2,d.2.2.2.2.1,d.2.2.2.2.2)))
  ((k0 s d.2.1 d.2.2.1 m.2.1).bind λ f =>
  (fe (i64 (d.2.2.1 - d.2.1)) 8).bind λ B =>
  ab (decide (i64 (f.2.1 - d.2.1) < i64 (d.2.2.1 - f.2.1)))
  ((iR k f.1 d.2.1 f.2.1 g.2).bind λ M =>
  some (.inl (M,i64 (f.2.1+1),d.2.2.1,g.2,decide (i64 (f.2.1 - d.2.1) ≥ B),f.2.2)))
  ((iR k f.1 (i64 (f.2.1+1)) d.2.2.1 g.2).bind λ N =>
  some (.inl (N,d.2.1,f.2.1,g.2,decide (i64 (d.2.2.1 - f.2.1) ≥ B),f.2.2))))))
   (λ q=>some (.inr q))))))))) (E,x1,x2,x3,true,true)).bind (λ q=>some q)
def kP(d:(List Int)):Option (List Int) :=
 (kT (IntKind.wrap .u64 (d.length:Int))).bind λ f =>
 (iR 12 d 0 (d.length:Int) f).bind λ g =>
 some g
def kQ(g:(List Int)):Option (List Int) :=
 ab (decide ((g.length:Int) < 2))
 (some g)
 ((a1 (O:=(Unit ⊕ (List Int))) (λ (f:Int) =>
 ab (decide (f < (g.length:Int)))
 ((idx g f).bind λ s =>
 (idx g (i64 (f - 1))).bind λ y =>
 ab (s == y)
 ((fw g f (g.length:Int)).bind λ _ =>
 (a1 (O:=((List Int) × Int)) (λ (d:((List Int) × Int × Int)) =>
 ab (decide (d.2.2 < ((d.1.drop f.toNat).length:Int)))
 ((idx (d.1.drop f.toNat) d.2.2).bind λ z =>
 (idx (d.1.drop f.toNat) (i64 (d.2.2 - 1))).bind λ A =>
 ab (z != A)
 ((idx (d.1.drop f.toNat) d.2.2).bind λ B =>
 (idx d.1 d.2.1).bind λ _ =>
 some (.inl (d.1.set d.2.1.toNat B,i64 (d.2.1+1),i64 (d.2.2+1))))
 (some (.inl (d.1,d.2.1,i64 (d.2.2+1)))))
 (some (.inr (d.1,d.2.1)))) (g,f,1)).bind (λ (m:((List Int) × Int)) =>
 (fw m.1 m.2 (m.1.length:Int)).bind λ _ =>
 (fw (hD m.1 m.2.toNat) 0 m.2).bind λ C =>
 some (.inr (.inr C))))
 (some (.inl (i64 (f+1)))))
 (some (.inr (.inl ())))) 1).bind (Sum.elim (λ (_:Unit) =>
 some g)
  (λ q=>some q)))
def lp(f:cN)(x1:(bm→Option Int)):Option (List Int) :=
 (a1 (O:=(List Int)) (λ (d:((List Int) × Int)) =>
 ab (decide (d.2 < (f.cW.length:Int)))
 ((idx f.cW d.2).bind λ m =>
 (x1 m).bind λ s =>
 (cu d.1 [s]).bind λ y =>
 some (.inl (y,i64 (d.2+1))))
 (some (.inr d.1))) ([],0)).bind (λ (g:(List Int)) =>
 (kP g).bind λ z =>
 (kQ z).bind λ A =>
 some A)
def mI(d:bm)(x1:Int):Option Int :=
 (idx d.weights x1).bind λ f =>
 some f
def jx(f:an)(x1:Int):Option ((List Int) × Int) :=
 (gR f (λ y=>mH y x1)).bind λ d =>
 ab (d.2 != 0)
 (some ([],d.2))
 ((lp d.1 (λ y=>mI y x1)).bind λ g =>
 some (g,0))
def hL(d:an)(x1:(List Int)):Option Int :=
 (j7 x1 (d.ao.length:Int)).bind λ f =>
 some f
def mJ(d:(List Int)):Option (List Int) :=
 some d
def mK(d:bm)(x1:cN)(x2:(List Int)):Option Int :=
 (e9 [false,false,false,false,false] x2).bind λ f =>
 (hj x1.book d f).bind λ g =>
 some g
def jy(g:an)(x1:(List Int)):Option (Reach × Int) :=
 (mJ x1).bind λ m =>
 (gR g (λ y=>hL y m)).bind λ d =>
 ab (d.2 != 0)
 (some ((⟨0,0⟩:Reach),d.2))
 ((lp d.1 (λ y=>mK y d.1 x1)).bind λ f =>
 (idx f 0).bind λ s =>
 (idx f (i64 ((f.length:Int) - 1))).bind λ z =>
 some ((⟨s,z⟩:Reach),0))
def lq(f:cN)(x1:(bm→Option Bool)):Option Int :=
 (a1 (O:=Int) (λ (d:(Int × Int)) =>
 ab (decide (d.2 < (f.cW.length:Int)))
 ((idx f.cW d.2).bind λ m =>
 (x1 m).bind λ s =>
 ab s
 (some (.inl (i64 (d.1+1),i64 (d.2+1))))
 (some (.inl (d.1,i64 (d.2+1)))))
 (some (.inr d.1))) (0,0)).bind (λ (g:Int) =>
 ab (g == 0)
 (some 2)
 (ab (g == (f.cW.length:Int))
 (some 1)
 (some 0)))
def oa(d:bm)(x1:cN)(x2:(List Int)):Option Bool :=
 (e9 [false,false,false,false,false] x2).bind λ f =>
 (hj x1.book d f).bind λ g =>
 (jB x1.book g).bind λ m =>
 some m
def mF(f:an)(x1:(List Int)):Option (Int × Int) :=
 (mJ x1).bind λ g =>
 (gR f (λ y=>hL y g)).bind λ d =>
 ab (d.2 != 0)
 (some (0,d.2))
 ((lq d.1 (λ y=>oa y d.1 x1)).bind λ m =>
 some (m,0))
def jC(f:an)(x1:(List Bool)):Option (List Int) :=
 (a1 (O:=(List Int)) (λ (d:((List Int) × Int)) =>
 ab (decide (d.2 < (f.ao.length:Int)))
 ((j0 f x1 d.2).bind λ m =>
 ab m
 ((cu d.1 [d.2]).bind λ s =>
 some (.inl (s,i64 (d.2+1))))
 (some (.inl (d.1,i64 (d.2+1)))))
 (some (.inr d.1))) ([],0)).bind (λ (g:(List Int)) =>
 some g)
def nS(d:an):Option ((List Int) × Int) :=
 (gF d).bind λ f =>
 ab (f != 0)
 (some ([],f))
 ((e9 [false,false,false,false,false] d.Out).bind λ g =>
 (jC (⟨d.ax,⟨d.ad.ai,d.ad.ak⟩,d.ao,d.Out,d.aV⟩:an) g).bind λ m =>
 some (m,0))
def gS(_:an):Option Int :=
 some 0
def hf{S:Type}(ys:(List Bool)→S→Option (S × Bool))(x1:an)(x2:(List Int))(s:S):Option S :=
 (e9 [false,false,false,false,false] x1.Out).bind λ y =>
  (a1 (O:=(S ⊕ S)) (λ (d:(S × Int × (List Bool))) =>
  ab (decide (d.2.1 < (x2.length:Int)))
  ((idx x2 d.2.1).bind λ z =>
  (e9 d.2.2 [z]).bind λ g =>
  (ys g d.1).bind λ f =>
  ab (!f.2)
  (some (.inr (.inr f.1)))
  (some (.inl (f.1,i64 (d.2.1+1),g))))
  (some (.inr (.inl d.1)))) (s,0,y)).bind (Sum.elim (λ (m:S) =>
  some m)
   (λ q=>some q))
def jE(d:an)(x1:(List Int)):Option (an × (List Int)) :=
 some (d,x1)
def mL(f:cN)(x1:(List Int)):Option Int :=
 (jE f.book x1).bind λ g =>
 (hf (cp (λ (m:(List Bool)) (d:Int)=>((some (.inl (cy d [fI f.hq m]))):Option (Int ⊕ Empty)))) g.1 g.2 (.inl 0)).bind (Sum.elim (λ (d:Int) =>
 some d)
  (λ (o:Empty)=>o.elim))
def nT(g:an):Option ((List Int) × Int) :=
 (gR g (λ y=>gS y)).bind λ d =>
 ab (d.2 != 0)
 (some ([],d.2))
 ((jD d.1).bind λ B =>
 (e9 [false,false,false,false,false] g.Out).bind λ C =>
 (jC d.1.book C).bind λ m =>
 (a1 (O:=(List Int)) (λ (f:((List Int) × Int)) =>
 ab (decide (f.2 < (m.length:Int)))
 ((idx m f.2).bind λ s =>
 (mL (⟨⟨d.1.book.ax,⟨d.1.book.ad.ai,d.1.book.ad.ak⟩,d.1.book.ao,d.1.book.Out,d.1.book.aV⟩,d.1.cW,B⟩:cN) [s]).bind λ D =>
 ab (decide (D≤g.ax))
 ((cu f.1 [s]).bind λ A =>
 some (.inl (A,i64 (f.2+1))))
 (some (.inl (f.1,i64 (f.2+1)))))
 (some (.inr f.1))) ([],0)).bind (λ (z:(List Int)) =>
 some (z,0)))
def nF(f:(List Int))(x1:(List Int)):Option Bool :=
 (a1 (O:=(Unit ⊕ Bool)) (λ (d:Int) =>
 ab (decide (d < (x1.length:Int)))
 ((((ab (decide (d ≥ (f.length:Int)))
 (some true)
 ((idx f d).bind λ m =>
 (idx x1 d).bind λ s =>
 some (decide (m < s)))):Option Bool)).bind (λ (g:Bool) =>
 ab g
 (some (.inr (.inr true)))
 ((idx f d).bind λ y =>
 (idx x1 d).bind λ z =>
 ab (decide (y > z))
 (some (.inr (.inr false)))
 (some (.inl (i64 (d+1)))))))
 (some (.inr (.inl ())))) 0).bind (Sum.elim (λ (_:Unit) =>
 some false)
  (λ q=>some q))
def pS(d:(List Int))(x1:(List Int)):Option Bool :=
 (nF d x1).bind λ f =>
 ab (!f)
 ((nF x1 d).bind λ g =>
 some (!g))
 (some false)
def m32(d:(List Int))(x1:(List Int)):Option Bool :=
 (pS d x1).bind λ f =>
 some f
def lu(d:an)(x1:(List Int)):Option Int :=
 (e9 [false,false,false,false,false] d.Out).bind λ g =>
 (j8 d g x1).bind λ f =>
 ab (f.2 != 0)
 (some f.2)
 (ab (i64 ((d.Out.length:Int)+(x1.length:Int)) != (d.ao.length:Int))
 (some 2)
 (some 0))
def lx(g:bm)(x1:cN)(x2:(List Int)):Option Bool :=
 (jE x1.book x2).bind λ d =>
 (hf (cp (λ (m:(List Bool)) (_:Unit)=>(((hj x1.book g m).bind λ s =>
 (jB x1.book s).bind λ y =>
 ab y
 (some (.inr ()))
 (some (.inl ()))):Option (Unit ⊕ Unit)))) d.1 d.2 (.inl ())).bind (Sum.elim (λ (_:Unit) =>
 some true)
  (λ (_:Unit) =>
 some false))
def ia(f:an)(x1:(List Int)):Option (Int × Int) :=
 (gR f (λ y=>lu y x1)).bind λ d =>
 ab (d.2 != 0)
 (some (0,d.2))
 ((lq d.1 (λ y=>lx y d.1 x1)).bind λ g =>
 some (g,0))
def iU(d:(List Int)):Option (List Int) :=
 (cu [] d).bind λ f =>
 some f
def j2{S:Type}(ys:(List Int)→S→Option (S × Bool)):Nat→(List Int)→(List Bool)→an→S→Option (S × Bool)
 | 0,_,_,_,_=>none
 | k+1,s,x1,x2,m =>
  (jC x2 x1).bind λ f =>
  ab ((f.length:Int) == 0)
  ((ys s m).bind λ y =>
  some (y.1,y.2))
  ((a1 (O:=(S ⊕ (S × Bool))) (λ (d:(S × Int)) =>
  ab (decide (d.2 < (f.length:Int)))
  ((idx f d.2).bind λ z =>
  (iU s).bind λ B =>
  (cu B [z]).bind λ C =>
  (e9 x1 [z]).bind λ D =>
  (j2 ys k C D x2 d.1).bind λ g =>
  ab (!g.2)
  (some (.inr (.inr (g.1,false))))
  (some (.inl (g.1,i64 (d.2+1)))))
  (some (.inr (.inl d.1)))) (m,0)).bind (Sum.elim (λ (A:S) =>
  some (A,true))
   (λ q=>some q)))
def ig{S:Type}(ys:(List Int)→S→Option (S × Bool))(d:an)(f:S):Option S :=
 (e9 [false,false,false,false,false] d.Out).bind λ g =>
  (j2 ys 9 [] g d f).bind λ m =>
  some m.1
def ib(g:an):Option (Int × Int) :=
 (gR g (λ y=>gS y)).bind λ d =>
 ab (d.2 != 0)
 (some (0,d.2))
 ((jD d.1).bind λ z =>
 (ig (cp (λ (A:(List Int)) (f:Int)=>(((jE d.1.book A).bind λ m =>
 (hf (cp (λ (B:(List Bool)) (_:Unit)=>((ab (decide (fI z B > g.ax))
 (some (.inr ()))
 (some (.inl ()))):Option (Unit ⊕ Unit)))) m.1 m.2 (.inl ())).bind (Sum.elim (λ (_:Unit) =>
 some (.inl (i64 (f+1))))
  (λ (_:Unit) =>
 some (.inl f)))):Option (Int ⊕ Empty)))) d.1.book (.inl 0)).bind (Sum.elim (λ (f:Int) =>
 some (f,0))
  (λ (o:Empty)=>o.elim)))
def nV(f:an):Option ((List Int) × Bool × Int) :=
 (gR f (λ y=>gS y)).bind λ d =>
 ab (d.2 != 0)
 (some ([],false,d.2))
 ((jD d.1).bind λ z =>
 (ig (cp (λ (g:(List Int)) (_:Unit)=>(((mL (⟨⟨d.1.book.ax,⟨d.1.book.ad.ai,d.1.book.ad.ak⟩,d.1.book.ao,d.1.book.Out,d.1.book.aV⟩,d.1.cW,z⟩:cN) g).bind λ A =>
 ab (decide (A≤f.ax))
 (some (.inr g))
 (some (.inl ()))):Option (Unit ⊕ (List Int))))) d.1.book (.inl ())).bind (Sum.elim (λ (_:Unit) =>
 some ([],false,0))
  (λ (m:(List Int)) =>
 some (m,true,0))))
def pU(d:ai)(x1:(List Int))(x2:Int):Option ai :=
 (((ab (!d.some_)
 (some true)
 (some (decide (x2 < d.number)))):Option Bool)).bind (λ (f:Bool) =>
 ab f
 (some (⟨x1,x2,true⟩:ai))
 (some d))
def nW(s:an):Option ((List Int) × Int × Int) :=
 (gR s (λ y=>gS y)).bind λ d =>
 ab (d.2 != 0)
 (some ([],0,d.2))
 ((jD d.1).bind λ z =>
 (ig (cp (λ (m:(List Int)) (f:((List Int) × Int × Bool))=>(((mL (⟨⟨d.1.book.ax,⟨d.1.book.ad.ai,d.1.book.ad.ak⟩,d.1.book.ao,d.1.book.Out,d.1.book.aV⟩,d.1.cW,z⟩:cN) m).bind λ A =>
 (pU (⟨f.1,f.2.1,f.2.2⟩:ai) m A).bind λ g =>
 some (.inl (g.vA,g.number,g.some_))):Option (((List Int) × Int × Bool) ⊕ Empty)))) d.1.book (.inl ([],0,false))).bind (Sum.elim (λ (f:((List Int) × Int × Bool)) =>
 some (f.1,f.2.1,0))
  (λ (o:Empty)=>o.elim)))
def nX(A:an):Option (Int × Int × Int) :=
 (gR A (λ y=>gS y)).bind λ g =>
 ab (g.2 != 0)
 (some (0,0,g.2))
 ((a1 (O:=(Int × Int)) (λ (d:(Int × Int × (Int→Int→Int) × Int)) =>
 ab (decide (d.2.2.2 < (A.ao.length:Int)))
 ((a1 (O:=((Int→Int→Int) × Int)) (λ (f:((Int→Int→Int) × Int × Int)) =>
 ab (decide (f.2.2 < (g.1.cW.length:Int)))
 ((idx g.1.cW f.2.2).bind λ B =>
 (idx B.weights d.2.2.2).bind λ m =>
 some (.inl (lL f.1 d.2.2.2 m (i64 ((f.1 d.2.2.2 m)+1)),cy f.2.1 [(lL f.1 d.2.2.2 m (i64 ((f.1 d.2.2.2 m)+1))) d.2.2.2 m],i64 (f.2.2+1))))
 (some (.inr (f.1,f.2.1)))) (d.2.2.1,0,0)).bind (λ (s:((Int→Int→Int) × Int)) =>
 ab (decide (s.2 < d.2.1))
 (some (.inl (d.2.2.2,s.2,s.1,i64 (d.2.2.2+1))))
 (some (.inl (d.1,d.2.1,s.1,i64 (d.2.2.2+1))))))
 (some (.inr (d.1,d.2.1)))) ((-1),(g.1.cW.length:Int),(λ _ _=>0),0)).bind (λ (z:(Int × Int)) =>
 some (z.1,z.2,0)))
def mN(d:(List bU)):Option (List bU) :=
 (cu [] d).bind λ f =>
 some f
def mO(f:an):Option Bool :=
 (hN (cp (λ (_:bm) (_:Unit)=>((some (.inr ())):Option (Unit ⊕ Unit)))) f (.inl ())).bind (Sum.elim (λ (_:Unit) =>
 some false)
  (λ (_:Unit) =>
 some true))
def mP(d:(List cA)):Option (List cA) :=
 (cu [] d).bind λ f =>
 some f
def mM(d:an):Option (an × Int) :=
 (gF d).bind λ m =>
 ab (m != 0)
 (some ((⟨0,⟨0,0⟩,[],[],[]⟩:an),m))
 ((mO (⟨d.ax,⟨d.ad.ai,d.ad.ak⟩,d.ao,d.Out,d.aV⟩:an)).bind λ A =>
 ab (!A)
 (some ((⟨0,⟨0,0⟩,[],[],[]⟩:an),9))
 ((mP d.ao).bind λ s =>
 (iU d.Out).bind λ B =>
 (mN d.aV).bind λ C =>
 (a1 (O:=(List cA)) (λ (f:((List cA) × Int)) =>
 ab (decide (f.2 < (s.length:Int)))
 ((idx f.1 f.2).bind λ D =>
 (iU D.On).bind λ z =>
 (idx f.1 f.2).bind λ g =>
 some (.inl (f.1.set f.2.toNat (⟨g.Name,g.dR,⟨g.Weight.ai,g.Weight.ak⟩,z⟩:cA),i64 (f.2+1))))
 (some (.inr f.1))) (s,0)).bind (λ (y:(List cA)) =>
 some ((⟨d.ax,⟨d.ad.ai,d.ad.ak⟩,y,B,C⟩:an),0))))
def mG(d:an)(x1:Int):Option (an × Int) :=
 (gF d).bind λ f =>
 ab (f != 0)
 (some ((⟨0,⟨0,0⟩,[],[],[]⟩:an),f))
 ((e9 [false,false,false,false,false] d.Out).bind λ s =>
 (j8 (⟨d.ax,⟨d.ad.ai,d.ad.ak⟩,d.ao,d.Out,d.aV⟩:an) s [x1]).bind λ g =>
 ab (g.2 != 0)
 (some ((⟨0,⟨0,0⟩,[],[],[]⟩:an),g.2))
 ((iU d.Out).bind λ y =>
 (cu y [x1]).bind λ z =>
 (mM (⟨d.ax,⟨d.ad.ai,d.ad.ak⟩,d.ao,z,d.aV⟩:an)).bind λ m =>
 some (m.1,m.2)))
def nY(d:an)(x1:bU):Option (an × Int) :=
 (gF d).bind λ f =>
 ab (f != 0)
 (some ((⟨0,⟨0,0⟩,[],[],[]⟩:an),f))
 ((mN d.aV).bind λ m =>
 (cu m [x1]).bind λ s =>
 (mM (⟨d.ax,⟨d.ad.ai,d.ad.ak⟩,d.ao,d.Out,s⟩:an)).bind λ g =>
 some (g.1,g.2))
def pr(d:Int)(x1:Int):Option Int :=
 (j5 d).bind λ g =>
 (j5 x1).bind λ f =>
 ab g
 (ab f
 (some 0)
 (some (-1)))
 (ab f
 (some 1)
 (ab (decide (d < x1))
 (some (-1))
 (ab (decide (d > x1))
 (some 1)
 (some 0))))
def po(f:(List Int))(x1:(List Int)):Option Int :=
 (a1 (O:=(Unit ⊕ Int)) (λ (d:Int) =>
 ab (decide (d < (f.length:Int)))
 ((idx f d).bind λ m =>
 ab (decide (d ≥ (x1.length:Int)))
 (some (.inr (.inr 1)))
 ((idx x1 d).bind λ s =>
 (pr m s).bind λ g =>
 ab (g != 0)
 (some (.inr (.inr g)))
 (some (.inl (i64 (d+1))))))
 (some (.inr (.inl ())))) 0).bind (Sum.elim (λ (_:Unit) =>
 ab (decide ((f.length:Int) < (x1.length:Int)))
 (some (-1))
 (some 0))
  (λ q=>some q))
def pV(d:(List Int))(x1:(List Int)):Option Bool :=
 ab (decide ((d.length:Int) < (x1.length:Int)))
 (some true)
 (ab ((d.length:Int) == (x1.length:Int))
 ((po d x1).bind λ f =>
 some (decide (f < 0)))
 (some false))
def nZ(f:an):Option ((List Int) × Int) :=
 (gF f).bind λ A =>
 ab (A != 0)
 (some ([],A))
 ((mO f).bind λ C =>
 ab C
 (some ([],0))
 ((fK .i64 1 (f.aV.length:Int)).bind λ D =>
 (a1 (O:=(List (List Int))) (λ (g:((List (List Int)) × Int)) =>
 ab (decide (g.2 < D))
 ((a1 (O:=((List Int) × (List bU))) (λ (d:((List Int) × Int × (List bU))) =>
 ab (decide (d.2.1 < (f.aV.length:Int)))
 ((idx f.aV d.2.1).bind λ E =>
 (fo .i64 g.2 d.2.1).bind λ F =>
 (dB .and .i64 F 1).bind λ G =>
 ab (G == 1)
 ((cu d.1 [d.2.1]).bind λ H =>
 (cu d.2.2 [E]).bind λ I =>
 some (.inl (H,i64 (d.2.1+1),I)))
 (some (.inl (d.1,i64 (d.2.1+1),d.2.2))))
 (some (.inr (d.1,d.2.2)))) ([],0,[])).bind (λ (y:((List Int) × (List bU))) =>
 (mO (⟨f.ax,⟨f.ad.ai,f.ad.ak⟩,f.ao,f.Out,y.2⟩:an)).bind λ J =>
 ab (!J)
 ((cu g.1 [y.1]).bind λ K =>
 some (.inl (K,i64 (g.2+1))))
 (some (.inl (g.1,i64 (g.2+1))))))
 (some (.inr g.1))) ([],0)).bind (λ (s:(List (List Int))) =>
 (idx s 0).bind λ L =>
 (a1 (O:=(List Int)) (λ (m:((List Int) × Int)) =>
 ab (decide (m.2 < (s.length:Int)))
 ((idx s m.2).bind λ B =>
 (pV B m.1).bind λ M =>
 ab M
 (some (.inl (B,i64 (m.2+1))))
 (some (.inl (m.1,i64 (m.2+1)))))
 (some (.inr m.1))) (L,0)).bind (λ (z:(List Int)) =>
 ab ((z.length:Int) == 0)
 (some ([],8))
 (some (z,0))))))
def n0(d:an)(x1:Int)(x2:Reach):Option (an × Int) :=
 (gF d).bind λ m =>
 ab (m != 0)
 (some ((⟨0,⟨0,0⟩,[],[],[]⟩:an),m))
 ((jA (⟨d.ax,⟨d.ad.ai,d.ad.ak⟩,d.ao,d.Out,d.aV⟩:an) x1).bind λ z =>
 ab (!z)
 (some ((⟨0,⟨0,0⟩,[],[],[]⟩:an),6))
 ((j9 x2 1 99 99).bind λ A =>
 ab (!A)
 (some ((⟨0,⟨0,0⟩,[],[],[]⟩:an),1))
 ((idx d.ao x1).bind λ f =>
 ab (decide (cy f.Weight.ai [x2.ai] > gf f.Weight.ak [x2.ak]))
 (some ((⟨0,⟨0,0⟩,[],[],[]⟩:an),9))
 ((mP d.ao).bind λ s =>
 (idx s x1).bind λ g =>
 (mM (⟨d.ax,⟨d.ad.ai,d.ad.ak⟩,s.set x1.toNat (⟨g.Name,g.dR,⟨cy f.Weight.ai [x2.ai],gf f.Weight.ak [x2.ak]⟩,g.On⟩:cA),d.Out,d.aV⟩:an)).bind λ y =>
 some (y.1,y.2)))))
def m6  : Option Bool :=
 (pH).bind λ d =>
 (nQ d 2).bind λ T =>
 (lb T (⟨1,0⟩:bU)).bind λ s =>
 (nR d (⟨0,[21,30,10]⟩:dq) [1]).bind λ y =>
 (iT d).bind λ z =>
 (jx d 0).bind λ A =>
 (jy d [2]).bind λ B =>
 (mF d [0]).bind λ C =>
 (mF d [1,2]).bind λ D =>
 (nS d).bind λ E =>
 (nT d).bind λ F =>
 (iT s).bind λ G =>
 (((ab (y.2 != 0)
 (some true)
 (ab (z.2 != 0)
 (some true)
 (ab (A.2 != 0)
 (some true)
 (ab (B.2 != 0)
 (some true)
 (ab (C.2 != 0)
 (some true)
 (ab (D.2 != 0)
 (some true)
 (ab (E.2 != 0)
 (some true)
 (ab (F.2 != 0)
 (some true)
 (some (G.2 != 0)))))))))):Option Bool)).bind (λ (P:Bool) =>
 ab P
 (some false)
 ((((ab (y.1 != (-53))
 (some true)
 (ab (z.1 != 2)
 (some true)
 ((m32 A.1 [20,21]).bind λ V =>
 ab (!V)
 (some true)
 ((lf (-3) 0).bind λ W =>
 ab (!(tO B.1 W == true))
 (some true)
 (ab (C.1 != 1)
 (some true)
 (ab (D.1 != 0)
 (some true)
 ((m32 E.1 [1,2]).bind λ Y =>
 ab (!Y)
 (some true)
 ((m32 F.1 [1,2]).bind λ Z =>
 ab (!Z)
 (some true)
 (some (G.1 != 1)))))))))):Option Bool)).bind (λ (Q:Bool) =>
 ab Q
 (some false)
 ((ia d [2,0,1]).bind λ H =>
 (ia d [2,1,0]).bind λ I =>
 (ia d [0,1,2]).bind λ aa =>
 (ib d).bind λ J =>
 (nV d).bind λ f =>
 (nW d).bind λ g =>
 (ib s).bind λ K =>
 (((ab (H.2 != 0)
 (some true)
 (ab (I.2 != 0)
 (some true)
 (ab (aa.2 != 7)
 (some true)
 (ab (J.2 != 0)
 (some true)
 (ab (f.2.2 != 0)
 (some true)
 (ab (g.2.2 != 0)
 (some true)
 (some (K.2 != 0)))))))):Option Bool)).bind (λ (R:Bool) =>
 ab R
 (some false)
 ((((ab (H.1 != 1)
 (some true)
 (ab (I.1 != 0)
 (some true)
 (ab (J.1 != 1)
 (some true)
 (ab (!f.2.1)
 (some true)
 ((m32 f.1 [2,0,1]).bind λ ac =>
 ab (!ac)
 (some true)
 ((m32 g.1 [2,0,1]).bind λ ad =>
 ab (!ad)
 (some true)
 (ab (g.2.1 != 60)
 (some true)
 (some (K.1 != 2))))))))):Option Bool)).bind (λ (S:Bool) =>
 ab S
 (some false)
 ((nX d).bind λ m =>
 (mG d 0).bind λ ae =>
 (mG d 2).bind λ L =>
 (nY L.1 (⟨1,2⟩:bU)).bind λ af =>
 (lb d (⟨0,1⟩:bU)).bind λ ag =>
 (lb ag (⟨0,2⟩:bU)).bind λ aj =>
 (nZ aj).bind λ M =>
 (lg 21).bind λ ak =>
 (n0 d 0 ak).bind λ N =>
 (ib N.1).bind λ O =>
 ab (m.2.2 == 0)
 (ab (ae.2 == 7)
 (ab (L.2 == 0)
 (ab (af.2 == 9)
 (ab (M.2 == 0)
 (ab (N.2 == 0)
 (ab (O.2 == 0)
 (ab (m.1 == 0)
 (ab (m.2.1 == 1)
 ((m32 M.1 [0]).bind λ am =>
 ab am
 (some (O.1 == 1))
 (some false))
 (some false))
 (some false))
 (some false))
 (some false))
 (some false))
 (some false))
 (some false))
 (some false))
 (some false)))))))))
def lh(d:(List Int))(x1:Int):Option Int :=
 (en x1 0 (i64 ((d.length:Int) - 1))).bind λ f =>
 ab f
 ((idx d x1).bind λ g =>
 some (i64 g))
 (some 0)
def rB(d:Int)(x1:Int):Option de :=
 some (⟨d,x1⟩:de)
def n2(d:Reach)(x1:Int):Option Int :=
 (ec x1 (i64 ((i64 (d.ak - d.ai))+1))).bind λ f =>
 some (i64 (d.ai+f))
def m7(f:bg)(x1:(List Int))(x2:Int):Option ht :=
 (lh x1 0).bind λ C =>
 (ec C (i64 (f.a9 * f.bh))).bind λ m =>
 (ec m f.a9).bind λ D =>
 (fe m f.a9).bind λ E =>
 (rB D E).bind λ s =>
 (a1 (O:=(List Int)) (λ (g:(Int × (List Int))) =>
 ab (decide (g.1 < (f.a4.length:Int)))
 ((idx f.a4 g.1).bind λ F =>
 (lh x1 (i64 (g.1+1))).bind λ G =>
 (n2 F G).bind λ H =>
 (cu g.2 [H]).bind λ I =>
 some (.inl (i64 (g.1+1),I)))
 (some (.inr g.2))) (0,[])).bind (λ (y:(List Int)) =>
 (a1 (O:=(List Int)) (λ (d:(Int × (List Int))) =>
 (((ab (decide (d.1 < (f.aN.length:Int)))
 (some (decide ((d.2.length:Int) < f.a5)))
 (some false)):Option Bool)).bind (λ (A:Bool) =>
 ab A
 (((((fo .u8 x2 d.1).bind λ J =>
 (dB .and .u8 J 1).bind λ K =>
 ab (K == 1)
 ((idx f.aN d.1).bind λ L =>
 some (!L.dG))
 (some false)):Option Bool)).bind (λ (B:Bool) =>
 ab B
 ((cu d.2 [d.1]).bind λ M =>
 some (.inl (i64 (d.1+1),M)))
 (some (.inl (i64 (d.1+1),d.2)))))
 (some (.inr d.2)))) (0,[])).bind (λ (z:(List Int)) =>
 some (⟨⟨s.aQ,s.aZ⟩,y,z⟩:ht)))
def lj(d:Int)(x1:Int):Option Int :=
 ab (decide (i64 (12 * (gf (cy d [i64 (0 - d)]) [cy x1 [i64 (0 - x1)]]))≤i64 (5 * (cy (cy d [i64 (0 - d)]) [cy x1 [i64 (0 - x1)]]))))
 (ab (decide (cy d [i64 (0 - d)] > cy x1 [i64 (0 - x1)]))
 (ab (decide (d > 0))
 (some 2)
 (some 6))
 (ab (decide (x1 > 0))
 (some 0)
 (some 4)))
 (ab (decide (d > 0))
 (ab (decide (x1 > 0))
 (some 1)
 (some 3))
 (ab (decide (x1 > 0))
 (some 7)
 (some 5)))
def m8(f:bg)(x1:ht):Option bg :=
 (cu [] f.aN).bind λ D =>
 (a1 (O:=(List eH)) (λ (d:(Int × (List eH))) =>
 ab (decide (d.1 < (d.2.length:Int)))
 ((idx d.2 d.1).bind λ g =>
 ((((gE x1.a5 d.1).bind λ z =>
 ab z
 (some true)
 (some (g9 g.U x1.U == true))):Option Bool)).bind (λ (s:Bool) =>
 ab s
 (some (.inl (i64 (d.1+1),d.2)))
 ((lj (i64 (x1.U.aQ - g.U.aQ)) (i64 (x1.U.aZ - g.U.aZ))).bind λ A =>
 (idx x1.fV g.cz).bind λ B =>
 (ec (i64 ((i64 (A+B))+8)) 8).bind λ C =>
 (idx d.2 d.1).bind λ m =>
 some (.inl (i64 (d.1+1),d.2.set d.1.toNat (⟨⟨m.U.aQ,m.U.aZ⟩,C,m.cz,m.dG⟩:eH))))))
 (some (.inr d.2))) (0,D)).bind (λ (y:(List eH)) =>
 some (⟨f.a9,f.bh,f.a5,f.a4,y⟩:bg))
def hK(d:Int)(x1:Int)(x2:Int):Option Bool :=
 ab (decide (x1≤d))
 (some (decide (d≤x2)))
 (some false)
def pA(d:bg):Option Int :=
 (hK d.a9 2 7).bind λ f =>
 ab (!f)
 (some 1)
 ((hK d.bh 2 7).bind λ g =>
 ab (!g)
 (some 1)
 ((hK d.a5 0 2).bind λ m =>
 ab (!m)
 (some 1)
 (some 0)))
def pD(d:Reach)(x1:Int)(x2:Int):Option Bool :=
 ab (decide (x1≤d.ai))
 (ab (decide (d.ai≤d.ak))
 (some (decide (d.ak≤x2)))
 (some false))
 (some false)
def pB(f:bg):Option Int :=
 (hK (f.a4.length:Int) 1 3).bind λ m =>
 ab (!m)
 (some 2)
 ((a1 (O:=(Unit ⊕ Int)) (λ (d:Int) =>
 ab (decide (d < (f.a4.length:Int)))
 ((idx f.a4 d).bind λ g =>
 (pD g (-3) 3).bind λ s =>
 ab (!s)
 (some (.inr (.inr 1)))
 (ab (decide (i64 (g.ak - g.ai) ≥ 3))
 (some (.inr (.inr 1)))
 (some (.inl (i64 (d+1))))))
 (some (.inr (.inl ())))) 0).bind (Sum.elim (λ (_:Unit) =>
 some 0)
  (λ q=>some q)))
def pE(d:de):Option Bool :=
 (hK d.aQ (-20) 20).bind λ f =>
 ab f
 ((hK d.aZ (-20) 20).bind λ g =>
 some g)
 (some false)
def oc(d:Bool):Option Int :=
 ab (!d)
 (some 6)
 (some 0)
def pF(d:bg)(x1:Int):Option Int :=
 (hK x1 0 (i64 ((d.a4.length:Int) - 1))).bind λ f =>
 (oc f).bind λ g =>
 some g
def pC(d:bg):Option Int :=
 ab (decide ((d.aN.length:Int) > 5))
 (some 2)
 ((a1 (O:=(Unit ⊕ Int)) (λ (f:Int) =>
 ab (decide (f < (d.aN.length:Int)))
 ((idx d.aN f).bind λ g =>
 ((((pE g.U).bind λ s =>
 ab (!s)
 (some true)
 ((hK g.dS 0 7).bind λ y =>
 some (!y))):Option Bool)).bind (λ (m:Bool) =>
 ab m
 (some (.inr (.inr 1)))
 ((pF d g.cz).bind λ z =>
 ab (z != 0)
 (some (.inr (.inr 6)))
 (some (.inl (i64 (f+1)))))))
 (some (.inr (.inl ())))) 0).bind (Sum.elim (λ (_:Unit) =>
 some 0)
  (λ q=>some q)))
def n3(d:bg):Option Int :=
 (pA (⟨d.a9,d.bh,d.a5,d.a4,d.aN⟩:bg)).bind λ f =>
 ab (f != 0)
 (some f)
 ((pB (⟨d.a9,d.bh,d.a5,d.a4,d.aN⟩:bg)).bind λ g =>
 ab (g != 0)
 (some g)
 ((pC (⟨d.a9,d.bh,d.a5,d.a4,d.aN⟩:bg)).bind λ m =>
 ab (m != 0)
 (some m)
 (some 0)))
def ps(f:bg):Option Int :=
 (a1 (O:=Int) (λ (d:(Int × Int)) =>
 ab (decide (d.2 < (f.aN.length:Int)))
 ((idx f.aN d.2).bind λ m =>
 ab m.dG
 ((fK .i64 1 d.2).bind λ s =>
 (dB .or .i64 d.1 s).bind λ y =>
 some (.inl (y,i64 (d.2+1))))
 (some (.inl (d.1,i64 (d.2+1)))))
 (some (.inr d.1))) (0,0)).bind (λ (g:Int) =>
 some g)
def hM{S:Type}(ys:cL→S→Option (S × Bool)):Nat→Int→bg→cL→S→Option (S × (cL × Bool))
 | 0,_,_,_,_=>none
 | k+1,g,x1,x3,s =>
  ab (g == (x1.a4.length:Int))
  ((ys x3 s).bind λ y =>
  some (y.1,(x3,y.2)))
  ((idx x1.a4 g).bind λ z =>
  (a1 (O:=((S × Int × Int × (List Int)) ⊕ (S × (cL × Bool)))) (λ (d:(S × Int × Int × Int × (List Int))) =>
  (idx x1.a4 g).bind λ A =>
  ab (decide (d.2.1≤A.ak))
  ((idx d.2.2.2.2 g).bind λ _ =>
  (hM ys k (i64 (g+1)) x1 (⟨⟨d.2.2.1,d.2.2.2.1⟩,d.2.2.2.2.set g.toNat d.2.1⟩:cL) d.1).bind λ f =>
  ab (!f.2.2)
  (some (.inr (.inr (f.1,(f.2.1,false)))))
  (some (.inl (f.1,i64 (d.2.1+1),f.2.1.at_.aQ,f.2.1.at_.aZ,f.2.1.off))))
  (some (.inr (.inl (d.1,d.2.2.1,d.2.2.2.1,d.2.2.2.2))))) (s,z.ai,x3.at_.aQ,x3.at_.aZ,x3.off)).bind (Sum.elim (λ (m:(S × Int × Int × (List Int))) =>
  some (m.1,((⟨⟨m.2.1,m.2.2.1⟩,m.2.2.2⟩:cL),true)))
   (λ q=>some q)))
def nL{S:Type}(ys:cL→S→Option (S × Bool))(g:bg)(s:S):Option S :=
 (a1 (O:=(S ⊕ S)) (λ (d:(S × Int × Int × Int × (List Int))) =>
  ab (decide (d.2.1 < i64 (g.a9 * g.bh)))
  ((ec d.2.1 g.a9).bind λ y =>
  (fe d.2.1 g.a9).bind λ z =>
  (hM ys 9 0 g (⟨⟨y,z⟩,d.2.2.2.2⟩:cL) d.1).bind λ f =>
  ab (!f.2.2)
  (some (.inr (.inr f.1)))
  (some (.inl (f.1,i64 (d.2.1+1),f.2.1.at_.aQ,f.2.1.at_.aZ,f.2.1.off))))
  (some (.inr (.inl d.1)))) (s,0,0,0,[0,0,0])).bind (Sum.elim (λ (m:S) =>
  some m)
   (λ q=>some q))
def rv(d:Bool)(x1:Bool):Option Int :=
 (((ab d
 (some x1)
 (some false)):Option Bool)).bind (λ (f:Bool) =>
 ab f
 (some 1)
 (ab d
 (some 3)
 (ab x1
 (some 7)
 (some 5))))
def mw(d:de)(x1:de):Option Int :=
 ab (decide (i64 (12 * (gf (cy (i64 (x1.aQ - d.aQ)) [i64 (0 - i64 (x1.aQ - d.aQ))]) [cy (i64 (x1.aZ - d.aZ)) [i64 (0 - i64 (x1.aZ - d.aZ))]])) > i64 (5 * (cy (cy (i64 (x1.aQ - d.aQ)) [i64 (0 - i64 (x1.aQ - d.aQ))]) [cy (i64 (x1.aZ - d.aZ)) [i64 (0 - i64 (x1.aZ - d.aZ))]]))))
 ((rv (decide (i64 (x1.aQ - d.aQ) > 0)) (decide (i64 (x1.aZ - d.aZ) > 0))).bind λ g =>
 some g)
 ((((ab (decide (cy (i64 (x1.aQ - d.aQ)) [i64 (0 - i64 (x1.aQ - d.aQ))] > cy (i64 (x1.aZ - d.aZ)) [i64 (0 - i64 (x1.aZ - d.aZ))]))
 (some (decide (i64 (x1.aQ - d.aQ) > 0)))
 (some false)):Option Bool)).bind (λ (f:Bool) =>
 ab f
 (some 2)
 (ab (decide (cy (i64 (x1.aQ - d.aQ)) [i64 (0 - i64 (x1.aQ - d.aQ))] > cy (i64 (x1.aZ - d.aZ)) [i64 (0 - i64 (x1.aZ - d.aZ))]))
 (some 6)
 (ab (decide (i64 (x1.aZ - d.aZ) > 0))
 (some 0)
 (some 4)))))
def px(_:bg)(x1:eH)(x2:cL):Option Bool :=
 ab (g9 x1.U x2.at_ == true)
 (some true)
 ((mw x1.U x2.at_).bind λ d =>
 (idx x2.off x1.cz).bind λ f =>
 (ec (i64 ((i64 (d+f))+8)) 8).bind λ g =>
 some (g == x1.dS))
def nM(f:bg)(x1:cL):Option Int :=
 (a1 (O:=Int) (λ (d:(Int × Int)) =>
 ab (decide (d.2 < (f.aN.length:Int)))
 ((idx f.aN d.2).bind λ m =>
 (px f m x1).bind λ s =>
 ab (!s)
 ((fK .i64 1 d.2).bind λ y =>
 (dB .or .i64 d.1 y).bind λ z =>
 some (.inl (z,i64 (d.2+1))))
 (some (.inl (d.1,i64 (d.2+1)))))
 (some (.inr d.1))) (0,0)).bind (λ (g:Int) =>
 some g)
def ml(g:Int):Option (List Int) :=
 (a1 (O:=(List Int)) (λ (d:((List Int) × Int)) =>
 ab (decide (d.2 < 5))
 ((fo .i64 g d.2).bind λ m =>
 (dB .and .i64 m 1).bind λ s =>
 ab (s == 1)
 ((cu d.1 [d.2]).bind λ y =>
 some (.inl (y,i64 (d.2+1))))
 (some (.inl (d.1,i64 (d.2+1)))))
 (some (.inr d.1))) ([],0)).bind (λ (f:(List Int)) =>
 some f)
def nH{S:Type}(ys:eY→S→Option (S × Bool))(f:bg)(B:S):Option S :=
 (ps f).bind λ H =>
  (nL (cp (λ (g:cL) (m:S)=>(((nM f g).bind λ C =>
  (fK .i64 1 (f.aN.length:Int)).bind λ D =>
  (a1 (O:=(S ⊕ S)) (λ (d:(S × Int)) =>
  ab (decide (d.2 < D))
  (((((dB .andNot .i64 C d.2).bind λ E =>
  ab (E != 0)
  (some true)
  ((dB .and .i64 d.2 H).bind λ F =>
  ab (F != 0)
  (some true)
  ((ml d.2).bind λ G =>
  some (decide ((G.length:Int) > f.a5))))):Option Bool)).bind (λ (z:Bool) =>
  ab z
  (some (.inl (d.1,i64 (d.2+1))))
  ((ys (⟨⟨⟨g.at_.aQ,g.at_.aZ⟩,g.off⟩,d.2⟩:eY) d.1).bind λ s =>
  ab (!s.2)
  (some (.inr (.inr s.1)))
  (some (.inl (s.1,i64 (d.2+1)))))))
  (some (.inr (.inl d.1)))) (m,0)).bind (Sum.elim (λ (y:S) =>
  some (.inl y))
   (λ q=>some (.inr q)))):Option (S ⊕ S)))) f (.inl B)).bind (Sum.elim (λ (m:S) =>
  some m)
   (λ (A:S) =>
  some A))
def ob(d:bg)(x1:(bg→Option Int)):Option (lO × Int) :=
 (n3 d).bind λ g =>
 ab (g != 0)
 (some ((⟨⟨0,0,0,[],[]⟩,[]⟩:lO),g))
 ((x1 d).bind λ m =>
 ab (m != 0)
 (some ((⟨⟨0,0,0,[],[]⟩,[]⟩:lO),m))
 ((nH (cp (λ (s:eY) (f:(List eY))=>(((cu f [s]).bind λ y =>
 some (.inl y)):Option ((List eY) ⊕ Empty)))) d (.inl [])).bind (Sum.elim (λ (f:(List eY)) =>
 ab ((f.length:Int) == 0)
 (some ((⟨⟨0,0,0,[],[]⟩,[]⟩:lO),9))
 (some ((⟨⟨d.a9,d.bh,d.a5,d.a4,d.aN⟩,f⟩:lO),0)))
  (λ (o:Empty)=>o.elim))))
def lz(_:bg):Option Int :=
 some 0
def pK(s:bg):Option ((List de) × Int) :=
 (ob s (λ y=>lz y)).bind λ f =>
 ab (f.2 != 0)
 (some ([],f.2))
 ((a1 (O:=(List de)) (λ (d:((de→Bool) × (List de) × Int)) =>
 ab (decide (d.2.2 < (f.1.cW.length:Int)))
 ((idx f.1.cW d.2.2).bind λ g =>
 ab (!(d.1 g.ea.at_))
 ((cu d.2.1 [g.ea.at_]).bind λ z =>
 some (.inl (ir d.1 g.ea.at_ true,z,i64 (d.2.2+1))))
 (some (.inl (d.1,d.2.1,i64 (d.2.2+1)))))
 (some (.inr d.2.1))) ((λ _=>false),[],0)).bind (λ (m:(List de)) =>
 some (m,0)))
def m9(s:bg):Option (Reach × Reach × Int) :=
 (pK s).bind λ f =>
 ab (f.2 != 0)
 (some ((⟨0,0⟩:Reach),(⟨0,0⟩:Reach),f.2))
 ((idx f.1 0).bind λ y =>
 (idx f.1 0).bind λ z =>
 (idx f.1 0).bind λ A =>
 (idx f.1 0).bind λ B =>
 (a1 (O:=(Int × Int × Int × Int)) (λ (d:(Int × Int × Int × Int × Int)) =>
 ab (decide (d.1 < (f.1.length:Int)))
 ((idx f.1 d.1).bind λ m =>
 some (.inl (i64 (d.1+1),gf d.2.1 [m.aZ],cy d.2.2.1 [m.aZ],gf d.2.2.2.1 [m.aQ],cy d.2.2.2.2 [m.aQ])))
 (some (.inr (d.2.1,d.2.2.1,d.2.2.2.1,d.2.2.2.2)))) (0,A.aZ,B.aZ,y.aQ,z.aQ)).bind (λ (g:(Int × Int × Int × Int)) =>
 some ((⟨g.2.2.1,g.2.2.2⟩:Reach),(⟨g.1,g.2.1⟩:Reach),0)))
def pL(d:bg)(x1:Int):Option Int :=
 (hK x1 0 (i64 ((d.aN.length:Int) - 1))).bind λ f =>
 (oc f).bind λ g =>
 some g
def lk(d:(List eH)):Option (List eH) :=
 (cu [] d).bind λ f =>
 some f
def pg(d:(List Reach)):Option (List Reach) :=
 (cu [] d).bind λ f =>
 some f
def rC(d:bg):Option (bg × Int) :=
 (ob d (λ y=>lz y)).bind λ f =>
 ab (f.2 != 0)
 (some ((⟨0,0,0,[],[]⟩:bg),f.2))
 ((pg d.a4).bind λ g =>
 (lk d.aN).bind λ m =>
 some ((⟨d.a9,d.bh,d.a5,g,m⟩:bg),0))
def pn(d:bg)(x1:Int):Option (bg × Int) :=
 (n3 d).bind λ g =>
 ab (g != 0)
 (some ((⟨0,0,0,[],[]⟩:bg),g))
 ((pL (⟨d.a9,d.bh,d.a5,d.a4,d.aN⟩:bg) x1).bind λ m =>
 ab (m != 0)
 (some ((⟨0,0,0,[],[]⟩:bg),m))
 ((idx d.aN x1).bind λ z =>
 ab z.dG
 (some ((⟨0,0,0,[],[]⟩:bg),5))
 ((lk d.aN).bind λ s =>
 (idx s x1).bind λ f =>
 (rC (⟨d.a9,d.bh,d.a5,d.a4,s.set x1.toNat (⟨⟨f.U.aQ,f.U.aZ⟩,f.dS,f.cz,true⟩:eH)⟩:bg)).bind λ y =>
 some (y.1,y.2))))
def ll(d:(List Int))(x1:Int):Option Int :=
 ab (decide (x1 < (d.length:Int)))
 ((idx d x1).bind λ f =>
 some (i64 f))
 (some 0)
def pq(f:an)(x1:(List Int)):Option dq :=
 (ll x1 0).bind λ s =>
 (ec s (i64 ((i64 (f.ad.ak - f.ad.ai))+1))).bind λ y =>
 (a1 (O:=(List Int)) (λ (d:(Int × (List Int))) =>
 ab (decide (d.1 < (f.ao.length:Int)))
 ((idx f.ao d.1).bind λ g =>
 (ll x1 (i64 (1+d.1))).bind λ z =>
 (ec z (i64 ((i64 (g.Weight.ak - g.Weight.ai))+1))).bind λ A =>
 (cu d.2 [i64 (g.Weight.ai+A)]).bind λ B =>
 some (.inl (i64 (d.1+1),B)))
 (some (.inr d.2))) (0,[])).bind (λ (m:(List Int)) =>
 some (⟨i64 (f.ad.ai+y),m⟩:dq))
def n4(f:an)(x1:dq)(x2:(List Int)):Option Int :=
 (a1 (O:=Int) (λ (d:(Int × Int)) =>
 ab (decide (d.2 < (f.ao.length:Int)))
 ((gE x2 d.2).bind λ m =>
 ab (!m)
 ((idx f.ao d.2).bind λ s =>
 (idx x1.eJ d.2).bind λ y =>
 some (.inl (i64 (d.1+(i64 (s.dR * y))),i64 (d.2+1))))
 (some (.inl (d.1,i64 (d.2+1)))))
 (some (.inr d.1))) (x1.ad,0)).bind (λ (g:Int) =>
 some g)
def pM(d:Int):Option Int :=
 ab (decide (d > 0))
 (some 2)
 (ab (decide (d < 0))
 (some 1)
 (some 0))
def pv(d:an)(x1:dq):Option an :=
 (a1 (O:=Int) (λ (f:(Int × Int)) =>
 ab (decide (f.1≤(d.Out.length:Int)))
 ((fw d.Out 0 f.1).bind λ E =>
 (n4 d x1 E).bind λ s =>
 some (.inl (i64 (f.1+1),cy f.2 [s,i64 (0 - s)])))
 (some (.inr f.2))) (0,d.ax)).bind (λ (y:Int) =>
 (a1 (O:=(List bU)) (λ (g:(Int × (List bU))) =>
 ab (decide (g.1 < (d.aV.length:Int)))
 ((idx d.aV g.1).bind λ m =>
 (fw d.Out 0 m.cT).bind λ A =>
 (n4 d x1 A).bind λ B =>
 (pM B).bind λ C =>
 (cu g.2 [(⟨m.cT,C⟩:bU)]).bind λ D =>
 some (.inl (i64 (g.1+1),D)))
 (some (.inr g.2))) (0,[])).bind (λ (z:(List bU)) =>
 some (⟨y,⟨d.ad.ai,d.ad.ak⟩,d.ao,d.Out,z⟩:an)))
def n6(f:(List Int))(x1:(List Int)):Option Bool :=
 (a1 (O:=(Unit ⊕ Bool)) (λ (d:Int) =>
 ab (decide (d < (f.length:Int)))
 ((idx f d).bind λ g =>
 (gE x1 g).bind λ m =>
 ab (!m)
 (some (.inr (.inr false)))
 (some (.inl (i64 (d+1)))))
 (some (.inr (.inl ())))) 0).bind (Sum.elim (λ (_:Unit) =>
 some true)
  (λ q=>some q))
def py(d:an)(x1:an)(x2:(List Int))(x3:(List Int))(x4:Int):Option Bool :=
 (iT d).bind λ z =>
 (iT x1).bind λ A =>
 (jx d x4).bind λ B =>
 (jx x1 x4).bind λ C =>
 (jy d x2).bind λ g =>
 (jy x1 x2).bind λ f =>
 (ia d x3).bind λ m =>
 (ia x1 x3).bind λ D =>
 (ib d).bind λ s =>
 (ib x1).bind λ y =>
 (((ab (z.2 != 0)
 (some true)
 (ab (A.2 != 0)
 (some true)
 (ab (B.2 != 0)
 (some true)
 (ab (C.2 != 0)
 (some true)
 (ab (g.2 != 0)
 (some true)
 (ab (f.2 != 0)
 (some true)
 (ab (m.2 != 0)
 (some true)
 (ab (D.2 != 0)
 (some true)
 (ab (s.2 != 0)
 (some true)
 (some (y.2 != 0))))))))))):Option Bool)).bind (λ (E:Bool) =>
 ab E
 (some false)
 ((en A.1 1 z.1).bind λ F =>
 ab F
 ((n6 C.1 B.1).bind λ G =>
 ab G
 (ab (decide (g.1.ai≤f.1.ai))
 (ab (decide (f.1.ai≤f.1.ak))
 (ab (decide (f.1.ak≤g.1.ak))
 (ab (m.1 == 0)
 (some (decide (s.1≤y.1)))
 (ab (m.1 == D.1)
 (some (decide (s.1≤y.1)))
 (some false)))
 (some false))
 (some false))
 (some false))
 (some false))
 (some false)))
def mx(g:Int)(x1:Int):Option (List Int) :=
 (a1 (O:=(List Int)) (λ (d:((List Int) × Int)) =>
 ab (decide (d.2 < x1))
 ((fo .u8 g d.2).bind λ m =>
 (dB .and .u8 m 1).bind λ s =>
 ab (s == 1)
 ((cu d.1 [d.2]).bind λ y =>
 some (.inl (y,i64 (d.2+1))))
 (some (.inl (d.1,i64 (d.2+1)))))
 (some (.inr d.1))) ([],0)).bind (λ (f:(List Int)) =>
 some f)
def n7(f:an)(x1:(List Int)):Option (List Int) :=
 (a1 (O:=(List Int)) (λ (d:((List Int) × Int)) =>
 ab (decide (d.2 < (f.ao.length:Int)))
 ((md f x1 d.2).bind λ m =>
 ab m
 ((cu d.1 [d.2]).bind λ s =>
 some (.inl (s,i64 (d.2+1))))
 (some (.inl (d.1,i64 (d.2+1)))))
 (some (.inr d.1))) ([],0)).bind (λ (g:(List Int)) =>
 some g)
def pz(f:an)(x1:(List Int)):Option (List Int) :=
 (cu [] f.Out).bind λ C =>
 (a1 (O:=((List Int) ⊕ (List Int))) (λ (d:((List Int) × (List Int))) =>
 ab (decide ((d.2.length:Int) < (f.ao.length:Int)))
 ((n7 f d.2).bind λ g =>
 ab ((g.length:Int) == 0)
 (some (.inr (.inr d.1)))
 ((ll x1 (i64 (6+(d.1.length:Int)))).bind λ y =>
 (ec y (g.length:Int)).bind λ z =>
 (idx g z).bind λ m =>
 (cu d.1 [m]).bind λ A =>
 (cu d.2 [m]).bind λ B =>
 some (.inl (A,B))))
 (some (.inr (.inl d.1)))) ([],C)).bind (Sum.elim (λ (s:(List Int)) =>
 some s)
  (λ q=>some q))
def m3(d:an)(x1:bg)(x2:(List Int))(x3:Int)(x4:Int)(x5:Int):Option Bool :=
 ((((m4 (⟨d.ax,⟨d.ad.ai,d.ad.ak⟩,d.ao,d.Out,[]⟩:an)).bind λ H =>
 ab (!H)
 (some true)
 ((m5 x1).bind λ I =>
 some (!I))):Option Bool)).bind (λ (B:Bool) =>
 ab B
 ((m6).bind λ J =>
 some J)
 ((m7 x1 x2 x3).bind λ m =>
 (m8 x1 m).bind λ s =>
 (m9 s).bind λ f =>
 (((ab (f.2.2 != 0)
 (some true)
 ((en m.U.aQ f.1.ai f.1.ak).bind λ K =>
 some (!K))):Option Bool)).bind (λ (C:Bool) =>
 ab C
 (some false)
 ((((ab (decide (i64 (f.1.ak - f.1.ai) ≥ 3))
 (some true)
 (some ((s.aN.length:Int) == 0))):Option Bool)).bind (λ (D:Bool) =>
 ab D
 ((m6).bind λ L =>
 some L)
 ((ec (i64 x4) (s.aN.length:Int)).bind λ z =>
 ((((idx s.aN z).bind λ M =>
 ab M.dG
 (some true)
 ((gE m.a5 z).bind λ N =>
 some N)):Option Bool)).bind (λ (E:Bool) =>
 ab E
 ((m6).bind λ O =>
 some O)
 ((pn s z).bind λ A =>
 (m9 A.1).bind λ g =>
 (((ab (A.2 != 0)
 (some true)
 (ab (g.2.2 != 0)
 (some true)
 (ab (decide (g.1.ai < f.1.ai))
 (some true)
 (ab (decide (g.1.ak > f.1.ak))
 (some true)
 ((en m.U.aQ g.1.ai g.1.ak).bind λ P =>
 some (!P)))))):Option Bool)).bind (λ (F:Bool) =>
 ab F
 (some false)
 ((pq (⟨d.ax,⟨f.1.ai,f.1.ak⟩,d.ao,d.Out,[]⟩:an) x2).bind λ Q =>
 (pv (⟨d.ax,⟨f.1.ai,f.1.ak⟩,d.ao,d.Out,[]⟩:an) (⟨m.U.aQ,Q.eJ⟩:dq)).bind λ y =>
 ((((mm y).bind λ R =>
 ab (R != 0)
 (some true)
 ((mm (⟨y.ax,⟨g.1.ai,g.1.ak⟩,d.ao,d.Out,[]⟩:an)).bind λ S =>
 some (S != 0))):Option Bool)).bind (λ (G:Bool) =>
 ab G
 ((m6).bind λ T =>
 some T)
 ((mx x5 (d.ao.length:Int)).bind λ V =>
 (pz (⟨d.ax,⟨d.ad.ai,d.ad.ak⟩,d.ao,d.Out,[]⟩:an) x2).bind λ W =>
 (ec (i64 x4) (d.ao.length:Int)).bind λ Y =>
 (py y (⟨y.ax,⟨g.1.ai,g.1.ak⟩,d.ao,d.Out,[]⟩:an) V W Y).bind λ Z =>
 ab Z
 ((m6).bind λ aa =>
 some aa)
 (some false)))))))))))))
end
end Go.Proofs.YtoaoffinglajbaaGreatDoor
