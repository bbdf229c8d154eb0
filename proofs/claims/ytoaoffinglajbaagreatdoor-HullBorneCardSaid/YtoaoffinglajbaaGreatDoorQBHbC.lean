/- The chapter's examples, by reckoning. Conditions: none. -/
import Derived.Test.YtoaoffinglajbaaGreatDoorQBHbM
import Derived.Test.YtoaoffinglajbaaGreatDoorQBLgC
namespace Go.Proofs.YtoaoffinglajbaaGreatDoor
open Go.Lg Go.Proofs
noncomputable section
set_option maxRecDepth 100000
set_option maxHeartbeats 4000000
def d66(d:an)(x1:bm)(x2:(List Bool)):{c // ag c (hj d x1 x2)}:=⟨_,by
 unfold hj
 with_reducible repeat' first | intro _ | apply ag.dv | apply ag.ab | apply ag.bs | exact ag.bp _⟩
def d116(d:cN)(x1:Int):{c // ag c (j1 d x1)}:=⟨_,by
 unfold j1
 with_reducible repeat' first | intro _ | apply (d66 _ _ _).2 | apply ag.dv | apply ag.ab | apply ag.bs | exact ag.bp _⟩
abbrev wz(d:cN)(x1:Int):=(d116 d x1).1
theorem FZ(d:cN)(x1:Int):ag (wz d x1) (j1 d x1):=(d116 d x1).2
def w8(d:cN):Option ev :=
 (fK .i64 1 (d.book.ao.length:Int)).bind λ many =>
 ((List.range many.toNat).mapM (λ (i:Nat)=>wz d (i:Int))).bind λ l =>
 if d.hq=[]∧(l.map (·.1)).Nodup∧(∀ p∈l,p.1.length=5)∧0≤many∧many≤1048576 then some l else none
theorem rl(d:cN):ag (w8 d) (jD d):=by
 unfold w8 jD
 with_reducible repeat' first | exact ag.bp _ | refine ag.mapM (λ _=>?_) _ | exact FZ _ _ | refine ag.bs ?_ λ _=>?_
def d33(d:Int)(x1:Int):{c // ag c (lf d x1)}:=⟨_,by
 unfold lf
 with_reducible repeat' first | intro _ | apply ag.bs | exact ag.bp _⟩
abbrev sZ(d:Int)(x1:Int):=(d33 d x1).1
theorem yv(d:Int)(x1:Int):ag (sZ d x1) (lf d x1):=(d33 d x1).2
def d43(d:Int):{c // ag c (lg d)}:=⟨_,by
 unfold lg
 with_reducible repeat' first | intro _ | apply (d33 _ _).2 | apply ag.bs | exact ag.bp _⟩
abbrev qQ(d:Int):=(d43 d).1
theorem yw(d:Int):ag (qQ d) (lg d):=(d43 d).2
def sW  : Option an :=
 (sZ 20 21).bind λ d =>
 (qQ 30).bind λ f =>
 (qQ 10).bind λ g =>
 some (⟨62,⟨0,0⟩,[(⟨⟨#[103,117,110]⟩,(-3),⟨d.ai,d.ak⟩,[]⟩:cA),(⟨⟨#[99,104,101,115,116]⟩,2,⟨f.ai,f.ak⟩,[]⟩:cA),(⟨⟨#[97,110,99,104,111,114]⟩,1,⟨g.ai,g.ak⟩,[0]⟩:cA)],[],[]⟩:an)
theorem Gi  : ag (sW ) (pH ):=by
 unfold sW pH
 with_reducible repeat' first | exact ag.bp _ | exact yv _ _ | exact yw _ | exact d _ _ | refine ag.bs ?_ λ _=>?_
def d23(d:an)(x1:bU):{c // ag c (lb d x1)}:=⟨_,by
 unfold lb
 with_reducible repeat' first | intro _ | apply ag.bs | exact ag.bp _⟩
abbrev qN(d:an)(x1:bU):=(d23 d x1).1
theorem Gj(d:an)(x1:bU):ag (qN d x1) (lb d x1):=(d23 d x1).2
def d24(d:an)(x1:Int):{c // ag c (nQ d x1)}:=⟨_,by
 unfold nQ
 with_reducible repeat' first | intro _ | apply ag.bs | exact ag.bp _⟩
abbrev wM(d:an)(x1:Int):=(d24 d x1).1
theorem Gk(d:an)(x1:Int):ag (wM d x1) (nQ d x1):=(d24 d x1).2
def d95(d:Reach)(x1:Int)(x2:Int)(x3:Int):{c // ag c (j9 d x1 x2 x3)}:=⟨_,by
 unfold j9
 with_reducible repeat' first | intro _ | apply ag.ab | apply ag.bs | exact ag.bp _⟩
def d106(d:Int)(x1:Int)(x2:Int):{c // ag c (gd d x1 x2)}:=⟨_,by
 unfold gd
 with_reducible repeat' first | intro _ | apply ag.ab | apply ag.bs | exact ag.bp _⟩
def d187(d:an):{c // ag c (my d)}:=⟨_,by
 unfold my
 with_reducible repeat' first | intro _ | apply (d95 _ _ _ _).2 | apply (d106 _ _ _).2 | apply ag.ab | apply ag.bs | exact ag.bp _⟩
def d65(d:(List Int))(x1:Int):{c // ag c (j7 d x1)}:=⟨_,by
 unfold j7
 with_reducible repeat' first | intro _ | apply (d106 _ _ _).2 | apply ag.dv | apply ag.ab | apply ag.ez | apply ag.bs | exact ag.bp _⟩
def d191(d:ByteArray):{c // ag c (mC d)}:=⟨_,by
 unfold mC
 with_reducible repeat' first | intro _ | apply (d106 _ _ _).2 | apply ag.dv | apply ag.ab | apply ag.ez | apply ag.bs | exact ag.bp _⟩
def sV(f:(List cA))(x1:(cA→Option Bool)):Option Int :=
 (iN (O:=(Unit ⊕ Int)) (λ (d:Int) =>
 ab (decide (d < (f.length:Int)))
 ((idx f d).bind λ g =>
 (x1 g).bind λ m =>
 ab m
 (some (.inr (.inr d)))
 (some (.inl (i64 (d+1)))))
 (some (.inr (.inl ())))) 0).bind (Sum.elim (λ (_:Unit) =>
 some (-1))
  (λ q=>some q))
theorem Gh(d:(List cA)){x1 f:(cA→Option Bool)}(g:∀ y,ag (x1 y) (f y)):ag (sV d x1) (nP d f):=by
 unfold sV nP
 with_reducible repeat' first | exact ag.bp _ | refine ag.dv λ _=>?_ | refine ag.ab ?_ ?_ | refine ag.ez (λ _=>?_) (λ _=>?_) _ | exact g _ | exact m _ _ | refine ag.bs ?_ λ _=>?_
def wL(d:(List cA))(x1:(cA→Option Bool)):Option Bool :=
 (sV d x1).bind λ f =>
 some (decide (f ≥ 0))
theorem Gg(d:(List cA)){x1 f:(cA→Option Bool)}(g:∀ y,ag (x1 y) (f y)):ag (wL d x1) (mD d f):=by
 unfold wL mD
 with_reducible repeat' first | exact ag.bp _ | refine Gh _ (λ _=>?_) | exact g _ | exact m _ _ | refine ag.bs ?_ λ _=>?_
def d193(d:cA)(x1:cA):{c // ag c (mE d x1)}:=⟨_,by
 unfold mE
 with_reducible repeat' first | intro _ | apply ag.bs | exact ag.bp _⟩
def d188(d:an):{c // ag c (mz d)}:=⟨_,by
 unfold mz
 with_reducible repeat' first | intro _ | apply (d65 _ _).2 | apply (d95 _ _ _ _).2 | apply (d106 _ _ _).2 | apply (d191 _).2 | apply Gg | apply (d193 _ _).2 | apply ag.dv | apply ag.ab | apply ag.ez | apply ag.bs | exact ag.bp _⟩
def d67(d:(List Bool))(x1:(List Int)):{c // ag c (e9 d x1)}:=⟨_,by
 unfold e9
 with_reducible repeat' first | intro _ | apply ag.dv | apply ag.ab | apply ag.bs | exact ag.bp _⟩
abbrev oY(d:(List Bool))(x1:(List Int)):=(d67 d x1).1
theorem tZ(d:(List Bool))(x1:(List Int)):ag (oY d x1) (e9 d x1):=(d67 d x1).2
def d71(d:an)(x1:Int):{c // ag c (jA d x1)}:=⟨_,by
 unfold jA
 with_reducible repeat' first | intro _ | apply (d106 _ _ _).2 | apply ag.bs | exact ag.bp _⟩
def sP(f:(List Int))(x1:(Int→Option Bool)):Option Int :=
 (iN (O:=(Unit ⊕ Int)) (λ (d:Int) =>
 ab (decide (d < (f.length:Int)))
 ((idx f d).bind λ g =>
 (x1 g).bind λ m =>
 ab m
 (some (.inr (.inr d)))
 (some (.inl (i64 (d+1)))))
 (some (.inr (.inl ())))) 0).bind (Sum.elim (λ (_:Unit) =>
 some (-1))
  (λ q=>some q))
theorem F0(d:(List Int)){x1 f:(Int→Option Bool)}(g:∀ y,ag (x1 y) (f y)):ag (sP d x1) (nJ d f):=by
 unfold sP nJ
 with_reducible repeat' first | exact ag.bp _ | refine ag.dv λ _=>?_ | refine ag.ab ?_ ?_ | refine ag.ez (λ _=>?_) (λ _=>?_) _ | exact g _ | exact m _ _ | refine ag.bs ?_ λ _=>?_
def wu(d:(List Int))(x1:(Int→Option Bool)):Option Bool :=
 (sP d x1).bind λ f =>
 some (decide (f ≥ 0))
theorem yq(d:(List Int)){x1 f:(Int→Option Bool)}(g:∀ y,ag (x1 y) (f y)):ag (wu d x1) (kN d f):=by
 unfold wu kN
 with_reducible repeat' first | exact ag.bp _ | refine F0 _ (λ _=>?_) | exact g _ | exact m _ _ | refine ag.bs ?_ λ _=>?_
def d160(d:(List Int))(x1:Int):{c // ag c (nO d x1)}:=⟨_,by
 unfold nO
 with_reducible repeat' first | intro _ | apply ag.dv | apply ag.ab | apply ag.ez | apply ag.bs | exact ag.bp _⟩
def d151(d:(List Int))(x1:Int):{c // ag c (mn d x1)}:=⟨_,by
 unfold mn
 with_reducible repeat' first | intro _ | apply (d160 _ _).2 | apply ag.bs | exact ag.bp _⟩
def d132(d:an)(x1:Int):{c // ag c (mi d x1)}:=⟨_,by
 unfold mi
 with_reducible repeat' first | intro _ | apply (d151 _ _).2 | apply ag.dv | apply ag.ab | apply ag.bs | exact ag.bp _⟩
def d133(d:Int)(x1:(List Bool)):{c // ag c (mj d x1)}:=⟨_,by
 unfold mj
 with_reducible repeat' first | intro _ | apply ag.bs | exact ag.bp _⟩
def d115(d:an)(x1:(List Bool))(x2:Int):{c // ag c (j0 d x1 x2)}:=⟨_,by
 unfold j0
 with_reducible repeat' first | intro _ | apply yq | apply (d132 _ _).2 | apply (d133 _ _).2 | apply ag.ab | apply ag.bs | exact ag.bp _⟩
def d85(d:an)(x1:(List Bool))(x2:(List Int)):{c // ag c (j8 d x1 x2)}:=⟨_,by
 unfold j8
 with_reducible repeat' first | intro _ | apply (d67 _ _).2 | apply (d71 _ _).2 | apply (d115 _ _ _).2 | apply ag.dv | apply ag.ab | apply ag.ez | apply ag.bs | exact ag.bp _⟩
def d189(d:an):{c // ag c (mA d)}:=⟨_,by
 unfold mA
 with_reducible repeat' first | intro _ | apply (d85 _ _ _).2 | apply ag.bs | exact ag.bp _⟩
def d190(d:an):{c // ag c (mB d)}:=⟨_,by
 unfold mB
 with_reducible repeat' first | intro _ | apply (d106 _ _ _).2 | apply ag.dv | apply ag.ab | apply ag.ez | apply ag.bs | exact ag.bp _⟩
def d63(d:an):{c // ag c (gF d)}:=⟨_,by
 unfold gF
 with_reducible repeat' first | intro _ | apply (d187 _).2 | apply (d188 _).2 | apply (d189 _).2 | apply (d190 _).2 | apply ag.ab | apply ag.bs | exact ag.bp _⟩
abbrev wY(d:an):=(d63 d).1
theorem GF(d:an):ag (wY d) (gF d):=(d63 d).2
def d108(d:Int):{c // ag c (nD d)}:=⟨_,by
 unfold nD
 with_reducible repeat' first | intro _ | apply (d106 _ _ _).2 | apply ag.bs | exact ag.bp _⟩
def d64(d:an)(x1:dq):{c // ag c (m64 d x1)}:=⟨_,by
 unfold m64
 with_reducible repeat' first | intro _ | apply (d106 _ _ _).2 | apply yq | apply (d108 _).2 | apply ag.ab | apply ag.bs | exact ag.bp _⟩
def d25(d:an)(x1:dq)(x2:(List Int)):{c // ag c (nR d x1 x2)}:=⟨_,by
 unfold nR
 with_reducible repeat' first | intro _ | apply (d63 _).2 | apply (d64 _ _).2 | apply (d65 _ _).2 | apply (d66 _ _ _).2 | apply (d67 _ _).2 | apply ag.ab | apply ag.bs | exact ag.bp _⟩
abbrev wN(d:an)(x1:dq)(x2:(List Int)):=(d25 d x1 x2).1
theorem Gl(d:an)(x1:dq)(x2:(List Int)):ag (wN d x1 x2) (nR d x1 x2):=(d25 d x1 x2).2
def d78(d:an)(x1:Int):{c // ag c (jB d x1)}:=⟨_,by
 unfold jB
 with_reducible repeat' first | intro _ | apply ag.bs | exact ag.bp _⟩
def sS(f:(List bU))(x1:(bU→Option Bool)):Option Int :=
 (iN (O:=(Unit ⊕ Int)) (λ (d:Int) =>
 ab (decide (d < (f.length:Int)))
 ((idx f d).bind λ g =>
 (x1 g).bind λ m =>
 ab m
 (some (.inr (.inr d)))
 (some (.inl (i64 (d+1)))))
 (some (.inr (.inl ())))) 0).bind (Sum.elim (λ (_:Unit) =>
 some (-1))
  (λ q=>some q))
theorem F4(d:(List bU)){x1 f:(bU→Option Bool)}(g:∀ y,ag (x1 y) (f y)):ag (sS d x1) (nN d f):=by
 unfold sS nN
 with_reducible repeat' first | exact ag.bp _ | refine ag.dv λ _=>?_ | refine ag.ab ?_ ?_ | refine ag.ez (λ _=>?_) (λ _=>?_) _ | exact g _ | exact m _ _ | refine ag.bs ?_ λ _=>?_
def wB(d:(List bU))(x1:(bU→Option Bool)):Option Bool :=
 (sS d x1).bind λ f =>
 some (decide (f ≥ 0))
theorem F1(d:(List bU)){x1 f:(bU→Option Bool)}(g:∀ y,ag (x1 y) (f y)):ag (wB d x1) (mg d f):=by
 unfold wB mg
 with_reducible repeat' first | exact ag.bp _ | refine F4 _ (λ _=>?_) | exact g _ | exact m _ _ | refine ag.bs ?_ λ _=>?_
def d128(d:Int):{c // ag c (mh d)}:=⟨_,by
 unfold mh
 with_reducible repeat' first | intro _ | apply ag.ab | apply ag.bs | exact ag.bp _⟩
def d127(d:bU)(x1:Int)(x2:Int):{c // ag c (kS d x1 x2)}:=⟨_,by
 unfold kS
 with_reducible repeat' first | intro _ | apply (d128 _).2 | apply ag.ab | apply ag.bs | exact ag.bp _⟩
def d110(d:an)(x1:bm):{c // ag c (kO d x1)}:=⟨_,by
 unfold kO
 with_reducible repeat' first | intro _ | apply (d66 _ _ _).2 | apply (d67 _ _).2 | apply (d78 _ _).2 | apply F1 | apply (d127 _ _ _).2 | apply ag.dv | apply ag.ab | apply ag.ez | apply ag.bs | exact ag.bp _⟩
abbrev wv(d:an)(x1:bm):=(d110 d x1).1
theorem FV(d:an)(x1:bm):ag (wv d x1) (kO d x1):=(d110 d x1).2
def qK{S:Type}(ys:bm→S→Option (S × Bool)):Nat→bm→Int→an→S→Option (S × Bool)
 | 0,_,_,_,_=>none
 | k+1,f,x1,x2,g =>
  ab (x1 == (x2.ao.length:Int))
  (((((wv x2 f).bind λ B =>
  ab (!B)
  (some (g,true))
  ((ys f g).bind λ y =>
  some (y.1,y.2))):Option (S × Bool))).bind (λ (s:(S × Bool)) =>
  some (s.1,s.2)))
  ((idx x2.ao x1).bind λ z =>
  (iN (O:=(S ⊕ (S × Bool))) (λ (d:(S × Int × (List Int))) =>
  ab (decide (d.2.1≤z.Weight.ak))
  ((idx d.2.2 x1).bind λ _ =>
  (qK ys k (⟨f.eb,d.2.2.set x1.toNat d.2.1⟩:bm) (i64 (x1+1)) x2 d.1).bind λ m =>
  ab (!m.2)
  (some (.inr (.inr (m.1,false))))
  (some (.inl (m.1,i64 (d.2.1+1),d.2.2.set x1.toNat d.2.1))))
  (some (.inr (.inl d.1)))) (g,z.Weight.ai,f.weights)).bind (Sum.elim (λ (A:S) =>
  some (A,true))
   (λ q=>some q)))
theorem yr{S:Type}{ys g:bm→S→Option (S × Bool)}(h:∀ y s,ag (ys y s) (g y s)):∀ k f x1 x2 d,ag (qK ys k f x1 x2 d) (iQ g k f x1 x2 d)
 | 0,_,_,_,_=>ag.none
 | k+1,f,x1,x2,d=>by
  have m:=yr h k
  rw [qK,iQ]
  with_reducible repeat' first | exact ag.bp _ | refine ag.dv λ _=>?_ | refine ag.ab ?_ ?_ | refine ag.ez (λ _=>?_) (λ _=>?_) _ | exact FV _ _ | exact h _ _ | exact m _ _ _ _ | refine ag.bs ?_ λ _=>?_
def s3{S:Type}(ys:bm→S→Option (S × Bool))(f:an)(s:S):Option S :=
 (iN (O:=(S ⊕ S)) (λ (d:(S × Int)) =>
  ab (decide (d.2≤f.ad.ak))
  ((qK ys 9 (⟨d.2,[0,0,0,0,0]⟩:bm) 0 f d.1).bind λ g =>
  ab (!g.2)
  (some (.inr (.inr g.1)))
  (some (.inl (g.1,i64 (d.2+1)))))
  (some (.inr (.inl d.1)))) (s,f.ad.ai)).bind (Sum.elim (λ (m:S) =>
  some m)
   (λ q=>some q))
theorem ua{S:Type}{ys g:bm→S→Option (S × Bool)}(h:∀ y s,ag (ys y s) (g y s))(f:an)(d:S):ag (s3 ys f d) (hN g f d):=by
 unfold s3 hN
 with_reducible repeat' first | exact ag.bp _ | refine ag.dv λ _=>?_ | refine ag.ab ?_ ?_ | refine ag.ez (λ _=>?_) (λ _=>?_) _ | refine yr (λ _ _=>?_) _ _ _ _ _ | exact h _ _ | refine ag.bs ?_ λ _=>?_
def d26(d:an):{c // ag c (iT d)}:=⟨_,by
 unfold iT
 with_reducible repeat' first | intro _ | apply (d63 _).2 | apply ua | apply ag.ab | apply ag.ez | apply ag.cp | apply ag.bs | exact ag.bp _⟩
abbrev sX(d:an):=(d26 d).1
theorem Gm(d:an):ag (sX d) (iT d):=(d26 d).2
def sQ (x1:(bm→((List bm) ⊕ Empty)→Option (((List bm) ⊕ Empty) × Bool))→((List bm) ⊕ Empty)→Option ((List bm) ⊕ Empty)):Option (List bm) :=
 (x1 (cp (λ (f:bm) (d:(List bm))=>(((cu d [f]).bind λ g =>
 some (.inl g)):Option ((List bm) ⊕ Empty)))) (.inl [])).bind (Sum.elim (λ (d:(List bm)) =>
 some d)
  (λ (o:Empty)=>o.elim))
theorem F2{x1 f:(bm→((List bm) ⊕ Empty)→Option (((List bm) ⊕ Empty) × Bool))→((List bm) ⊕ Empty)→Option ((List bm) ⊕ Empty)}(d:∀ ys g,(∀ y s,ag (ys y s) (g y s))→∀ s,ag (x1 ys s) (f g s)):ag (sQ x1) (nK f):=by
 unfold sQ nK
 with_reducible repeat' first | exact ag.bp _ | refine ag.ez (λ _=>?_) (λ _=>?_) _ | refine ag.cp (λ _ _=>?_) _ _ | refine d _ _ (λ _ _=>?_) _ | exact d | exact m _ _ | refine ag.bs ?_ λ _=>?_
def sO (d:(bm→((List bm) ⊕ Empty)→Option (((List bm) ⊕ Empty) × Bool))→((List bm) ⊕ Empty)→Option ((List bm) ⊕ Empty)):Option (List bm) :=
 (sQ d).bind λ f =>
 some f
theorem FW{f g:(bm→((List bm) ⊕ Empty)→Option (((List bm) ⊕ Empty) × Bool))→((List bm) ⊕ Empty)→Option ((List bm) ⊕ Empty)}(d:∀ ys m,(∀ y s,ag (ys y s) (m y s))→∀ s,ag (f ys s) (g m s)):ag (sO f) (me g):=by
 unfold sO me
 with_reducible repeat' first | exact ag.bp _ | refine F2 (λ _ _ z _=>?_) | refine d _ _ (λ _ _=>?_) _ | exact d | exact z _ _ | refine ag.bs ?_ λ _=>?_
def wZ(d:an)(x1:(an→Option Int)):Option (cN × Int) :=
 (wY d).bind λ f =>
 ab (f != 0)
 (some ((⟨⟨0,⟨0,0⟩,[],[],[]⟩,[],gh⟩:cN),f))
 ((x1 d).bind λ g =>
 ab (g != 0)
 (some ((⟨⟨0,⟨0,0⟩,[],[],[]⟩,[],gh⟩:cN),g))
 ((sO (λ y s=>s3 y d s)).bind λ m =>
 ab ((m.length:Int) == 0)
 (some ((⟨⟨0,⟨0,0⟩,[],[],[]⟩,[],gh⟩:cN),9))
 (some ((⟨⟨d.ax,⟨d.ad.ai,d.ad.ak⟩,d.ao,d.Out,d.aV⟩,m,[]⟩:cN),0))))
theorem jY(d:an){x1 f:(an→Option Int)}(g:∀ y,ag (x1 y) (f y)):ag (wZ d x1) (gR d f):=by
 unfold wZ gR
 with_reducible repeat' first | exact ag.bp _ | refine ag.ab ?_ ?_ | exact GF _ | refine ua (λ _ _=>?_) _ _ | refine FW (λ _ _ m _=>?_) | exact g _ | exact m _ _ | refine ag.bs ?_ λ _=>?_
def d70(d:an)(x1:Int):{c // ag c (mH d x1)}:=⟨_,by
 unfold mH
 with_reducible repeat' first | intro _ | apply (d71 _ _).2 | apply ag.ab | apply ag.bs | exact ag.bp _⟩
def d152(d:Int):{c // ag c (j5 d)}:=⟨_,by
 unfold j5
 with_reducible repeat' first | intro _ | apply ag.bs | exact ag.bp _⟩
def d146(d:Int)(x1:Int):{c // ag c (dV d x1)}:=⟨_,by
 unfold dV
 with_reducible repeat' first | intro _ | apply (d152 _).2 | apply ag.ab | apply ag.bs | exact ag.bp _⟩
abbrev wI(d:Int)(x1:Int):=(d146 d x1).1
theorem Gb(d:Int)(x1:Int):ag (wI d x1) (dV d x1):=(d146 d x1).2
def d140(d:(List Int))(x1:Int)(x2:Int):{c // ag c (kV d x1 x2)}:=⟨_,by
 unfold kV
 with_reducible repeat' first | intro _ | apply (d146 _ _).2 | apply ag.dv | apply ag.ab | apply ag.bs | exact ag.bp _⟩
abbrev wC(d:(List Int))(x1:Int)(x2:Int):=(d140 d x1 x2).1
theorem F5(d:(List Int))(x1:Int)(x2:Int):ag (wC d x1 x2) (kV d x1 x2):=(d140 d x1 x2).2
def d155(d:(List Int))(x1:Int)(x2:Int)(x3:Int):{c // ag c (la d x1 x2 x3)}:=⟨_,by
 unfold la
 with_reducible repeat' first | intro _ | apply (d146 _ _).2 | apply ag.dv | apply ag.ab | apply ag.ez | apply ag.bs | exact ag.bp _⟩
def d141(d:(List Int))(x1:Int)(x2:Int):{c // ag c (kW d x1 x2)}:=⟨_,by
 unfold kW
 with_reducible repeat' first | intro _ | apply (d155 _ _ _ _).2 | apply ag.dv | apply ag.ab | apply ag.bs | exact ag.bp _⟩
abbrev wD(d:(List Int))(x1:Int)(x2:Int):=(d141 d x1 x2).1
theorem F6(d:(List Int))(x1:Int)(x2:Int):ag (wD d x1 x2) (kW d x1 x2):=(d141 d x1 x2).2
def d150(d:Int):{c // ag c (pw d)}:=⟨_,by
 unfold pw
 with_reducible repeat' first | intro _ | apply ag.ab | apply ag.bs | exact ag.bp _⟩
def d131(d:Int):{c // ag c (kT d)}:=⟨_,by
 unfold kT
 with_reducible repeat' first | intro _ | apply (d150 _).2 | apply ag.bs | exact ag.bp _⟩
abbrev sR(d:Int):=(d131 d).1
theorem F3(d:Int):ag (sR d) (kT d):=(d131 d).2
def d156(d:Int):{c // ag c (mq d)}:=⟨_,by
 unfold mq
 with_reducible repeat' first | intro _ | apply (d131 _).2 | apply ag.bs | exact ag.bp _⟩
abbrev sT(d:Int):=(d156 d).1
theorem Ge(d:Int):ag (sT d) (mq d):=(d156 d).2
def d157(d:Int):{c // ag c (mv d)}:=⟨_,by
 unfold mv
 with_reducible repeat' first | intro _ | apply ag.bs | exact ag.bp _⟩
def d142(d:(List Int))(x1:Int)(x2:Int):{c // ag c (j3 d x1 x2)}:=⟨_,by
 unfold j3
 with_reducible repeat' first | intro _ | apply (d156 _).2 | apply (d157 _).2 | apply ag.dv | apply ag.ab | apply ag.bs | exact ag.bp _⟩
abbrev wE(d:(List Int))(x1:Int)(x2:Int):=(d142 d x1 x2).1
theorem F7(d:(List Int))(x1:Int)(x2:Int):ag (wE d x1 x2) (j3 d x1 x2):=(d142 d x1 x2).2
def d162(d:(List Int))(x1:Int)(x2:Int)(x3:Int):{c // ag c (h9 d x1 x2 x3)}:=⟨_,by
 unfold h9
 with_reducible repeat' first | intro _ | apply (d146 _ _).2 | apply ag.ab | apply ag.bs | exact ag.bp _⟩
def d159(d:(List Int))(x1:Int)(x2:Int)(x3:Int)(x4:Int):{c // ag c (iS d x1 x2 x3 x4)}:=⟨_,by
 unfold iS
 with_reducible repeat' first | intro _ | apply (d162 _ _ _ _).2 | apply ag.bs | exact ag.bp _⟩
def d158(d:(List Int))(x1:Int)(x2:Int):{c // ag c (h8 d x1 x2)}:=⟨_,by
 unfold h8
 with_reducible repeat' first | intro _ | apply (d159 _ _ _ _ _).2 | apply ag.bs | exact ag.bp _⟩
def d143(d:(List Int))(x1:Int)(x2:Int):{c // ag c (kY d x1 x2)}:=⟨_,by
 unfold kY
 with_reducible repeat' first | intro _ | apply (d158 _ _ _).2 | apply (d159 _ _ _ _ _).2 | apply ag.ab | apply ag.bs | exact ag.bp _⟩
abbrev wF(d:(List Int))(x1:Int)(x2:Int):=(d143 d x1 x2).1
theorem F8(d:(List Int))(x1:Int)(x2:Int):ag (wF d x1 x2) (kY d x1 x2):=(d143 d x1 x2).2
def d144(d:(List Int))(x1:Int)(x2:Int):{c // ag c (j4 d x1 x2)}:=⟨_,by
 unfold j4
 with_reducible repeat' first | intro _ | apply ag.dv | apply ag.ab | apply ag.bs | exact ag.bp _⟩
abbrev wG(d:(List Int))(x1:Int)(x2:Int):=(d144 d x1 x2).1
theorem F9(d:(List Int))(x1:Int)(x2:Int):ag (wG d x1 x2) (j4 d x1 x2):=(d144 d x1 x2).2
def d145(d:(List Int))(x1:Int)(x2:Int):{c // ag c (jw d x1 x2)}:=⟨_,by
 unfold jw
 with_reducible repeat' first | intro _ | apply (d146 _ _).2 | apply ag.dv | apply ag.ab | apply ag.ez | apply ag.bs | exact ag.bp _⟩
abbrev wH(d:(List Int))(x1:Int)(x2:Int):=(d145 d x1 x2).1
theorem Ga(d:(List Int))(x1:Int)(x2:Int):ag (wH d x1 x2) (jw d x1 x2):=(d145 d x1 x2).2
def d147(d:(List Int))(x1:Int)(x2:Int)(x3:Int):{c // ag c (kZ d x1 x2 x3)}:=⟨_,by
 unfold kZ
 with_reducible repeat' first | intro _ | apply (d146 _ _).2 | apply ag.dv | apply ag.ab | apply ag.bs | exact ag.bp _⟩
abbrev wJ(d:(List Int))(x1:Int)(x2:Int)(x3:Int):=(d147 d x1 x2 x3).1
theorem Gc(d:(List Int))(x1:Int)(x2:Int)(x3:Int):ag (wJ d x1 x2 x3) (kZ d x1 x2 x3):=(d147 d x1 x2 x3).2
def d148(d:(List Int))(x1:Int)(x2:Int)(x3:Int):{c // ag c (k0 d x1 x2 x3)}:=⟨_,by
 unfold k0
 with_reducible repeat' first | intro _ | apply (d146 _ _).2 | apply ag.dv | apply ag.ab | apply ag.bs | exact ag.bp _⟩
abbrev wK(d:(List Int))(x1:Int)(x2:Int)(x3:Int):=(d148 d x1 x2 x3).1
theorem Gd(d:(List Int))(x1:Int)(x2:Int)(x3:Int):ag (wK d x1 x2 x3) (k0 d x1 x2 x3):=(d148 d x1 x2 x3).2
def qM:Nat→(List Int)→Int→Int→Int→Option (List Int)
 | 0,_,_,_,_=>none
 | k+1,E,x1,x2,x3 =>
  (iN (O:=(List Int)) (λ (d:((List Int) × Int × Int × Int × Bool × Bool)) =>
  ab (decide (i64 (d.2.2.1 - d.2.1)≤12))
  ((wC d.1 d.2.1 d.2.2.1).bind λ F =>
  some (.inr F))
  (ab (d.2.2.2.1 == 0)
  ((wD d.1 d.2.1 d.2.2.1).bind λ G =>
  some (.inr G))
  ((((ab (!d.2.2.2.2.1)
  ((wE d.1 d.2.1 d.2.2.1).bind λ H =>
  some (H,i64 (d.2.2.2.1 - 1)))
  (some (d.1,d.2.2.2.1))):Option ((List Int) × Int))).bind (λ (g:((List Int) × Int)) =>
  (wF g.1 d.2.1 d.2.2.1).bind λ y =>
  (((ab (y.2 == 2)
  ((wG g.1 d.2.1 d.2.2.1).bind λ I =>
  some (I,i64 ((i64 (d.2.2.1 - 1)) - (i64 (y.1 - d.2.1))),1))
  (some (g.1,y.1,y.2))):Option ((List Int) × Int × Int))).bind (λ (m:((List Int) × Int × Int)) =>
  (((ab d.2.2.2.2.1
  (ab d.2.2.2.2.2
  (some (m.2.2 == 1))
  (some false))
  (some false)):Option Bool)).bind (λ (C:Bool) =>
  (((ab C
  ((wH m.1 d.2.1 d.2.2.1).bind λ z =>
  ab z.2
  (some (.inr z.1))
  (some (.inl z.1)))
  (some (.inl m.1))):Option ((List Int) ⊕ (List Int)))).bind (Sum.elim (λ (s:(List Int)) =>
  (((ab (decide (d.2.1 > 0))
  ((idx s (i64 (d.2.1 - 1))).bind λ J =>
  (idx s m.2.1).bind λ K =>
  (wI J K).bind λ L =>
  some (!L))
  (some false)):Option Bool)).bind (λ (D:Bool) =>
  ab D
  ((wJ s d.2.1 d.2.2.1 m.2.1).bind λ A =>
  some (.inl (A.1,A.2,d.2.2.1,g.2,d.2.2.2.2.1,d.2.2.2.2.2)))
  ((wK s d.2.1 d.2.2.1 m.2.1).bind λ f =>
  (fe (i64 (d.2.2.1 - d.2.1)) 8).bind λ B =>
  ab (decide (i64 (f.2.1 - d.2.1) < i64 (d.2.2.1 - f.2.1)))
  ((qM k f.1 d.2.1 f.2.1 g.2).bind λ M =>
  some (.inl (M,i64 (f.2.1+1),d.2.2.1,g.2,decide (i64 (f.2.1 - d.2.1) ≥ B),f.2.2)))
  ((qM k f.1 (i64 (f.2.1+1)) d.2.2.1 g.2).bind λ N =>
  some (.inl (N,d.2.1,f.2.1,g.2,decide (i64 (d.2.2.1 - f.2.1) ≥ B),f.2.2))))))
   (λ q=>some (.inr q))))))))) (E,x1,x2,x3,true,true)).bind (λ q=>some q)
theorem yu:∀ k d x1 x2 x3,ag (qM k d x1 x2 x3) (iR k d x1 x2 x3)
 | 0,_,_,_,_=>ag.none
 | k+1,d,x1,x2,x3=>by
  have f:=yu k
  rw [qM,iR]
  with_reducible repeat' first | exact ag.bp _ | refine ag.dv λ _=>?_ | refine ag.ab ?_ ?_ | refine ag.ez (λ _=>?_) (λ _=>?_) _ | exact F5 _ _ _ | exact F6 _ _ _ | exact F7 _ _ _ | exact F8 _ _ _ | exact F9 _ _ _ | exact Ga _ _ _ | exact Gb _ _ | exact Gc _ _ _ _ | exact Gd _ _ _ _ | exact f _ _ _ _ | refine ag.bs ?_ λ _=>?_
def d112(d:(List Int)):{c // ag c (kP d)}:=⟨_,by
 unfold kP
 with_reducible repeat' first | intro _ | apply yu | apply (d131 _).2 | apply ag.bs | exact ag.bp _⟩
abbrev wx(d:(List Int)):=(d112 d).1
theorem FX(d:(List Int)):ag (wx d) (kP d):=(d112 d).2
def d113(d:(List Int)):{c // ag c (kQ d)}:=⟨_,by
 unfold kQ
 with_reducible repeat' first | intro _ | apply ag.dv | apply ag.ab | apply ag.ez | apply ag.bs | exact ag.bp _⟩
abbrev wy(d:(List Int)):=(d113 d).1
theorem FY(d:(List Int)):ag (wy d) (kQ d):=(d113 d).2
def w0(f:cN)(x1:(bm→Option Int)):Option (List Int) :=
 (iN (O:=(List Int)) (λ (d:((List Int) × Int)) =>
 ab (decide (d.2 < (f.cW.length:Int)))
 ((idx f.cW d.2).bind λ m =>
 (x1 m).bind λ s =>
 (cu d.1 [s]).bind λ y =>
 some (.inl (y,i64 (d.2+1))))
 (some (.inr d.1))) ([],0)).bind (λ (g:(List Int)) =>
 (wx g).bind λ z =>
 (wy z).bind λ A =>
 some A)
theorem yx(d:cN){x1 f:(bm→Option Int)}(g:∀ y,ag (x1 y) (f y)):ag (w0 d x1) (lp d f):=by
 unfold w0 lp
 with_reducible repeat' first | exact ag.bp _ | refine ag.dv λ _=>?_ | refine ag.ab ?_ ?_ | exact FX _ | exact FY _ | exact g _ | exact m _ _ | refine ag.bs ?_ λ _=>?_
def d73(d:bm)(x1:Int):{c // ag c (mI d x1)}:=⟨_,by
 unfold mI
 with_reducible repeat' first | intro _ | apply ag.bs | exact ag.bp _⟩
def d27(d:an)(x1:Int):{c // ag c (jx d x1)}:=⟨_,by
 unfold jx
 with_reducible repeat' first | intro _ | apply jY | apply (d70 _ _).2 | apply yx | apply (d73 _ _).2 | apply ag.ab | apply ag.bs | exact ag.bp _⟩
abbrev wO(d:an)(x1:Int):=(d27 d x1).1
theorem Gn(d:an)(x1:Int):ag (wO d x1) (jx d x1):=(d27 d x1).2
def d114(d:an)(x1:(List Int)):{c // ag c (hL d x1)}:=⟨_,by
 unfold hL
 with_reducible repeat' first | intro _ | apply (d65 _ _).2 | apply ag.bs | exact ag.bp _⟩
def d74(d:(List Int)):{c // ag c (mJ d)}:=⟨_,by
 unfold mJ
 with_reducible repeat' first | intro _ | apply ag.bs | exact ag.bp _⟩
def d75(d:bm)(x1:cN)(x2:(List Int)):{c // ag c (mK d x1 x2)}:=⟨_,by
 unfold mK
 with_reducible repeat' first | intro _ | apply (d66 _ _ _).2 | apply (d67 _ _).2 | apply ag.bs | exact ag.bp _⟩
def d28(d:an)(x1:(List Int)):{c // ag c (jy d x1)}:=⟨_,by
 unfold jy
 with_reducible repeat' first | intro _ | apply jY | apply yx | apply (d74 _).2 | apply (d75 _ _ _).2 | apply (d114 _ _).2 | apply ag.ab | apply ag.bs | exact ag.bp _⟩
abbrev wP(d:an)(x1:(List Int)):=(d28 d x1).1
theorem Gp(d:an)(x1:(List Int)):ag (wP d x1) (jy d x1):=(d28 d x1).2
def w6(f:cN)(x1:(bm→Option Bool)):Option Int :=
 (iN (O:=Int) (λ (d:(Int × Int)) =>
 ab (decide (d.2 < (f.cW.length:Int)))
 ((idx f.cW d.2).bind λ m =>
 (x1 m).bind λ s =>
 ab s
 (some (.inl (i64 (d.1+1),i64 (d.2+1))))
 (some (.inl (d.1,i64 (d.2+1)))))
 (some (.inr d.1))) (0,0)).bind (λ (g:Int) =>
 ab (g == 0)
 (some 2)
 (ab (g == (f.cW.length:Int))
 (some 1)
 (some 0)))
theorem yy(d:cN){x1 f:(bm→Option Bool)}(g:∀ y,ag (x1 y) (f y)):ag (w6 d x1) (lq d f):=by
 unfold w6 lq
 with_reducible repeat' first | exact ag.bp _ | refine ag.dv λ _=>?_ | refine ag.ab ?_ ?_ | exact g _ | exact m _ _ | refine ag.bs ?_ λ _=>?_
def d77(d:bm)(x1:cN)(x2:(List Int)):{c // ag c (oa d x1 x2)}:=⟨_,by
 unfold oa
 with_reducible repeat' first | intro _ | apply (d66 _ _ _).2 | apply (d67 _ _).2 | apply (d78 _ _).2 | apply ag.bs | exact ag.bp _⟩
def d29(d:an)(x1:(List Int)):{c // ag c (mF d x1)}:=⟨_,by
 unfold mF
 with_reducible repeat' first | intro _ | apply jY | apply (d74 _).2 | apply yy | apply (d77 _ _ _).2 | apply (d114 _ _).2 | apply ag.ab | apply ag.bs | exact ag.bp _⟩
abbrev sY(d:an)(x1:(List Int)):=(d29 d x1).1
theorem Gq(d:an)(x1:(List Int)):ag (sY d x1) (mF d x1):=(d29 d x1).2
def d79(d:an)(x1:(List Bool)):{c // ag c (jC d x1)}:=⟨_,by
 unfold jC
 with_reducible repeat' first | intro _ | apply (d115 _ _ _).2 | apply ag.dv | apply ag.ab | apply ag.bs | exact ag.bp _⟩
abbrev w7(d:an)(x1:(List Bool)):=(d79 d x1).1
theorem GG(d:an)(x1:(List Bool)):ag (w7 d x1) (jC d x1):=(d79 d x1).2
def d30(d:an):{c // ag c (nS d)}:=⟨_,by
 unfold nS
 with_reducible repeat' first | intro _ | apply (d63 _).2 | apply (d67 _ _).2 | apply (d79 _ _).2 | apply ag.ab | apply ag.bs | exact ag.bp _⟩
abbrev wQ(d:an):=(d30 d).1
theorem Gr(d:an):ag (wQ d) (nS d):=(d30 d).2
def d80(d:an):{c // ag c (gS d)}:=⟨_,by
 unfold gS
 with_reducible repeat' first | intro _ | apply ag.bs | exact ag.bp _⟩
def wA{S:Type}(ys:(List Bool)→S→Option (S × Bool))(x1:an)(x2:(List Int))(s:S):Option S :=
 (oY [false,false,false,false,false] x1.Out).bind λ y =>
  (iN (O:=(S ⊕ S)) (λ (d:(S × Int × (List Bool))) =>
  ab (decide (d.2.1 < (x2.length:Int)))
  ((idx x2 d.2.1).bind λ z =>
  (oY d.2.2 [z]).bind λ g =>
  (ys g d.1).bind λ f =>
  ab (!f.2)
  (some (.inr (.inr f.1)))
  (some (.inl (f.1,i64 (d.2.1+1),g))))
  (some (.inr (.inl d.1)))) (s,0,y)).bind (Sum.elim (λ (m:S) =>
  some m)
   (λ q=>some q))
theorem tY{S:Type}{ys f:(List Bool)→S→Option (S × Bool)}(h:∀ y s,ag (ys y s) (f y s))(x1:an)(x2:(List Int))(d:S):ag (wA ys x1 x2 d) (hf f x1 x2 d):=by
 unfold wA hf
 with_reducible repeat' first | exact ag.bp _ | refine ag.dv λ _=>?_ | refine ag.ab ?_ ?_ | refine ag.ez (λ _=>?_) (λ _=>?_) _ | exact tZ _ _ | exact h _ _ | refine ag.bs ?_ λ _=>?_
def d87(d:an)(x1:(List Int)):{c // ag c (jE d x1)}:=⟨_,by
 unfold jE
 with_reducible repeat' first | intro _ | apply ag.bs | exact ag.bp _⟩
def d82(d:cN)(x1:(List Int)):{c // ag c (mL d x1)}:=⟨_,by
 unfold mL
 with_reducible repeat' first | intro _ | apply (d87 _ _).2 | apply tY | apply ag.ez | apply ag.cp | apply ag.bs | exact ag.bp _⟩
def d31(d:an):{c // ag c (nT d)}:=⟨_,by
 unfold nT
 with_reducible repeat' first | intro _ | apply (d67 _ _).2 | apply jY | apply (d79 _ _).2 | apply (d80 _).2 | apply rl | apply (d82 _ _).2 | apply ag.dv | apply ag.ab | apply ag.bs | exact ag.bp _⟩
abbrev wR(d:an):=(d31 d).1
theorem Gs(d:an):ag (wR d) (nT d):=(d31 d).2
def d118(d:(List Int))(x1:(List Int)):{c // ag c (nF d x1)}:=⟨_,by
 unfold nF
 with_reducible repeat' first | intro _ | apply ag.dv | apply ag.ab | apply ag.ez | apply ag.bs | exact ag.bp _⟩
def d83(d:(List Int))(x1:(List Int)):{c // ag c (pS d x1)}:=⟨_,by
 unfold pS
 with_reducible repeat' first | intro _ | apply (d118 _ _).2 | apply ag.ab | apply ag.bs | exact ag.bp _⟩
def d32(d:(List Int))(x1:(List Int)):{c // ag c (m32 d x1)}:=⟨_,by
 unfold m32
 with_reducible repeat' first | intro _ | apply (d83 _ _).2 | apply ag.bs | exact ag.bp _⟩
abbrev lY(d:(List Int))(x1:(List Int)):=(d32 d x1).1
theorem Gt(d:(List Int))(x1:(List Int)):ag (lY d x1) (m32 d x1):=(d32 d x1).2
def d84(d:an)(x1:(List Int)):{c // ag c (lu d x1)}:=⟨_,by
 unfold lu
 with_reducible repeat' first | intro _ | apply (d67 _ _).2 | apply (d85 _ _ _).2 | apply ag.ab | apply ag.bs | exact ag.bp _⟩
def d86(d:bm)(x1:cN)(x2:(List Int)):{c // ag c (lx d x1 x2)}:=⟨_,by
 unfold lx
 with_reducible repeat' first | intro _ | apply (d66 _ _ _).2 | apply (d78 _ _).2 | apply (d87 _ _).2 | apply tY | apply ag.ab | apply ag.ez | apply ag.cp | apply ag.bs | exact ag.bp _⟩
def d34(d:an)(x1:(List Int)):{c // ag c (ia d x1)}:=⟨_,by
 unfold ia
 with_reducible repeat' first | intro _ | apply jY | apply yy | apply (d84 _ _).2 | apply (d86 _ _ _).2 | apply ag.ab | apply ag.bs | exact ag.bp _⟩
abbrev qO(d:an)(x1:(List Int)):=(d34 d x1).1
theorem Gu(d:an)(x1:(List Int)):ag (qO d x1) (ia d x1):=(d34 d x1).2
def d90(d:(List Int)):{c // ag c (iU d)}:=⟨_,by
 unfold iU
 with_reducible repeat' first | intro _ | apply ag.bs | exact ag.bp _⟩
abbrev xa(d:(List Int)):=(d90 d).1
theorem GH(d:(List Int)):ag (xa d) (iU d):=(d90 d).2
def qL{S:Type}(ys:(List Int)→S→Option (S × Bool)):Nat→(List Int)→(List Bool)→an→S→Option (S × Bool)
 | 0,_,_,_,_=>none
 | k+1,s,x1,x2,m =>
  (w7 x2 x1).bind λ f =>
  ab ((f.length:Int) == 0)
  ((ys s m).bind λ y =>
  some (y.1,y.2))
  ((iN (O:=(S ⊕ (S × Bool))) (λ (d:(S × Int)) =>
  ab (decide (d.2 < (f.length:Int)))
  ((idx f d.2).bind λ z =>
  (xa s).bind λ B =>
  (cu B [z]).bind λ C =>
  (oY x1 [z]).bind λ D =>
  (qL ys k C D x2 d.1).bind λ g =>
  ab (!g.2)
  (some (.inr (.inr (g.1,false))))
  (some (.inl (g.1,i64 (d.2+1)))))
  (some (.inr (.inl d.1)))) (m,0)).bind (Sum.elim (λ (A:S) =>
  some (A,true))
   (λ q=>some q)))
theorem yt{S:Type}{ys g:(List Int)→S→Option (S × Bool)}(h:∀ y s,ag (ys y s) (g y s)):∀ k f x1 x2 d,ag (qL ys k f x1 x2 d) (j2 g k f x1 x2 d)
 | 0,_,_,_,_=>ag.none
 | k+1,f,x1,x2,d=>by
  have m:=yt h k
  rw [qL,j2]
  with_reducible repeat' first | exact ag.bp _ | refine ag.dv λ _=>?_ | refine ag.ab ?_ ?_ | refine ag.ez (λ _=>?_) (λ _=>?_) _ | exact tZ _ _ | exact GG _ _ | exact GH _ | exact h _ _ | exact m _ _ _ _ | refine ag.bs ?_ λ _=>?_
def w9{S:Type}(ys:(List Int)→S→Option (S × Bool))(d:an)(f:S):Option S :=
 (oY [false,false,false,false,false] d.Out).bind λ g =>
  (qL ys 9 [] g d f).bind λ m =>
  some m.1
theorem ub{S:Type}{ys g:(List Int)→S→Option (S × Bool)}(h:∀ y s,ag (ys y s) (g y s))(f:an)(d:S):ag (w9 ys f d) (ig g f d):=by
 unfold w9 ig
 with_reducible repeat' first | exact ag.bp _ | exact tZ _ _ | refine yt (λ _ _=>?_) _ _ _ _ _ | exact h _ _ | refine ag.bs ?_ λ _=>?_
def d35(d:an):{c // ag c (ib d)}:=⟨_,by
 unfold ib
 with_reducible repeat' first | intro _ | apply jY | apply (d80 _).2 | apply rl | apply (d87 _ _).2 | apply ub | apply tY | apply ag.ab | apply ag.ez | apply ag.cp | apply ag.bs | exact ag.bp _⟩
abbrev qP(d:an):=(d35 d).1
theorem Gv(d:an):ag (qP d) (ib d):=(d35 d).2
def d36(d:an):{c // ag c (nV d)}:=⟨_,by
 unfold nV
 with_reducible repeat' first | intro _ | apply jY | apply (d80 _).2 | apply rl | apply (d82 _ _).2 | apply ub | apply ag.ab | apply ag.ez | apply ag.cp | apply ag.bs | exact ag.bp _⟩
abbrev wS(d:an):=(d36 d).1
theorem Gw(d:an):ag (wS d) (nV d):=(d36 d).2
def d89(d:ai)(x1:(List Int))(x2:Int):{c // ag c (pU d x1 x2)}:=⟨_,by
 unfold pU
 with_reducible repeat' first | intro _ | apply ag.ab | apply ag.bs | exact ag.bp _⟩
def d37(d:an):{c // ag c (nW d)}:=⟨_,by
 unfold nW
 with_reducible repeat' first | intro _ | apply jY | apply (d80 _).2 | apply rl | apply (d82 _ _).2 | apply ub | apply (d89 _ _ _).2 | apply ag.ab | apply ag.ez | apply ag.cp | apply ag.bs | exact ag.bp _⟩
abbrev wT(d:an):=(d37 d).1
theorem Gx(d:an):ag (wT d) (nW d):=(d37 d).2
def d38(d:an):{c // ag c (nX d)}:=⟨_,by
 unfold nX
 with_reducible repeat' first | intro _ | apply jY | apply (d80 _).2 | apply ag.dv | apply ag.ab | apply ag.bs | exact ag.bp _⟩
abbrev wU(d:an):=(d38 d).1
theorem Gy(d:an):ag (wU d) (nX d):=(d38 d).2
def d92(d:(List bU)):{c // ag c (mN d)}:=⟨_,by
 unfold mN
 with_reducible repeat' first | intro _ | apply ag.bs | exact ag.bp _⟩
def d93(d:an):{c // ag c (mO d)}:=⟨_,by
 unfold mO
 with_reducible repeat' first | intro _ | apply ua | apply ag.ez | apply ag.cp | apply ag.bs | exact ag.bp _⟩
def d96(d:(List cA)):{c // ag c (mP d)}:=⟨_,by
 unfold mP
 with_reducible repeat' first | intro _ | apply ag.bs | exact ag.bp _⟩
def d91(d:an):{c // ag c (mM d)}:=⟨_,by
 unfold mM
 with_reducible repeat' first | intro _ | apply (d63 _).2 | apply (d90 _).2 | apply (d92 _).2 | apply (d93 _).2 | apply (d96 _).2 | apply ag.dv | apply ag.ab | apply ag.bs | exact ag.bp _⟩
def d39(d:an)(x1:Int):{c // ag c (mG d x1)}:=⟨_,by
 unfold mG
 with_reducible repeat' first | intro _ | apply (d63 _).2 | apply (d67 _ _).2 | apply (d85 _ _ _).2 | apply (d90 _).2 | apply (d91 _).2 | apply ag.ab | apply ag.bs | exact ag.bp _⟩
abbrev s0(d:an)(x1:Int):=(d39 d x1).1
theorem Gz(d:an)(x1:Int):ag (s0 d x1) (mG d x1):=(d39 d x1).2
def d40(d:an)(x1:bU):{c // ag c (nY d x1)}:=⟨_,by
 unfold nY
 with_reducible repeat' first | intro _ | apply (d63 _).2 | apply (d91 _).2 | apply (d92 _).2 | apply ag.ab | apply ag.bs | exact ag.bp _⟩
abbrev wV(d:an)(x1:bU):=(d40 d x1).1
theorem GA(d:an)(x1:bU):ag (wV d x1) (nY d x1):=(d40 d x1).2
def d134(d:Int)(x1:Int):{c // ag c (pr d x1)}:=⟨_,by
 unfold pr
 with_reducible repeat' first | intro _ | apply (d152 _).2 | apply ag.ab | apply ag.bs | exact ag.bp _⟩
def d121(d:(List Int))(x1:(List Int)):{c // ag c (po d x1)}:=⟨_,by
 unfold po
 with_reducible repeat' first | intro _ | apply (d134 _ _).2 | apply ag.dv | apply ag.ab | apply ag.ez | apply ag.bs | exact ag.bp _⟩
def d94(d:(List Int))(x1:(List Int)):{c // ag c (pV d x1)}:=⟨_,by
 unfold pV
 with_reducible repeat' first | intro _ | apply (d121 _ _).2 | apply ag.ab | apply ag.bs | exact ag.bp _⟩
def d41(d:an):{c // ag c (nZ d)}:=⟨_,by
 unfold nZ
 with_reducible repeat' first | intro _ | apply (d63 _).2 | apply (d93 _).2 | apply (d94 _ _).2 | apply ag.dv | apply ag.ab | apply ag.bs | exact ag.bp _⟩
abbrev wW(d:an):=(d41 d).1
theorem GB(d:an):ag (wW d) (nZ d):=(d41 d).2
def d42(d:an)(x1:Int)(x2:Reach):{c // ag c (n0 d x1 x2)}:=⟨_,by
 unfold n0
 with_reducible repeat' first | intro _ | apply (d63 _).2 | apply (d71 _ _).2 | apply (d91 _).2 | apply (d95 _ _ _ _).2 | apply (d96 _).2 | apply ag.ab | apply ag.bs | exact ag.bp _⟩
abbrev wX(d:an)(x1:Int)(x2:Reach):=(d42 d x1 x2).1
theorem GC(d:an)(x1:Int)(x2:Reach):ag (wX d x1 x2) (n0 d x1 x2):=(d42 d x1 x2).2
def c6  : Option Bool :=
 (sW).bind λ d =>
 (wM d 2).bind λ T =>
 (qN T (⟨1,0⟩:bU)).bind λ s =>
 (wN d (⟨0,[21,30,10]⟩:dq) [1]).bind λ y =>
 (sX d).bind λ z =>
 (wO d 0).bind λ A =>
 (wP d [2]).bind λ B =>
 (sY d [0]).bind λ C =>
 (sY d [1,2]).bind λ D =>
 (wQ d).bind λ E =>
 (wR d).bind λ F =>
 (sX s).bind λ G =>
 (((ab (y.2 != 0)
 (some true)
 (ab (z.2 != 0)
 (some true)
 (ab (A.2 != 0)
 (some true)
 (ab (B.2 != 0)
 (some true)
 (ab (C.2 != 0)
 (some true)
 (ab (D.2 != 0)
 (some true)
 (ab (E.2 != 0)
 (some true)
 (ab (F.2 != 0)
 (some true)
 (some (G.2 != 0)))))))))):Option Bool)).bind (λ (P:Bool) =>
 ab P
 (some false)
 ((((ab (y.1 != (-53))
 (some true)
 (ab (z.1 != 2)
 (some true)
 ((lY A.1 [20,21]).bind λ V =>
 ab (!V)
 (some true)
 ((sZ (-3) 0).bind λ W =>
 ab (!(tO B.1 W == true))
 (some true)
 (ab (C.1 != 1)
 (some true)
 (ab (D.1 != 0)
 (some true)
 ((lY E.1 [1,2]).bind λ Y =>
 ab (!Y)
 (some true)
 ((lY F.1 [1,2]).bind λ Z =>
 ab (!Z)
 (some true)
 (some (G.1 != 1)))))))))):Option Bool)).bind (λ (Q:Bool) =>
 ab Q
 (some false)
 ((qO d [2,0,1]).bind λ H =>
 (qO d [2,1,0]).bind λ I =>
 (qO d [0,1,2]).bind λ aa =>
 (qP d).bind λ J =>
 (wS d).bind λ f =>
 (wT d).bind λ g =>
 (qP s).bind λ K =>
 (((ab (H.2 != 0)
 (some true)
 (ab (I.2 != 0)
 (some true)
 (ab (aa.2 != 7)
 (some true)
 (ab (J.2 != 0)
 (some true)
 (ab (f.2.2 != 0)
 (some true)
 (ab (g.2.2 != 0)
 (some true)
 (some (K.2 != 0)))))))):Option Bool)).bind (λ (R:Bool) =>
 ab R
 (some false)
 ((((ab (H.1 != 1)
 (some true)
 (ab (I.1 != 0)
 (some true)
 (ab (J.1 != 1)
 (some true)
 (ab (!f.2.1)
 (some true)
 ((lY f.1 [2,0,1]).bind λ ac =>
 ab (!ac)
 (some true)
 ((lY g.1 [2,0,1]).bind λ ad =>
 ab (!ad)
 (some true)
 (ab (g.2.1 != 60)
 (some true)
 (some (K.1 != 2))))))))):Option Bool)).bind (λ (S:Bool) =>
 ab S
 (some false)
 ((wU d).bind λ m =>
 (s0 d 0).bind λ ae =>
 (s0 d 2).bind λ L =>
 (wV L.1 (⟨1,2⟩:bU)).bind λ af =>
 (qN d (⟨0,1⟩:bU)).bind λ ag =>
 (qN ag (⟨0,2⟩:bU)).bind λ aj =>
 (wW aj).bind λ M =>
 (qQ 21).bind λ ak =>
 (wX d 0 ak).bind λ N =>
 (qP N.1).bind λ O =>
 ab (m.2.2 == 0)
 (ab (ae.2 == 7)
 (ab (L.2 == 0)
 (ab (af.2 == 9)
 (ab (M.2 == 0)
 (ab (N.2 == 0)
 (ab (O.2 == 0)
 (ab (m.1 == 0)
 (ab (m.2.1 == 1)
 ((lY M.1 [0]).bind λ am =>
 ab am
 (some (O.1 == 1))
 (some false))
 (some false))
 (some false))
 (some false))
 (some false))
 (some false))
 (some false))
 (some false))
 (some false))
 (some false)))))))))
theorem GD  : ag (c6 ) (m6 ):=by
 unfold c6 m6
 with_reducible repeat' first | exact ag.bp _ | refine ag.ab ?_ ?_ | exact Gi | exact Gj _ _ | exact Gk _ _ | exact Gl _ _ _ | exact Gm _ | exact Gn _ _ | exact Gp _ _ | exact Gq _ _ | exact Gr _ | exact Gs _ | exact Gt _ _ | exact yv _ _ | exact Gu _ _ | exact Gv _ | exact Gw _ | exact Gx _ | exact Gy _ | exact Gz _ _ | exact GA _ _ | exact GB _ | exact GC _ _ _ | exact yw _ | exact d _ _ | refine ag.bs ?_ λ _=>?_
def d17(d:Int)(x1:Int):{c // ag c (mx d x1)}:=⟨_,by
 unfold mx
 with_reducible repeat' first | intro _ | apply ag.dv | apply ag.ab | apply ag.bs | exact ag.bp _⟩
abbrev sU(d:Int)(x1:Int):=(d17 d x1).1
theorem Gf(d:Int)(x1:Int):ag (sU d x1) (mx d x1):=(d17 d x1).2
theorem Lb:m6=some true:=GD _ (by decide +kernel)
end
end Go.Proofs.YtoaoffinglajbaaGreatDoor
