/- The chapter's examples, by reckoning. Conditions: none. -/
import Derived.Test.YtihapemckcdicaaGreatDoorQWStM
import Derived.Test.YtihapemckcdicaaGreatDoorQWLgC
namespace Go.Proofs.YtihapemckcdicaaGreatDoor
open Go.Lg Go.Proofs
noncomputable section
set_option maxRecDepth 100000
set_option maxHeartbeats 4000000
def d139(x0:Int)(x1:Int)(x2:Int):{c // af c (kZ x0 x1 x2)}:=⟨_,by
 unfold kZ
 with_reducible repeat' first | intro _ | apply af.ae | apply af.bQ | exact af.bP _⟩
def aqO(x0:ByteArray):Option Bool:=Nw x0
theorem aKw(x0:ByteArray):af (aqO x0) (Nw x0):=af.bP _
def Pz(x0:cI)(x1:(bH→Option Bool)):Option Int :=
 (qt (O:=Int) (λ (jX:(Int × Int)) =>
 ae (decide (jX.2 < (x0.fH.length:Int)))
 ((idx x0.fH jX.2).bind λ uZ =>
 (x1 uZ).bind λ Gs =>
 ae Gs
 (some (.inl (i64 (jX.1+1),i64 (jX.2+1))))
 (some (.inl (jX.1,i64 (jX.2+1)))))
 (some (.inr jX.1))) (0,0)).bind (λ (Aj:Int) =>
 some Aj)
theorem RI(x0:cI){x1 gD:(bH→Option Bool)}(iq:∀ y,af (x1 y) (gD y)):af (Pz x0 x1) (wi x0 gD):=by
 unfold Pz wi
 with_reducible repeat' first | exact af.bP _ | refine af.fW λ _=>?_ | refine af.ae ?_ ?_ | exact iq _ | exact hy _ _ | refine af.bQ ?_ λ _=>?_
def d104(x0:an)(x1:Int):{c // af c (ym x0 x1)}:=⟨_,by
 unfold ym
 with_reducible repeat' first | intro _ | apply af.fW | apply af.ae | apply af.jq | apply af.bQ | exact af.bP _⟩
def d111(x0:an)(x1:bH)(x2:Int)(x3:Int):{c // af c (zN x0 x1 x2 x3)}:=⟨_,by
 unfold zN
 with_reducible repeat' first | intro _ | apply (d104 _ _).2 | apply af.ae | apply af.bQ | exact af.bP _⟩
def d172(x0:bH)(x1:cI)(x2:Int)(x3:Int):{c // af c (Ct x0 x1 x2 x3)}:=⟨_,by
 unfold Ct
 with_reducible repeat' first | intro _ | apply (d111 _ _ _ _).2 | apply af.bQ | exact af.bP _⟩
abbrev afL(x0:bH)(x1:cI)(x2:Int)(x3:Int):=(d172 x0 x1 x2 x3).1
theorem aKb(x0:bH)(x1:cI)(x2:Int)(x3:Int):af (afL x0 x1 x2 x3) (Ct x0 x1 x2 x3):=(d172 x0 x1 x2 x3).2
def abn(x0:cI)(i k:Nat):Option Bool:=(Pz x0 (λ y=>afL y x0 (k:Int) (i:Int))).bind λ n=>some (n == (x0.fH.length:Int))
theorem aKS(x0:cI)(i k:Nat):af (abn x0 i k) (ub x0 i k):=by
 unfold abn ub
 with_reducible repeat' first | exact af.bP _ | refine RI _ (λ _=>?_) | exact aKb _ _ _ _ | refine af.bQ ?_ λ _=>?_
def afA(x0:cI):Option (List Bool) :=
 if (0 < x0.book.aA.length∧x0.book.aA.length≤4)∧(0 < x0.book.aB.length∧x0.book.aB.length≤4) then
  (((List.range 16).mapM λ (p:Nat)=>if p / 4 < x0.book.aA.length∧p % 4 < x0.book.aB.length then abn x0 (p / 4) (p % 4) else some false):Option (List Bool))
 else none
theorem M3(x0:cI):af (afA x0) (yn x0):=by
 unfold afA yn
 split
 ·refine af.mapM (λ p=>?_) _
  split
  ·exact aKS _ _ _
  ·exact af.bP _
 ·exact af.none
def d265(x0:an):{c // af c (Ip x0)}:=⟨_,by
 unfold Ip
 with_reducible repeat' first | intro _ | apply (d139 _ _ _).2 | apply af.ae | apply af.bQ | exact af.bP _⟩
def d266(x0:an):{c // af c (E6 x0)}:=⟨_,by
 unfold E6
 with_reducible repeat' first | intro _ | apply (d139 _ _ _).2 | apply af.fW | apply af.ae | apply af.jq | apply af.bQ | exact af.bP _⟩
def VF(x0:(List Reach))(x1:(Reach→Option Bool)):Option Int :=
 (qt (O:=(Unit ⊕ Int)) (λ (ee:Int) =>
 ae (decide (ee < (x0.length:Int)))
 ((idx x0 ee).bind λ gL =>
 (x1 gL).bind λ ij =>
 ae ij
 (some (.inr (.inr ee)))
 (some (.inl (i64 (ee+1)))))
 (some (.inr (.inl ())))) 0).bind (Sum.elim (λ (_:Unit) =>
 some (-1))
  (λ q=>some q))
theorem aKy(x0:(List Reach)){x1 gD:(Reach→Option Bool)}(iq:∀ y,af (x1 y) (gD y)):af (VF x0 x1) (Nx x0 gD):=by
 unfold VF Nx
 with_reducible repeat' first | exact af.bP _ | refine af.fW λ _=>?_ | refine af.ae ?_ ?_ | refine af.jq (λ _=>?_) (λ _=>?_) _ | exact iq _ | exact hy _ _ | refine af.bQ ?_ λ _=>?_
def afX(x0:(List Reach))(x1:(Reach→Option Bool)):Option Bool :=
 (VF x0 x1).bind λ df =>
 some (decide (df ≥ 0))
theorem aKv(x0:(List Reach)){x1 gD:(Reach→Option Bool)}(iq:∀ y,af (x1 y) (gD y)):af (afX x0 x1) (Iq x0 gD):=by
 unfold afX Iq
 with_reducible repeat' first | exact af.bP _ | refine aKy _ (λ _=>?_) | exact iq _ | exact hy _ _ | refine af.bQ ?_ λ _=>?_
def d273(x0:Reach)(x1:Int)(x2:Int)(x3:Int):{c // af c (Fc x0 x1 x2 x3)}:=⟨_,by
 unfold Fc
 with_reducible repeat' first | intro _ | apply af.ae | apply af.bQ | exact af.bP _⟩
def d272(x0:Reach):{c // af c (Fb x0)}:=⟨_,by
 unfold Fb
 with_reducible repeat' first | intro _ | apply (d273 _ _ _ _).2 | apply af.bQ | exact af.bP _⟩
def d267(x0:an):{c // af c (E7 x0)}:=⟨_,by
 unfold E7
 with_reducible repeat' first | intro _ | apply (d139 _ _ _).2 | apply aKv | apply (d272 _).2 | apply af.ae | apply af.bQ | exact af.bP _⟩
def VG(x0:(List fK))(x1:(fK→Option Bool)):Option Int :=
 (qt (O:=(Unit ⊕ Int)) (λ (ee:Int) =>
 ae (decide (ee < (x0.length:Int)))
 ((idx x0 ee).bind λ gL =>
 (x1 gL).bind λ ij =>
 ae ij
 (some (.inr (.inr ee)))
 (some (.inl (i64 (ee+1)))))
 (some (.inr (.inl ())))) 0).bind (Sum.elim (λ (_:Unit) =>
 some (-1))
  (λ q=>some q))
theorem aKz(x0:(List fK)){x1 gD:(fK→Option Bool)}(iq:∀ y,af (x1 y) (gD y)):af (VG x0 x1) (Ny x0 gD):=by
 unfold VG Ny
 with_reducible repeat' first | exact af.bP _ | refine af.fW λ _=>?_ | refine af.ae ?_ ?_ | refine af.jq (λ _=>?_) (λ _=>?_) _ | exact iq _ | exact hy _ _ | refine af.bQ ?_ λ _=>?_
def afY(x0:(List fK))(x1:(fK→Option Bool)):Option Bool :=
 (VG x0 x1).bind λ df =>
 some (decide (df ≥ 0))
theorem aKx(x0:(List fK)){x1 gD:(fK→Option Bool)}(iq:∀ y,af (x1 y) (gD y)):af (afY x0 x1) (Ir x0 gD):=by
 unfold afY Ir
 with_reducible repeat' first | exact af.bP _ | refine aKz _ (λ _=>?_) | exact iq _ | exact hy _ _ | refine af.bQ ?_ λ _=>?_
def d276(x0:fK)(x1:fK):{c // af c (Fe x0 x1)}:=⟨_,by
 unfold Fe
 with_reducible repeat' first | intro _ | apply af.bQ | exact af.bP _⟩
def d268(x0:an):{c // af c (E8 x0)}:=⟨_,by
 unfold E8
 with_reducible repeat' first | intro _ | apply (d139 _ _ _).2 | apply aKw | apply aKx | apply (d276 _ _).2 | apply af.fW | apply af.ae | apply af.jq | apply af.bQ | exact af.bP _⟩
def d107(x0:Int)(x1:Int):{c // af c (qu x0 x1)}:=⟨_,by
 unfold qu
 with_reducible repeat' first | intro _ | apply (d139 _ _ _).2 | apply af.ae | apply af.bQ | exact af.bP _⟩
abbrev afx(x0:Int)(x1:Int):=(d107 x0 x1).1
theorem aJW(x0:Int)(x1:Int):af (afx x0 x1) (qu x0 x1):=(d107 x0 x1).2
def d269(x0:an):{c // af c (E9 x0)}:=⟨_,by
 unfold E9
 with_reducible repeat' first | intro _ | apply (d107 _ _).2 | apply (d139 _ _ _).2 | apply af.fW | apply af.ae | apply af.jq | apply af.bQ | exact af.bP _⟩
def d270(x0:an):{c // af c (Fa x0)}:=⟨_,by
 unfold Fa
 with_reducible repeat' first | intro _ | apply (d107 _ _).2 | apply (d139 _ _ _).2 | apply af.fW | apply af.ae | apply af.jq | apply af.bQ | exact af.bP _⟩
def d82(x0:an):{c // af c (rE x0)}:=⟨_,by
 unfold rE
 with_reducible repeat' first | intro _ | apply (d265 _).2 | apply (d266 _).2 | apply (d267 _).2 | apply (d268 _).2 | apply (d269 _).2 | apply (d270 _).2 | apply af.ae | apply af.bQ | exact af.bP _⟩
abbrev VQ(x0:an):=(d82 x0).1
theorem ai4(x0:an):af (VQ x0) (rE x0):=(d82 x0).2
def Vx (x1:(bH→((List bH) ⊕ Empty)→Option (((List bH) ⊕ Empty) × Bool))→((List bH) ⊕ Empty)→Option ((List bH) ⊕ Empty)):Option (List bH) :=
 (x1 (gV (λ (tv:bH) (kK:(List bH))=>(((gk kK [tv]).bind λ gX =>
 some (.inl gX)):Option ((List bH) ⊕ Empty)))) (.inl [])).bind (Sum.elim (λ (kK:(List bH)) =>
 some kK)
  (λ (o:Empty)=>o.elim))
theorem aJ7{x1 gD:(bH→((List bH) ⊕ Empty)→Option (((List bH) ⊕ Empty) × Bool))→((List bH) ⊕ Empty)→Option ((List bH) ⊕ Empty)}(iq:∀ ys lx,(∀ y s,af (ys y s) (lx y s))→∀ s,af (x1 ys s) (gD lx s)):af (Vx x1) (Ie gD):=by
 unfold Vx Ie
 with_reducible repeat' first | exact af.bP _ | refine af.jq (λ _=>?_) (λ _=>?_) _ | refine af.gV (λ _ _=>?_) _ _ | refine iq _ _ (λ _ _=>?_) _ | exact iq | exact hy _ _ | refine af.bQ ?_ λ _=>?_
def PF (x0:(bH→((List bH) ⊕ Empty)→Option (((List bH) ⊕ Empty) × Bool))→((List bH) ⊕ Empty)→Option ((List bH) ⊕ Empty)):Option (List bH) :=
 (Vx x0).bind λ df =>
 some df
theorem abv{x0 Dc:(bH→((List bH) ⊕ Empty)→Option (((List bH) ⊕ Empty) × Bool))→((List bH) ⊕ Empty)→Option ((List bH) ⊕ Empty)}(sD:∀ ys lx,(∀ y s,af (ys y s) (lx y s))→∀ s,af (x0 ys s) (Dc lx s)):af (PF x0) (z6 Dc):=by
 unfold PF z6
 with_reducible repeat' first | exact af.bP _ | refine aJ7 (λ _ _ hy _=>?_) | refine sD _ _ (λ _ _=>?_) _ | exact sD | exact hy _ _ | refine af.bQ ?_ λ _=>?_
def VD(x0:(List fg))(x1:(fg→Option Bool)):Option Int :=
 (qt (O:=(Unit ⊕ Int)) (λ (ee:Int) =>
 ae (decide (ee < (x0.length:Int)))
 ((idx x0 ee).bind λ gL =>
 (x1 gL).bind λ ij =>
 ae ij
 (some (.inr (.inr ee)))
 (some (.inl (i64 (ee+1)))))
 (some (.inr (.inl ())))) 0).bind (Sum.elim (λ (_:Unit) =>
 some (-1))
  (λ q=>some q))
theorem aKg(x0:(List fg)){x1 gD:(fg→Option Bool)}(iq:∀ y,af (x1 y) (gD y)):af (VD x0 x1) (Ns x0 gD):=by
 unfold VD Ns
 with_reducible repeat' first | exact af.bP _ | refine af.fW λ _=>?_ | refine af.ae ?_ ?_ | refine af.jq (λ _=>?_) (λ _=>?_) _ | exact iq _ | exact hy _ _ | refine af.bQ ?_ λ _=>?_
def afN(x0:(List fg))(x1:(fg→Option Bool)):Option Bool :=
 (VD x0 x1).bind λ df =>
 some (decide (df ≥ 0))
theorem aKe(x0:(List fg)){x1 gD:(fg→Option Bool)}(iq:∀ y,af (x1 y) (gD y)):af (afN x0 x1) (Im x0 gD):=by
 unfold afN Im
 with_reducible repeat' first | exact af.bP _ | refine aKg _ (λ _=>?_) | exact iq _ | exact hy _ _ | refine af.bQ ?_ λ _=>?_
def d187(x0:fg)(x1:bH):{c // af c (E1 x0 x1)}:=⟨_,by
 unfold E1
 with_reducible repeat' first | intro _ | apply af.bQ | exact af.bP _⟩
def d162(x0:an)(x1:bH):{c // af c (Cq x0 x1)}:=⟨_,by
 unfold Cq
 with_reducible repeat' first | intro _ | apply aKe | apply (d187 _ _).2 | apply af.bQ | exact af.bP _⟩
abbrev afH(x0:an)(x1:bH):=(d162 x0 x1).1
theorem aJ8(x0:an)(x1:bH):af (afH x0 x1) (Cq x0 x1):=(d162 x0 x1).2
def PA{S:Type}(ys:bH→S→Option (S × Bool)):Nat→Int→an→bH→S→Option (S × (bH × Bool))
 | 0,_,_,_,_=>none
 | k+1,x0,x1,x2,s0 =>
  ae (x0 == (x1.aQ.length:Int))
  (((((afH x1 x2).bind λ eT =>
  ae (!eT)
  (some (s0,true))
  ((ys x2 s0).bind λ iw =>
  some (iw.1,iw.2))):Option (S × Bool))).bind (λ (Ah:(S × Bool)) =>
  some (Ah.1,(x2,Ah.2))))
  ((idx x1.aQ x0).bind λ cC =>
  (qt (O:=((S × (List Int)) ⊕ (S × (bH × Bool)))) (λ (cy:(S × Int × (List Int))) =>
  (idx x1.aQ x0).bind λ ft =>
  ae (decide (cy.2.1≤ft.dE))
  ((idx cy.2.2 x0).bind λ _ =>
  (PA ys k (i64 (x0+1)) x1 (⟨cy.2.2.set x0.toNat cy.2.1⟩:bH) cy.1).bind λ gY =>
  ae (!gY.2.2)
  (some (.inr (.inr (gY.1,(gY.2.1,false)))))
  (some (.inl (gY.1,i64 (cy.2.1+1),gY.2.1.deep))))
  (some (.inr (.inl (cy.1,cy.2.2))))) (s0,cC.cQ,x2.deep)).bind (Sum.elim (λ (o5:(S × (List Int))) =>
  some (o5.1,((⟨o5.2⟩:bH),true)))
   (λ q=>some q)))
theorem ai0{S:Type}{ys lx:bH→S→Option (S × Bool)}(h:∀ y s,af (ys y s) (lx y s)):∀ k x0 x1 x2 s0,af (PA ys k x0 x1 x2 s0) (sS lx k x0 x1 x2 s0)
 | 0,_,_,_,_=>af.none
 | k+1,x0,x1,x2,s0=>by
  have ih:=ai0 h k
  rw [PA,sS]
  with_reducible repeat' first | exact af.bP _ | refine af.fW λ _=>?_ | refine af.ae ?_ ?_ | refine af.jq (λ _=>?_) (λ _=>?_) _ | exact aJ8 _ _ | exact h _ _ | exact ih _ _ _ _ | refine af.bQ ?_ λ _=>?_
def PG{S:Type}(ys:bH→S→Option (S × Bool))(x0:an)(s0:S):Option S :=
 (PA ys 9 0 x0 (⟨[0,0,0]⟩:bH) s0).bind λ mH =>
  some mH.1
theorem RK{S:Type}{ys lx:bH→S→Option (S × Bool)}(h:∀ y s,af (ys y s) (lx y s))(x0:an)(s0:S):af (PG ys x0 s0) (qw lx x0 s0):=by
 unfold PG qw
 with_reducible repeat' first | exact af.bP _ | refine ai0 (λ _ _=>?_) _ _ _ _ _ | exact h _ _ | refine af.bQ ?_ λ _=>?_
def d23(x0:an):{c // af c (zV x0)}:=⟨_,by
 unfold zV
 with_reducible repeat' first | intro _ | apply (d82 _).2 | apply abv | apply RK | apply af.ae | apply af.bQ | exact af.bP _ | exact ‹∀ _ _,af _ _› _ _⟩
abbrev c23(x0:an):=(d23 x0).1
theorem aKr(x0:an):af (c23 x0) (zV x0):=(d23 x0).2
def c94(x0:an)(x1:(an→Option Int)):Option (cI × Int) :=
 (VQ x0).bind λ ie =>
 ae (ie != 0)
 (some ((⟨⟨0,[],[],[],[],[]⟩,[]⟩:cI),ie))
 ((x1 x0).bind λ gr =>
 ae (gr != 0)
 (some ((⟨⟨0,[],[],[],[],[]⟩,[]⟩:cI),gr))
 ((PF (λ y s=>PG y x0 s)).bind λ ig =>
 ae ((ig.length:Int) == 0)
 (some ((⟨⟨0,[],[],[],[],[]⟩,[]⟩:cI),9))
 (some ((⟨⟨x0.Rest,x0.Rows,x0.aQ,x0.aB,x0.aA,x0.bh⟩,ig⟩:cI),0))))
theorem zJ(x0:an){x1 gD:(an→Option Int)}(iq:∀ y,af (x1 y) (gD y)):af (c94 x0 x1) (qx x0 gD):=by
 unfold c94 qx
 with_reducible repeat' first | exact af.bP _ | refine af.ae ?_ ?_ | exact ai4 _ | refine abv (λ _ _ hy _=>?_) | refine RK (λ _ _=>?_) _ _ | exact iq _ | exact hy _ _ | refine af.bQ ?_ λ _=>?_
def d163(x0:an)(x1:Int):{c // af c (rA x0 x1)}:=⟨_,by
 unfold rA
 with_reducible repeat' first | intro _ | apply (d107 _ _).2 | apply af.bQ | exact af.bP _⟩
def d95(x0:Int):{c // af c (CB x0)}:=⟨_,by
 unfold CB
 with_reducible repeat' first | intro _ | apply af.bQ | exact af.bP _⟩
def d235(x0:Int):{c // af c (zW x0)}:=⟨_,by
 unfold zW
 with_reducible repeat' first | intro _ | apply af.bQ | exact af.bP _⟩
def d221(x0:Int)(x1:Int):{c // af c (gT x0 x1)}:=⟨_,by
 unfold gT
 with_reducible repeat' first | intro _ | apply (d235 _).2 | apply af.ae | apply af.bQ | exact af.bP _⟩
abbrev afU(x0:Int)(x1:Int):=(d221 x0 x1).1
theorem aKo(x0:Int)(x1:Int):af (afU x0 x1) (gT x0 x1):=(d221 x0 x1).2
def d215(x0:(List Int))(x1:Int)(x2:Int):{c // af c (Cv x0 x1 x2)}:=⟨_,by
 unfold Cv
 with_reducible repeat' first | intro _ | apply (d221 _ _).2 | apply af.fW | apply af.ae | apply af.bQ | exact af.bP _⟩
abbrev afO(x0:(List Int))(x1:Int)(x2:Int):=(d215 x0 x1 x2).1
theorem aKh(x0:(List Int))(x1:Int)(x2:Int):af (afO x0 x1 x2) (Cv x0 x1 x2):=(d215 x0 x1 x2).2
def d236(x0:(List Int))(x1:Int)(x2:Int)(x3:Int):{c // af c (CA x0 x1 x2 x3)}:=⟨_,by
 unfold CA
 with_reducible repeat' first | intro _ | apply (d221 _ _).2 | apply af.fW | apply af.ae | apply af.jq | apply af.bQ | exact af.bP _⟩
def d216(x0:(List Int))(x1:Int)(x2:Int):{c // af c (Cw x0 x1 x2)}:=⟨_,by
 unfold Cw
 with_reducible repeat' first | intro _ | apply (d236 _ _ _ _).2 | apply af.fW | apply af.ae | apply af.bQ | exact af.bP _⟩
abbrev afP(x0:(List Int))(x1:Int)(x2:Int):=(d216 x0 x1 x2).1
theorem aKi(x0:(List Int))(x1:Int)(x2:Int):af (afP x0 x1 x2) (Cw x0 x1 x2):=(d216 x0 x1 x2).2
def d225(x0:Int):{c // af c (Nt x0)}:=⟨_,by
 unfold Nt
 with_reducible repeat' first | intro _ | apply af.ae | apply af.bQ | exact af.bP _⟩
def d189(x0:Int):{c // af c (Cu x0)}:=⟨_,by
 unfold Cu
 with_reducible repeat' first | intro _ | apply (d225 _).2 | apply af.bQ | exact af.bP _⟩
abbrev Vz(x0:Int):=(d189 x0).1
theorem aKf(x0:Int):af (Vz x0) (Cu x0):=(d189 x0).2
def d237(x0:Int):{c // af c (E4 x0)}:=⟨_,by
 unfold E4
 with_reducible repeat' first | intro _ | apply (d189 _).2 | apply af.bQ | exact af.bP _⟩
abbrev VE(x0:Int):=(d237 x0).1
theorem aKs(x0:Int):af (VE x0) (E4 x0):=(d237 x0).2
def d238(x0:Int):{c // af c (E5 x0)}:=⟨_,by
 unfold E5
 with_reducible repeat' first | intro _ | apply af.bQ | exact af.bP _⟩
def d217(x0:(List Int))(x1:Int)(x2:Int):{c // af c (zT x0 x1 x2)}:=⟨_,by
 unfold zT
 with_reducible repeat' first | intro _ | apply (d237 _).2 | apply (d238 _).2 | apply af.fW | apply af.ae | apply af.bQ | exact af.bP _⟩
abbrev afQ(x0:(List Int))(x1:Int)(x2:Int):=(d217 x0 x1 x2).1
theorem aKj(x0:(List Int))(x1:Int)(x2:Int):af (afQ x0 x1 x2) (zT x0 x1 x2):=(d217 x0 x1 x2).2
def d248(x0:(List Int))(x1:Int)(x2:Int)(x3:Int):{c // af c (uk x0 x1 x2 x3)}:=⟨_,by
 unfold uk
 with_reducible repeat' first | intro _ | apply (d221 _ _).2 | apply af.ae | apply af.bQ | exact af.bP _⟩
def d240(x0:(List Int))(x1:Int)(x2:Int)(x3:Int)(x4:Int):{c // af c (wm x0 x1 x2 x3 x4)}:=⟨_,by
 unfold wm
 with_reducible repeat' first | intro _ | apply (d248 _ _ _ _).2 | apply af.bQ | exact af.bP _⟩
def d239(x0:(List Int))(x1:Int)(x2:Int):{c // af c (uj x0 x1 x2)}:=⟨_,by
 unfold uj
 with_reducible repeat' first | intro _ | apply (d240 _ _ _ _ _).2 | apply af.bQ | exact af.bP _⟩
def d218(x0:(List Int))(x1:Int)(x2:Int):{c // af c (Cx x0 x1 x2)}:=⟨_,by
 unfold Cx
 with_reducible repeat' first | intro _ | apply (d239 _ _ _).2 | apply (d240 _ _ _ _ _).2 | apply af.ae | apply af.bQ | exact af.bP _⟩
abbrev afR(x0:(List Int))(x1:Int)(x2:Int):=(d218 x0 x1 x2).1
theorem aKk(x0:(List Int))(x1:Int)(x2:Int):af (afR x0 x1 x2) (Cx x0 x1 x2):=(d218 x0 x1 x2).2
def d219(x0:(List Int))(x1:Int)(x2:Int):{c // af c (zU x0 x1 x2)}:=⟨_,by
 unfold zU
 with_reducible repeat' first | intro _ | apply af.fW | apply af.ae | apply af.bQ | exact af.bP _⟩
abbrev afS(x0:(List Int))(x1:Int)(x2:Int):=(d219 x0 x1 x2).1
theorem aKl(x0:(List Int))(x1:Int)(x2:Int):af (afS x0 x1 x2) (zU x0 x1 x2):=(d219 x0 x1 x2).2
def d220(x0:(List Int))(x1:Int)(x2:Int):{c // af c (yp x0 x1 x2)}:=⟨_,by
 unfold yp
 with_reducible repeat' first | intro _ | apply (d221 _ _).2 | apply af.fW | apply af.ae | apply af.jq | apply af.bQ | exact af.bP _⟩
abbrev afT(x0:(List Int))(x1:Int)(x2:Int):=(d220 x0 x1 x2).1
theorem aKn(x0:(List Int))(x1:Int)(x2:Int):af (afT x0 x1 x2) (yp x0 x1 x2):=(d220 x0 x1 x2).2
def d222(x0:(List Int))(x1:Int)(x2:Int)(x3:Int):{c // af c (Cy x0 x1 x2 x3)}:=⟨_,by
 unfold Cy
 with_reducible repeat' first | intro _ | apply (d221 _ _).2 | apply af.fW | apply af.ae | apply af.bQ | exact af.bP _⟩
abbrev afV(x0:(List Int))(x1:Int)(x2:Int)(x3:Int):=(d222 x0 x1 x2 x3).1
theorem aKp(x0:(List Int))(x1:Int)(x2:Int)(x3:Int):af (afV x0 x1 x2 x3) (Cy x0 x1 x2 x3):=(d222 x0 x1 x2 x3).2
def d223(x0:(List Int))(x1:Int)(x2:Int)(x3:Int):{c // af c (Cz x0 x1 x2 x3)}:=⟨_,by
 unfold Cz
 with_reducible repeat' first | intro _ | apply (d221 _ _).2 | apply af.fW | apply af.ae | apply af.bQ | exact af.bP _⟩
abbrev afW(x0:(List Int))(x1:Int)(x2:Int)(x3:Int):=(d223 x0 x1 x2 x3).1
theorem aKq(x0:(List Int))(x1:Int)(x2:Int)(x3:Int):af (afW x0 x1 x2 x3) (Cz x0 x1 x2 x3):=(d223 x0 x1 x2 x3).2
def PB:Nat→(List Int)→Int→Int→Int→Option (List Int)
 | 0,_,_,_,_=>none
 | k+1,x0,x1,x2,x3 =>
  (qt (O:=(List Int)) (λ (bC:((List Int) × Int × Int × Int × Bool × Bool)) =>
  ae (decide (i64 (bC.2.2.1 - bC.2.1)≤12))
  ((afO bC.1 bC.2.1 bC.2.2.1).bind λ AY =>
  some (.inr AY))
  (ae (bC.2.2.2.1 == 0)
  ((afP bC.1 bC.2.1 bC.2.2.1).bind λ Ue =>
  some (.inr Ue))
  ((((ae (!bC.2.2.2.2.1)
  ((afQ bC.1 bC.2.1 bC.2.2.1).bind λ JB =>
  some (JB,i64 (bC.2.2.2.1 - 1)))
  (some (bC.1,bC.2.2.2.1))):Option ((List Int) × Int))).bind (λ (iN:((List Int) × Int)) =>
  (afR iN.1 bC.2.1 bC.2.2.1).bind λ yS =>
  (((ae (yS.2 == 2)
  ((afS iN.1 bC.2.1 bC.2.2.1).bind λ AZ =>
  some (AZ,i64 ((i64 (bC.2.2.1 - 1)) - (i64 (yS.1 - bC.2.1))),1))
  (some (iN.1,yS.1,yS.2))):Option ((List Int) × Int × Int))).bind (λ (lh:((List Int) × Int × Int)) =>
  (((ae bC.2.2.2.2.1
  (ae bC.2.2.2.2.2
  (some (lh.2.2 == 1))
  (some false))
  (some false)):Option Bool)).bind (λ (IW:Bool) =>
  (((ae IW
  ((afT lh.1 bC.2.1 bC.2.2.1).bind λ pW =>
  ae pW.2
  (some (.inr pW.1))
  (some (.inl pW.1)))
  (some (.inl lh.1))):Option ((List Int) ⊕ (List Int)))).bind (Sum.elim (λ (rI:(List Int)) =>
  (((ae (decide (bC.2.1 > 0))
  ((idx rI (i64 (bC.2.1 - 1))).bind λ Gp =>
  (idx rI lh.2.1).bind λ Gq =>
  (afU Gp Gq).bind λ JD =>
  some (!JD))
  (some false)):Option Bool)).bind (λ (IX:Bool) =>
  ae IX
  ((afV rI bC.2.1 bC.2.2.1 lh.2.1).bind λ JE =>
  some (.inl (JE.1,JE.2,bC.2.2.1,iN.2,bC.2.2.2.2.1,bC.2.2.2.2.2)))
  ((afW rI bC.2.1 bC.2.2.1 lh.2.1).bind λ iD =>
  (o7 (i64 (bC.2.2.1 - bC.2.1)) 8).bind λ JF =>
  ae (decide (i64 (iD.2.1 - bC.2.1) < i64 (bC.2.2.1 - iD.2.1)))
  ((PB k iD.1 bC.2.1 iD.2.1 iN.2).bind λ Uh =>
  some (.inl (Uh,i64 (iD.2.1+1),bC.2.2.1,iN.2,decide (i64 (iD.2.1 - bC.2.1) ≥ JF),iD.2.2)))
  ((PB k iD.1 (i64 (iD.2.1+1)) bC.2.2.1 iN.2).bind λ Ui =>
  some (.inl (Ui,bC.2.1,iD.2.1,iN.2,decide (i64 (bC.2.2.1 - iD.2.1) ≥ JF),iD.2.2))))))
   (λ q=>some (.inr q))))))))) (x0,x1,x2,x3,true,true)).bind (λ q=>some q)
theorem ai2:∀ k x0 x1 x2 x3,af (PB k x0 x1 x2 x3) (wj k x0 x1 x2 x3)
 | 0,_,_,_,_=>af.none
 | k+1,x0,x1,x2,x3=>by
  have ih:=ai2 k
  rw [PB,wj]
  with_reducible repeat' first | exact af.bP _ | refine af.fW λ _=>?_ | refine af.ae ?_ ?_ | refine af.jq (λ _=>?_) (λ _=>?_) _ | exact aKh _ _ _ | exact aKi _ _ _ | exact aKj _ _ _ | exact aKk _ _ _ | exact aKl _ _ _ | exact aKn _ _ _ | exact aKo _ _ | exact aKp _ _ _ _ | exact aKq _ _ _ _ | exact ih _ _ _ _ | refine af.bQ ?_ λ _=>?_
def d164(x0:(List Int)):{c // af c (Cr x0)}:=⟨_,by
 unfold Cr
 with_reducible repeat' first | intro _ | apply ai2 | apply (d189 _).2 | apply af.bQ | exact af.bP _⟩
abbrev afI(x0:(List Int)):=(d164 x0).1
theorem aJ9(x0:(List Int)):af (afI x0) (Cr x0):=(d164 x0).2
def d165(x0:(List Int)):{c // af c (Cs x0)}:=⟨_,by
 unfold Cs
 with_reducible repeat' first | intro _ | apply af.fW | apply af.ae | apply af.jq | apply af.bQ | exact af.bP _⟩
abbrev afJ(x0:(List Int)):=(d165 x0).1
theorem aKa(x0:(List Int)):af (afJ x0) (Cs x0):=(d165 x0).2
def c96(x0:cI)(x1:(bH→Option Int)):Option (List Int) :=
 (qt (O:=(List Int)) (λ (qK:((List Int) × Int)) =>
 ae (decide (qK.2 < (x0.fH.length:Int)))
 ((idx x0.fH qK.2).bind λ iR =>
 (x1 iR).bind λ jk =>
 (gk qK.1 [jk]).bind λ nS =>
 some (.inl (nS,i64 (qK.2+1))))
 (some (.inr qK.1))) ([],0)).bind (λ (uB:(List Int)) =>
 (afI uB).bind λ rQ =>
 (afJ rQ).bind λ mI =>
 some mI)
theorem ai5(x0:cI){x1 gD:(bH→Option Int)}(iq:∀ y,af (x1 y) (gD y)):af (c96 x0 x1) (CC x0 gD):=by
 unfold c96 CC
 with_reducible repeat' first | exact af.bP _ | refine af.fW λ _=>?_ | refine af.ae ?_ ?_ | exact aJ9 _ | exact aKa _ | exact iq _ | exact hy _ _ | refine af.bQ ?_ λ _=>?_
def d97(x0:bH)(x1:Int):{c // af c (Fq x0 x1)}:=⟨_,by
 unfold Fq
 with_reducible repeat' first | intro _ | apply af.bQ | exact af.bP _⟩
def d25(x0:an)(x1:Int):{c // af c (zX x0 x1)}:=⟨_,by
 unfold zX
 with_reducible repeat' first | intro _ | apply zJ | apply (d95 _).2 | apply ai5 | apply (d97 _ _).2 | apply (d163 _ _).2 | apply af.ae | apply af.bQ | exact af.bP _⟩
abbrev c25(x0:an)(x1:Int):=(d25 x0 x1).1
theorem aKt(x0:an)(x1:Int):af (c25 x0 x1) (zX x0 x1):=(d25 x0 x1).2
def d103(x0:bH)(x1:cI)(x2:Int):{c // af c (ET x0 x1 x2)}:=⟨_,by
 unfold ET
 with_reducible repeat' first | intro _ | apply (d104 _ _).2 | apply af.bQ | exact af.bP _⟩
def d28(x0:an)(x1:Int):{c // af c (zY x0 x1)}:=⟨_,by
 unfold zY
 with_reducible repeat' first | intro _ | apply zJ | apply (d95 _).2 | apply ai5 | apply (d103 _ _ _).2 | apply (d163 _ _).2 | apply af.ae | apply af.bQ | exact af.bP _⟩
abbrev c28(x0:an)(x1:Int):=(d28 x0 x1).1
theorem aKA(x0:an)(x1:Int):af (c28 x0 x1) (zY x0 x1):=(d28 x0 x1).2
def d106(x0:an)(x1:Int)(x2:Int):{c // af c (Cj x0 x1 x2)}:=⟨_,by
 unfold Cj
 with_reducible repeat' first | intro _ | apply (d107 _ _).2 | apply af.bQ | exact af.bP _⟩
def d108(x0:cI)(x1:Int):{c // af c (zM x0 x1)}:=⟨_,by
 unfold zM
 with_reducible repeat' first | intro _ | apply af.ae | apply af.bQ | exact af.bP _⟩
abbrev afy(x0:cI)(x1:Int):=(d108 x0 x1).1
theorem aJX(x0:cI)(x1:Int):af (afy x0 x1) (zM x0 x1):=(d108 x0 x1).2
def d110(x0:bH)(x1:cI)(x2:Int)(x3:Int):{c // af c (EW x0 x1 x2 x3)}:=⟨_,by
 unfold EW
 with_reducible repeat' first | intro _ | apply (d111 _ _ _ _).2 | apply af.bQ | exact af.bP _⟩
def d30(x0:an)(x1:Int)(x2:Int):{c // af c (wo x0 x1 x2)}:=⟨_,by
 unfold wo
 with_reducible repeat' first | intro _ | apply zJ | apply (d106 _ _ _).2 | apply (d108 _ _).2 | apply RI | apply (d110 _ _ _ _).2 | apply af.ae | apply af.bQ | exact af.bP _⟩
abbrev PC(x0:an)(x1:Int)(x2:Int):=(d30 x0 x1 x2).1
theorem aKB(x0:an)(x1:Int)(x2:Int):af (PC x0 x1 x2) (wo x0 x1 x2):=(d30 x0 x1 x2).2
def d132(x0:(List Int)):{c // af c (zS x0)}:=⟨_,by
 unfold zS
 with_reducible repeat' first | intro _ | apply af.fW | apply af.ae | apply af.bQ | exact af.bP _⟩
abbrev afE(x0:(List Int)):=(d132 x0).1
theorem aJ4(x0:(List Int)):af (afE x0) (zS x0):=(d132 x0).2
def Vv(x0:an)(x1:(List (List Int))):Option ((List Bool) × Int) :=
 ae ((x1.length:Int) != (x0.aA.length:Int))
 (some ([false,false,false,false,false,false,false,false,false,false,false,false,false,false,false,false],2))
 ((qt (O:=((List Bool) ⊕ ((List Bool) × Int))) (λ (gW:(Int × (List Bool))) =>
 ae (decide (gW.1 < (x1.length:Int)))
 ((idx x1 gW.1).bind λ qS =>
 (idx x0.aA gW.1).bind λ T8 =>
 ae ((qS.length:Int) != T8.aB)
 (some (.inr (.inr ([false,false,false,false,false,false,false,false,false,false,false,false,false,false,false,false],2))))
 ((qt (O:=(Unit ⊕ ((List Bool) × Int))) (λ (qH:Int) =>
 ae (decide (qH < (qS.length:Int)))
 ((idx qS qH).bind λ Gn =>
 (afx Gn (x0.aB.length:Int)).bind λ JA =>
 ae (JA != 0)
 (some (.inr (.inr ([false,false,false,false,false,false,false,false,false,false,false,false,false,false,false,false],JA))))
 ((((ae (decide (qH > 0))
 ((idx qS (i64 (qH - 1))).bind λ T9 =>
 some (decide (Gn≤T9)))
 (some false)):Option Bool)).bind (λ (IU:Bool) =>
 ae IU
 (some (.inr (.inr ([false,false,false,false,false,false,false,false,false,false,false,false,false,false,false,false],7))))
 (some (.inl (i64 (qH+1)))))))
 (some (.inr (.inl ())))) 0).bind (Sum.elim (λ (_:Unit) =>
 (afE qS).bind λ Ua =>
 (iB 4 gW.2 gW.1).bind λ _ =>
 some (.inl (i64 (gW.1+1),C4 4 gW.2 gW.1 Ua)))
  (λ q=>some (.inr (.inr q))))))
 (some (.inr (.inl gW.2)))) (0,[false,false,false,false,false,false,false,false,false,false,false,false,false,false,false,false])).bind (Sum.elim (λ (FF:(List Bool)) =>
 some (FF,0))
  (λ q=>some q)))
theorem aJ0(x0:an)(x1:(List (List Int))):af (Vv x0 x1) (zO x0 x1):=by
 unfold Vv zO
 with_reducible repeat' first | exact af.bP _ | refine af.fW λ _=>?_ | refine af.ae ?_ ?_ | refine af.jq (λ _=>?_) (λ _=>?_) _ | exact aJW _ _ | exact aJ4 _ | exact hy _ _ | refine af.bQ ?_ λ _=>?_
def Vu(x0:an)(x1:(List (List Int)))(_:(List Bool)):Option ((List Bool) × Int) :=
 (Vv x0 x1).bind λ dO =>
 some (dO.1,dO.2)
theorem aJZ(x0:an)(x1:(List (List Int)))(x2:(List Bool)):af (Vu x0 x1 x2) (Cl x0 x1 x2):=by
 unfold Vu Cl
 with_reducible repeat' first | exact af.bP _ | exact aJ0 _ _ | exact hy _ _ | refine af.bQ ?_ λ _=>?_
def d149(x0:an)(x1:Int)(x2:Int):{c // af c (Cp x0 x1 x2)}:=⟨_,by
 unfold Cp
 with_reducible repeat' first | intro _ | apply af.ae | apply af.bQ | exact af.bP _⟩
def d117(x0:an)(x1:(List Bool))(x2:Int):{c // af c (zP x0 x1 x2)}:=⟨_,by
 unfold zP
 with_reducible repeat' first | intro _ | apply (d149 _ _ _).2 | apply af.fW | apply af.ae | apply af.jq | apply af.bQ | exact af.bP _⟩
abbrev Vw(x0:an)(x1:(List Bool))(x2:Int):=(d117 x0 x1 x2).1
theorem abt(x0:an)(x1:(List Bool))(x2:Int):af (Vw x0 x1 x2) (zP x0 x1 x2):=(d117 x0 x1 x2).2
def d118(x0:bH)(x1:an)(x2:(List Bool))(x3:cI):{c // af c (zQ x0 x1 x2 x3)}:=⟨_,by
 unfold zQ
 with_reducible repeat' first | intro _ | apply (d111 _ _ _ _).2 | apply af.fW | apply af.ae | apply af.jq | apply af.bQ | exact af.bP _⟩
abbrev afz(x0:bH)(x1:an)(x2:(List Bool))(x3:cI):=(d118 x0 x1 x2 x3).1
theorem aJ1(x0:bH)(x1:an)(x2:(List Bool))(x3:cI):af (afz x0 x1 x2 x3) (zQ x0 x1 x2 x3):=(d118 x0 x1 x2 x3).2
def Vt(x0:an)(yL:(List (List Int)))(tt:(List Bool)):Option ((List Bool) × cI × Int) :=
 (VQ x0).bind λ ie =>
 ae (ie != 0)
 (some (tt,(⟨⟨0,[],[],[],[],[]⟩,[]⟩:cI),ie))
 ((Vu x0 yL tt).bind λ gr =>
 ae (gr.2 != 0)
 (some (gr.1,(⟨⟨0,[],[],[],[],[]⟩,[]⟩:cI),gr.2))
 ((PF (λ y s=>PG y x0 s)).bind λ ig =>
 ae ((ig.length:Int) == 0)
 (some (gr.1,(⟨⟨0,[],[],[],[],[]⟩,[]⟩:cI),9))
 (some (gr.1,(⟨⟨x0.Rest,x0.Rows,x0.aQ,x0.aB,x0.aA,x0.bh⟩,ig⟩:cI),0))))
theorem aJY(x0:an)(yL:(List (List Int)))(tt:(List Bool)):af (Vt x0 yL tt) (EV x0 yL tt):=by
 unfold Vt EV
 with_reducible repeat' first | exact af.bP _ | refine af.ae ?_ ?_ | exact ai4 _ | refine abv (λ _ _ hy _=>?_) | refine RK (λ _ _=>?_) _ _ | exact aJZ _ _ _ | exact hy _ _ | refine af.bQ ?_ λ _=>?_
def PD(x0:an)(x1:(List (List Int))):Option (Int × Int) :=
 (Vt x0 x1 [false,false,false,false,false,false,false,false,false,false,false,false,false,false,false,false]).bind λ ft =>
 ae (ft.2.2 != 0)
 (some (0,ft.2.2))
 ((qt (O:=(Unit ⊕ (Int × Int))) (λ (wO:Int) =>
 ae (decide (wO < (x0.aA.length:Int)))
 ((Vw ft.2.1.book ft.1 wO).bind λ nR =>
 ae (!nR)
 (some (.inr (.inr (2,0))))
 (some (.inl (i64 (wO+1)))))
 (some (.inr (.inl ())))) 0).bind (Sum.elim (λ (_:Unit) =>
 (Pz ft.2.1 (λ y=>afz y x0 ft.1 ft.2.1)).bind λ iR =>
 (afy ft.2.1 iR).bind λ tx =>
 some (tx,0))
  (λ q=>some q)))
theorem aKC(x0:an)(x1:(List (List Int))):af (PD x0 x1) (m32 x0 x1):=by
 unfold PD m32
 with_reducible repeat' first | exact af.bP _ | refine af.fW λ _=>?_ | refine af.ae ?_ ?_ | refine af.jq (λ _=>?_) (λ _=>?_) _ | exact aJX _ _ | refine RI _ (λ _=>?_) | exact abt _ _ _ | exact aJ1 _ _ _ _ | exact aJY _ _ _ | exact hy _ _ | refine af.bQ ?_ λ _=>?_
def d121(x0:an):{c // af c (pM x0)}:=⟨_,by
 unfold pM
 with_reducible repeat' first | intro _ | apply af.bQ | exact af.bP _⟩
def Bt{S:Type}(ys:(List Bool)→S→Option (S × Bool)):Nat→((List Bool)→Int→cI→Int→(List Bool)→(List Bool)→S→Option (S × Bool)) × ((List Bool)→Int→Int→Int→cI→Int→(List Bool)→(List Bool)→S→Option (S × Bool))
 | 0=>(λ _ _ _ _ _ _ _=>none,λ _ _ _ _ _ _ _ _ _=>none)
 | k+1=>(λ x0 x1 xX xO xG xA s0 =>
  ae (x1 == (xX.book.aA.length:Int))
  ((ys x0 s0).bind λ gh =>
  some (gh.1,gh.2))
  ((mD .i64 xO x1).bind λ eT =>
  (fT .and .i64 eT 1).bind λ gq =>
  ae (gq == 1)
  (((Bt ys k).1 x0 (i64 (x1+1)) xX xO xG xA s0).bind λ jj =>
  some (jj.1,jj.2))
  ((idx xX.book.aA x1).bind λ gz =>
  ((Bt ys k).2 x0 x1 0 gz.aB xX xO xG xA s0).bind λ eF =>
  some (eF.1,eF.2))),
  λ x0 x1 x2 x3 xX xO xG xA s0 =>
  ae (x3 == 0)
  (((((Vw xX.book x0 x1).bind λ gq =>
  ae (!gq)
  (some (s0,true))
  (((Bt ys k).1 x0 (i64 (x1+1)) xX xO xG xA s0).bind λ cC =>
  some (cC.1,cC.2))):Option (S × Bool))).bind (λ (Ai:(S × Bool)) =>
  some (Ai.1,Ai.2)))
  ((qt (O:=(S ⊕ (S × Bool))) (λ (cy:(S × Int × (List Bool))) =>
  ae (decide (cy.2.1 < (xX.book.aB.length:Int)))
  (((((idx xG cy.2.1).bind λ Gu =>
  ae (!Gu)
  (some true)
  ((iB 4 xA x1).bind λ yW =>
  (idx yW cy.2.1).bind λ Gx =>
  some (!Gx))):Option Bool)).bind (λ (I0:Bool) =>
  ae I0
  (some (.inl (cy.1,i64 (cy.2.1+1),cy.2.2)))
  ((iB 4 cy.2.2 x1).bind λ Un =>
  (idx Un cy.2.1).bind λ _ =>
  ((Bt ys k).2 (qL 4 cy.2.2 x1 cy.2.1 true) x1 (i64 (cy.2.1+1)) (i64 (x3 - 1)) xX xO xG xA cy.1).bind λ tA =>
  ae (!tA.2)
  (some (.inr (.inr (tA.1,false))))
  ((iB 4 (qL 4 cy.2.2 x1 cy.2.1 true) x1).bind λ yI =>
  (idx yI cy.2.1).bind λ _ =>
  some (.inl (tA.1,i64 (cy.2.1+1),qL 4 (qL 4 cy.2.2 x1 cy.2.1 true) x1 cy.2.1 false))))))
  (some (.inr (.inl cy.1)))) (s0,x2,x0)).bind (Sum.elim (λ (o5:S) =>
  some (o5,true))
   (λ q=>some q))))
theorem ai1{S:Type}{ys lx:(List Bool)→S→Option (S × Bool)}(h:∀ y s,af (ys y s) (lx y s)):∀ k,(∀ x0 x1 x2 x3 x4 x5 s0,af ((Bt ys k).1 x0 x1 x2 x3 x4 x5 s0) ((rB lx k).1 x0 x1 x2 x3 x4 x5 s0))∧(∀ x0 x1 x2 x3 x4 x5 x6 x7 s0,af ((Bt ys k).2 x0 x1 x2 x3 x4 x5 x6 x7 s0) ((rB lx k).2 x0 x1 x2 x3 x4 x5 x6 x7 s0))
 | 0=>⟨λ _ _ _ _ _ _ _=>af.none,λ _ _ _ _ _ _ _ _ _=>af.none⟩
 | k+1=>by
  have ih:=ai1 h k
  have ih1:=ih.1
  have ih2:=ih.2
  rw [Bt,rB]
  constructor
  ·intro x0 x1 x2 x3 x4 x5 s0
   dsimp only
   with_reducible repeat' first | exact af.bP _ | refine af.fW λ _=>?_ | refine af.ae ?_ ?_ | refine af.jq (λ _=>?_) (λ _=>?_) _ | exact abt _ _ _ | exact h _ _ | exact ih1 _ _ _ _ _ _ _ | exact ih2 _ _ _ _ _ _ _ _ _ | refine af.bQ ?_ λ _=>?_
  ·intro x0 x1 x2 x3 x4 x5 x6 x7 s0
   dsimp only
   repeat' (first | with_reducible exact af.bP _ | with_reducible refine af.fW λ _=>?_ | with_reducible refine af.ae ?_ ?_ | with_reducible refine af.jq (λ _=>?_) (λ _=>?_) _ | with_reducible refine af.gV (λ _ _=>?_) _ _ | with_reducible exact abt _ _ _ | with_reducible exact h _ _ | with_reducible exact ih1 _ _ _ _ _ _ _ | with_reducible exact ih2 _ _ _ _ _ _ _ _ _ | with_reducible refine af.bQ ?_ λ _=>?_)
def afK{S:Type}(ys:(List Bool)→S→Option (S × Bool))(x1:cI)(x2:Int)(x3:(List Bool))(x4:(List Bool))(s0:S):Option S :=
 ((Bt ys 40).1 [false,false,false,false,false,false,false,false,false,false,false,false,false,false,false,false] 0 x1 x2 x3 x4 s0).bind λ rO =>
  some rO.1
theorem RJ{S:Type}{ys lx:(List Bool)→S→Option (S × Bool)}(h:∀ y s,af (ys y s) (lx y s))(x1:cI)(x2:Int)(x3:(List Bool))(x4:(List Bool))(s0:S):af (afK ys x1 x2 x3 x4 s0) (ui lx x1 x2 x3 x4 s0):=by
 unfold afK ui
 with_reducible repeat' first | exact af.bP _ | refine (ai1 (λ _ _=>?_) 40).1 _ _ _ _ _ _ _ | exact h _ _ | refine af.bQ ?_ λ _=>?_
def d122(x0:cI)(x1:(List Bool))(x2:(List Bool))(x3:Int):{c // af c (Cm x0 x1 x2 x3)}:=⟨_,by
 unfold Cm
 with_reducible repeat' first | intro _ | apply af.bQ | exact af.bP _⟩
def d124(x0:an):{c // af c (zR x0)}:=⟨_,by
 unfold zR
 with_reducible repeat' first | intro _ | apply af.fW | apply af.ae | apply af.bQ | exact af.bP _⟩
def d34(x0:an):{c // af c (Ff x0)}:=⟨_,by
 unfold Ff
 with_reducible repeat' first | intro _ | apply zJ | apply (d121 _).2 | apply (d122 _ _ _ _).2 | apply M3 | apply (d124 _).2 | apply RJ | apply af.ae | apply af.jq | apply af.gV | apply af.bQ | exact af.bP _⟩
abbrev VK(x0:an):=(d34 x0).1
theorem aKD(x0:an):af (VK x0) (Ff x0):=(d34 x0).2
def d126(x0:an)(x1:(List Bool)):{c // af c (H6 x0 x1)}:=⟨_,by
 unfold H6
 with_reducible repeat' first | intro _ | apply af.fW | apply af.ae | apply af.bQ | exact af.bP _⟩
def d36(x0:an):{c // af c (Is x0)}:=⟨_,by
 unfold Is
 with_reducible repeat' first | intro _ | apply zJ | apply (d121 _).2 | apply (d122 _ _ _ _).2 | apply M3 | apply (d124 _).2 | apply (d126 _ _).2 | apply RJ | apply af.ae | apply af.jq | apply af.gV | apply af.bQ | exact af.bP _⟩
abbrev c36(x0:an):=(d36 x0).1
theorem aKE(x0:an):af (c36 x0) (Is x0):=(d36 x0).2
def Vy (x1:((List Bool)→((List (List Bool)) ⊕ Empty)→Option (((List (List Bool)) ⊕ Empty) × Bool))→((List (List Bool)) ⊕ Empty)→Option ((List (List Bool)) ⊕ Empty)):Option (List (List Bool)) :=
 (x1 (gV (λ (tv:(List Bool)) (kK:(List (List Bool)))=>(((gk kK [tv]).bind λ gX =>
 some (.inl gX)):Option ((List (List Bool)) ⊕ Empty)))) (.inl [])).bind (Sum.elim (λ (kK:(List (List Bool))) =>
 some kK)
  (λ (o:Empty)=>o.elim))
theorem aKc{x1 gD:((List Bool)→((List (List Bool)) ⊕ Empty)→Option (((List (List Bool)) ⊕ Empty) × Bool))→((List (List Bool)) ⊕ Empty)→Option ((List (List Bool)) ⊕ Empty)}(iq:∀ ys lx,(∀ y s,af (ys y s) (lx y s))→∀ s,af (x1 ys s) (gD lx s)):af (Vy x1) (Nm gD):=by
 unfold Vy Nm
 with_reducible repeat' first | exact af.bP _ | refine af.jq (λ _=>?_) (λ _=>?_) _ | refine af.gV (λ _ _=>?_) _ _ | refine iq _ _ (λ _ _=>?_) _ | exact iq | exact hy _ _ | refine af.bQ ?_ λ _=>?_
def afB (x0:((List Bool)→((List (List Bool)) ⊕ Empty)→Option (((List (List Bool)) ⊕ Empty) × Bool))→((List (List Bool)) ⊕ Empty)→Option ((List (List Bool)) ⊕ Empty)):Option (List (List Bool)) :=
 (Vy x0).bind λ df =>
 some df
theorem aJ2{x0 Dc:((List Bool)→((List (List Bool)) ⊕ Empty)→Option (((List (List Bool)) ⊕ Empty) × Bool))→((List (List Bool)) ⊕ Empty)→Option ((List (List Bool)) ⊕ Empty)}(sD:∀ ys lx,(∀ y s,af (ys y s) (lx y s))→∀ s,af (x0 ys s) (Dc lx s)):af (afB x0) (Nc Dc):=by
 unfold afB Nc
 with_reducible repeat' first | exact af.bP _ | refine aKc (λ _ _ hy _=>?_) | refine sD _ _ (λ _ _=>?_) _ | exact sD | exact hy _ _ | refine af.bQ ?_ λ _=>?_
def afC(x0:((List Bool)→Option Int))(x1:(List (List Bool))):Option (List Bool) :=
 (idx x1 0).bind λ iQ =>
 (kQ x1 1 (x1.length:Int)).bind λ xb =>
 (qt (O:=(List Bool)) (λ (m5:(Int × (List Bool))) =>
 ae (decide (m5.1 < (xb.length:Int)))
 ((idx xb m5.1).bind λ pZ =>
 (x0 pZ).bind λ rQ =>
 (x0 m5.2).bind λ mI =>
 ae (decide (rQ < mI))
 (some (.inl (i64 (m5.1+1),pZ)))
 (some (.inl (i64 (m5.1+1),m5.2))))
 (some (.inr m5.2))) (0,iQ)).bind (λ (FG:(List Bool)) =>
 some FG)
theorem aJ3{x0 Dc:((List Bool)→Option Int)}(sD:∀ y,af (x0 y) (Dc y))(x1:(List (List Bool))):af (afC x0 x1) (Nd Dc x1):=by
 unfold afC Nd
 with_reducible repeat' first | exact af.bP _ | refine af.fW λ _=>?_ | refine af.ae ?_ ?_ | exact sD _ | exact hy _ _ | refine af.bQ ?_ λ _=>?_
def d129(x0:an)(x1:(List Bool)):{c // af c (EX x0 x1)}:=⟨_,by
 unfold EX
 with_reducible repeat' first | intro _ | apply af.fW | apply af.ae | apply af.bQ | exact af.bP _⟩
def d39(x0:an):{c // af c (It x0)}:=⟨_,by
 unfold It
 with_reducible repeat' first | intro _ | apply zJ | apply (d121 _).2 | apply (d122 _ _ _ _).2 | apply M3 | apply (d124 _).2 | apply (d126 _ _).2 | apply aJ2 | apply aJ3 | apply (d129 _ _).2 | apply RJ | apply af.ae | apply af.bQ | exact af.bP _ | exact ‹∀ _ _,af _ _› _ _⟩
abbrev c39(x0:an):=(d39 x0).1
theorem aKG(x0:an):af (c39 x0) (It x0):=(d39 x0).2
def d133(x0:Int):{c // af c (Co x0)}:=⟨_,by
 unfold Co
 with_reducible repeat' first | intro _ | apply af.fW | apply af.ae | apply af.bQ | exact af.bP _⟩
abbrev afF(x0:Int):=(d133 x0).1
theorem aJ5(x0:Int):af (afF x0) (Co x0):=(d133 x0).2
def d211(x0:Int)(x1:Int):{c // af c (Nr x0 x1)}:=⟨_,by
 unfold Nr
 with_reducible repeat' first | intro _ | apply (d235 _).2 | apply af.ae | apply af.bQ | exact af.bP _⟩
def d178(x0:(List Int))(x1:(List Int)):{c // af c (Ih x0 x1)}:=⟨_,by
 unfold Ih
 with_reducible repeat' first | intro _ | apply (d211 _ _).2 | apply af.fW | apply af.ae | apply af.jq | apply af.bQ | exact af.bP _⟩
abbrev afM(x0:(List Int))(x1:(List Int)):=(d178 x0 x1).1
theorem aKd(x0:(List Int))(x1:(List Int)):af (afM x0 x1) (Ih x0 x1):=(d178 x0 x1).2
def afD(x0:Int)(x1:(Int→Option Bool)):Option ((List Int) × Bool) :=
 (Ay .i64 1 x0).bind λ nS =>
 (qt (O:=((List Int) × Bool)) (λ (fU:((List Int) × Bool × Int)) =>
 ae (decide (fU.2.2 < nS))
 ((afF fU.2.2).bind λ j3 =>
 (((ae (!fU.2.1)
 ((x1 fU.2.2).bind λ pj =>
 some pj)
 (ae (decide ((j3.length:Int) < (fU.1.length:Int)))
 ((x1 fU.2.2).bind λ De =>
 some De)
 (ae ((j3.length:Int) == (fU.1.length:Int))
 ((afM j3 fU.1).bind λ Ga =>
 ae (decide (Ga < 0))
 ((x1 fU.2.2).bind λ TY =>
 some TY)
 (some false))
 (some false)))):Option Bool)).bind (λ (IJ:Bool) =>
 ae IJ
 (some (.inl (j3,true,i64 (fU.2.2+1))))
 (some (.inl (fU.1,fU.2.1,i64 (fU.2.2+1))))))
 (some (.inr (fU.1,fU.2.1)))) ([],false,0)).bind (λ (Al:((List Int) × Bool)) =>
 some (Al.1,Al.2))
theorem abu(x0:Int){x1 gD:(Int→Option Bool)}(iq:∀ y,af (x1 y) (gD y)):af (afD x0 x1) (EY x0 gD):=by
 unfold afD EY
 with_reducible repeat' first | exact af.bP _ | refine af.fW λ _=>?_ | refine af.ae ?_ ?_ | exact aJ5 _ | exact aKd _ _ | exact iq _ | exact hy _ _ | refine af.bQ ?_ λ _=>?_
def d134(x0:cI)(x1:(List Bool))(x2:(List Bool))(x3:Int):{c // af c (EZ x0 x1 x2 x3)}:=⟨_,by
 unfold EZ
 with_reducible repeat' first | intro _ | apply (d122 _ _ _ _).2 | apply RJ | apply af.jq | apply af.gV | apply af.bQ | exact af.bP _⟩
def d131(x0:Int)(x1:cI)(x2:(List Bool))(x3:(List Bool)):{c // af c (H7 x0 x1 x2 x3)}:=⟨_,by
 unfold H7
 with_reducible repeat' first | intro _ | apply (d132 _).2 | apply (d133 _).2 | apply (d134 _ _ _ _).2 | apply af.ae | apply af.bQ | exact af.bP _⟩
def d41(x0:an):{c // af c (Iu x0)}:=⟨_,by
 unfold Iu
 with_reducible repeat' first | intro _ | apply zJ | apply (d121 _).2 | apply M3 | apply (d124 _).2 | apply abu | apply (d131 _ _ _ _).2 | apply af.ae | apply af.bQ | exact af.bP _⟩
abbrev c41(x0:an):=(d41 x0).1
theorem aKH(x0:an):af (c41 x0) (Iu x0):=(d41 x0).2
def d138(x0:Int)(x1:cI)(x2:(List Bool))(x3:(List Bool)):{c // af c (H8 x0 x1 x2 x3)}:=⟨_,by
 unfold H8
 with_reducible repeat' first | intro _ | apply (d134 _ _ _ _).2 | apply af.bQ | exact af.bP _⟩
def d43(x0:an):{c // af c (Fg x0)}:=⟨_,by
 unfold Fg
 with_reducible repeat' first | intro _ | apply zJ | apply (d121 _).2 | apply M3 | apply (d124 _).2 | apply abu | apply (d138 _ _ _ _).2 | apply af.ae | apply af.bQ | exact af.bP _⟩
abbrev VM(x0:an):=(d43 x0).1
theorem aKI(x0:an):af (VM x0) (Fg x0):=(d43 x0).2
def d46(x0:an)(x1:fg):{c // af c (Fh x0 x1)}:=⟨_,by
 unfold Fh
 with_reducible repeat' first | intro _ | apply af.bQ | exact af.bP _⟩
abbrev VN(x0:an)(x1:fg):=(d46 x0 x1).1
theorem aKJ(x0:an)(x1:fg):af (VN x0 x1) (Fh x0 x1):=(d46 x0 x1).2
def d48(x0:an)(x1:Int):{c // af c (Fi x0 x1)}:=⟨_,by
 unfold Fi
 with_reducible repeat' first | intro _ | apply (d82 _).2 | apply (d104 _ _).2 | apply (d139 _ _ _).2 | apply af.ae | apply af.bQ | exact af.bP _⟩
abbrev VO(x0:an)(x1:Int):=(d48 x0 x1).1
theorem aKK(x0:an)(x1:Int):af (VO x0 x1) (Fi x0 x1):=(d48 x0 x1).2
def d49(x0:Int)(x1:Int):{c // af c (Fj x0 x1)}:=⟨_,by
 unfold Fj
 with_reducible repeat' first | intro _ | apply af.bQ | exact af.bP _⟩
abbrev VP(x0:Int)(x1:Int):=(d49 x0 x1).1
theorem ai3(x0:Int)(x1:Int):af (VP x0 x1) (Fj x0 x1):=(d49 x0 x1).2
def d151(x0:(List fg)):{c // af c (Ib x0)}:=⟨_,by
 unfold Ib
 with_reducible repeat' first | intro _ | apply af.bQ | exact af.bP _⟩
def d179(x0:(List gj)):{c // af c (Ii x0)}:=⟨_,by
 unfold Ii
 with_reducible repeat' first | intro _ | apply af.bQ | exact af.bP _⟩
def d180(x0:(List Reach)):{c // af c (Ij x0)}:=⟨_,by
 unfold Ij
 with_reducible repeat' first | intro _ | apply af.bQ | exact af.bP _⟩
def d181(x0:(List fK)):{c // af c (Ik x0)}:=⟨_,by
 unfold Ik
 with_reducible repeat' first | intro _ | apply af.bQ | exact af.bP _⟩
def d182(x0:(List nu)):{c // af c (Il x0)}:=⟨_,by
 unfold Il
 with_reducible repeat' first | intro _ | apply af.bQ | exact af.bP _⟩
def d140(x0:an):{c // af c (Nf x0)}:=⟨_,by
 unfold Nf
 with_reducible repeat' first | intro _ | apply (d151 _).2 | apply (d179 _).2 | apply (d180 _).2 | apply (d181 _).2 | apply (d182 _).2 | apply af.bQ | exact af.bP _⟩
def d50(x0:an)(x1:Int)(x2:Int):{c // af c (Iv x0 x1 x2)}:=⟨_,by
 unfold Iv
 with_reducible repeat' first | intro _ | apply (d82 _).2 | apply (d104 _ _).2 | apply (d139 _ _ _).2 | apply (d140 _).2 | apply af.fW | apply af.ae | apply af.bQ | exact af.bP _⟩
abbrev c50(x0:an)(x1:Int)(x2:Int):=(d50 x0 x1 x2).1
theorem aKL(x0:an)(x1:Int)(x2:Int):af (c50 x0 x1 x2) (Iv x0 x1 x2):=(d50 x0 x1 x2).2
def d144(x0:an)(x1:Int):{c // af c (Ni x0 x1)}:=⟨_,by
 unfold Ni
 with_reducible repeat' first | intro _ | apply (d133 _).2 | apply af.fW | apply af.ae | apply af.bQ | exact af.bP _⟩
def d145(x0:an):{c // af c (Nj x0)}:=⟨_,by
 unfold Nj
 with_reducible repeat' first | intro _ | apply RK | apply af.jq | apply af.gV | apply af.bQ | exact af.bP _⟩
def d143(x0:Int)(x1:an):{c // af c (H9 x0 x1)}:=⟨_,by
 unfold H9
 with_reducible repeat' first | intro _ | apply (d144 _ _).2 | apply (d145 _).2 | apply af.bQ | exact af.bP _⟩
def d54(x0:an):{c // af c (Iw x0)}:=⟨_,by
 unfold Iw
 with_reducible repeat' first | intro _ | apply (d82 _).2 | apply abu | apply (d143 _ _).2 | apply af.ae | apply af.bQ | exact af.bP _⟩
abbrev c54(x0:an):=(d54 x0).1
theorem aKM(x0:an):af (c54 x0) (Iw x0):=(d54 x0).2
def d146(x0:bH)(x1:Int)(x2:Int):{c // af c (Ia x0 x1 x2)}:=⟨_,by
 unfold Ia
 with_reducible repeat' first | intro _ | apply af.bQ | exact af.bP _⟩
def d59(x0:an):{c // af c (Ix x0)}:=⟨_,by
 unfold Ix
 with_reducible repeat' first | intro _ | apply zJ | apply RI | apply (d121 _).2 | apply (d146 _ _ _).2 | apply af.fW | apply af.ae | apply af.bQ | exact af.bP _⟩
abbrev c59(x0:an):=(d59 x0).1
theorem aKN(x0:an):af (c59 x0) (Ix x0):=(d59 x0).2
def d66(x0:an)(x1:Int)(x2:Int):{c // af c (Iy x0 x1 x2)}:=⟨_,by
 unfold Iy
 with_reducible repeat' first | intro _ | apply (d82 _).2 | apply (d107 _ _).2 | apply (d149 _ _ _).2 | apply af.ae | apply af.bQ | exact af.bP _⟩
abbrev c66(x0:an)(x1:Int)(x2:Int):=(d66 x0 x1 x2).1
theorem aKO(x0:an)(x1:Int)(x2:Int):af (c66 x0 x1 x2) (Iy x0 x1 x2):=(d66 x0 x1 x2).2
def d159(x0:Int):{c // af c (Ic x0)}:=⟨_,by
 unfold Ic
 with_reducible repeat' first | intro _ | apply af.bQ | exact af.bP _⟩
abbrev afG(x0:Int):=(d159 x0).1
theorem aJ6(x0:Int):af (afG x0) (Ic x0):=(d159 x0).2
def VR  : Option an :=
 (VP 9 11).bind λ cC =>
 (afG 15).bind λ rP =>
 some (⟨10,[(⟨10,40⟩:gj),(⟨20,20⟩:gj)],[cC,rP],[(⟨⟨#[97,110,110]⟩,20⟩:fK),(⟨⟨#[98,111]⟩,12⟩:fK)],[(⟨0,0,20,2⟩:nu),(⟨1,30,15,1⟩:nu),(⟨0,60,30,1⟩:nu)],[]⟩:an)
theorem aKP  : af (VR ) (NH ):=by
 unfold VR NH
 with_reducible repeat' first | exact af.bP _ | exact ai3 _ _ | exact aJ6 _ | exact hy _ _ | refine af.bQ ?_ λ _=>?_
def d102(x0:(List Int))(x1:(List Int)):{c // af c (Ch x0 x1)}:=⟨_,by
 unfold Ch
 with_reducible repeat' first | intro _ | apply af.fW | apply af.ae | apply af.jq | apply af.bQ | exact af.bP _⟩
def d27(x0:(List Int))(x1:(List Int)):{c // af c (yq x0 x1)}:=⟨_,by
 unfold yq
 with_reducible repeat' first | intro _ | apply (d102 _ _).2 | apply af.ae | apply af.bQ | exact af.bP _⟩
abbrev c27(x0:(List Int))(x1:(List Int)):=(d27 x0 x1).1
theorem aKu(x0:(List Int))(x1:(List Int)):af (c27 x0 x1) (yq x0 x1):=(d27 x0 x1).2
def d89(x0:(List Int))(x1:(List Int)):{c // af c (zZ x0 x1)}:=⟨_,by
 unfold zZ
 with_reducible repeat' first | intro _ | apply (d27 _ _).2 | apply af.bQ | exact af.bP _⟩
abbrev Kt(x0:(List Int))(x1:(List Int)):=(d89 x0 x1).1
theorem aKQ(x0:(List Int))(x1:(List Int)):af (Kt x0 x1) (zZ x0 x1):=(d89 x0 x1).2
def VL(x0:(List (List Int)))(x1:(List (List Int))):Option Bool :=
 ae ((x0.length:Int) != (x1.length:Int))
 (some false)
 ((qt (O:=(Unit ⊕ Bool)) (λ (gp:Int) =>
 ae (decide (gp < (x0.length:Int)))
 ((idx x0 gp).bind λ A0 =>
 (idx x1 gp).bind λ pY =>
 (c27 A0 pY).bind λ nR =>
 ae (!nR)
 (some (.inr (.inr false)))
 (some (.inl (i64 (gp+1)))))
 (some (.inr (.inl ())))) 0).bind (Sum.elim (λ (_:Unit) =>
 some true)
  (λ q=>some q)))
theorem aKF(x0:(List (List Int)))(x1:(List (List Int))):af (VL x0 x1) (NC x0 x1):=by
 unfold VL NC
 with_reducible repeat' first | exact af.bP _ | refine af.fW λ _=>?_ | refine af.ae ?_ ?_ | refine af.jq (λ _=>?_) (λ _=>?_) _ | exact aKu _ _ | exact hy _ _ | refine af.bQ ?_ λ _=>?_
def PE(x0:(List (List Int)))(x1:(List (List Int))):Option Bool :=
 (VL x0 x1).bind λ df =>
 some df
theorem aKR(x0:(List (List Int)))(x1:(List (List Int))):af (PE x0 x1) (Iz x0 x1):=by
 unfold PE Iz
 with_reducible repeat' first | exact af.bP _ | exact aKF _ _ | exact hy _ _ | refine af.bQ ?_ λ _=>?_
def c22  : Option Bool :=
 (VR).bind λ fq =>
 (VN fq (⟨0,10,true⟩:fg)).bind λ ji =>
 (VO fq 10).bind λ Gd =>
 (VO fq 21).bind λ yM =>
 (c23 fq).bind λ yN =>
 (c25 ji 0).bind λ w8 =>
 (c28 fq 0).bind λ yO =>
 (PC fq 1 0).bind λ yP =>
 (PC fq 1 1).bind λ Ge =>
 (PC fq 1 2).bind λ AW =>
 (c66 fq 0 1).bind λ Dg =>
 (PD fq ([[0,1],[0],[1]])).bind λ Gf =>
 (PD ji ([[0,1],[0],[1]])).bind λ w9 =>
 (((ae (Gd.2 != 0)
 (some true)
 (ae (yM.2 != 0)
 (some true)
 (ae (yN.2 != 0)
 (some true)
 (ae (w8.2 != 0)
 (some true)
 (ae (yO.2 != 0)
 (some true)
 (ae (yP.2 != 0)
 (some true)
 (ae (Ge.2 != 0)
 (some true)
 (ae (AW.2 != 0)
 (some true)
 (ae (Dg.2 != 0)
 (some true)
 (ae (Gf.2 != 0)
 (some true)
 (some (w9.2 != 0)))))))))))):Option Bool)).bind (λ (IP:Bool) =>
 ae IP
 (some false)
 ((((ae (Gd.1 != 40)
 (some true)
 (ae (yM.1 != 0)
 (some true)
 (ae (yN.1 != 3)
 (some true)
 ((Kt w8.1 [9,10]).bind λ T6 =>
 ae (!T6)
 (some true)
 ((VP 20 40).bind λ Oz =>
 ae (!(KF yO.1 Oz == true))
 (some true)
 (ae (yP.1 != 1)
 (some true)
 (ae (Ge.1 != 2)
 (some true)
 (ae (AW.1 != 0)
 (some true)
 (ae (!Dg.1)
 (some true)
 (ae (Gf.1 != 0)
 (some true)
 (some (w9.1 != 1)))))))))))):Option Bool)).bind (λ (IQ:Bool) =>
 ae IQ
 (some false)
 ((VK fq).bind λ Gj =>
 (VK ji).bind λ Gk =>
 (c36 ji).bind λ yQ =>
 (c39 ji).bind λ tu =>
 (c41 ji).bind λ yR =>
 (VM fq).bind λ Gl =>
 (c59 fq).bind λ pV =>
 (c50 ji 12 15).bind λ qR =>
 (VM qR.1).bind λ Jz =>
 (VN ji (⟨0,8,true⟩:fg)).bind λ OA =>
 (c54 OA).bind λ Gm =>
 (((ae (Gj.2 != 0)
 (some true)
 (ae (Gk.2 != 0)
 (some true)
 (ae (yQ.2.2 != 0)
 (some true)
 (ae (tu.2.2.2 != 0)
 (some true)
 (ae (yR.2.2 != 0)
 (some true)
 (ae (Gl.2 != 0)
 (some true)
 (ae (pV.2.2.2 != 0)
 (some true)
 (ae (qR.2 != 0)
 (some true)
 (ae (Jz.2 != 0)
 (some true)
 (some (Gm.2 != 0))))))))))):Option Bool)).bind (λ (IS:Bool) =>
 ae IS
 (some false)
 ((((ae (Gj.1 != 0)
 (some true)
 (ae (Gk.1 != 2)
 (some true)
 (ae (!yQ.2.1)
 (some true)
 ((PE yQ.1 ([[0,1],[0],[0]])).bind λ Ub =>
 ae (!Ub)
 (some true)
 (ae (!tu.2.2.1)
 (some true)
 (ae (tu.2.1 != 50)
 (some true)
 ((PE tu.1 ([[0,1],[0],[1]])).bind λ AX =>
 ae (!AX)
 (some true)
 (ae (!yR.2.1)
 (some true)
 ((Kt yR.1 [0,1]).bind λ AY =>
 ae (!AY)
 (some true)
 ((Kt Gl.1 [2]).bind λ Ud =>
 some (!Ud))))))))))):Option Bool)).bind (λ (IT:Bool) =>
 ae IT
 (some false)
 (ae (pV.1 == 0)
 (ae (pV.2.1 == 9)
 (ae (pV.2.2.1 == 2)
 (ae ((Jz.1.length:Int) == 0)
 ((Kt Gm.1 [1]).bind λ OD =>
 ae OD
 (ae ((qR.1.Rows.length:Int) == 3)
 ((idx qR.1.Rows 1).bind λ yT =>
 ae (KG yT (⟨12,15⟩:gj) == true)
 ((idx qR.1.Rows 2).bind λ JC =>
 some (KG JC (⟨20,15⟩:gj) == true))
 (some false))
 (some false))
 (some false))
 (some false))
 (some false))
 (some false))
 (some false)))))))))
theorem aKm  : af (c22 ) (E3 ):=by
 unfold c22 E3
 with_reducible repeat' first | exact af.bP _ | refine af.ae ?_ ?_ | exact aKr _ | exact aKt _ _ | exact aKA _ _ | exact aKB _ _ _ | exact aKC _ _ | exact aKD _ | exact aKE _ | exact aKG _ | exact aKH _ | exact aKI _ | exact aKJ _ _ | exact aKK _ _ | exact ai3 _ _ | exact aKL _ _ _ | exact aKM _ | exact aKN _ | exact aKO _ _ _ | exact aKP | exact aKQ _ _ | exact aKR _ _ | exact hy _ _ | refine af.bQ ?_ λ _=>?_
theorem aPF:E3=some true:=aKm _ (by decide +kernel)
end
end Go.Proofs.YtihapemckcdicaaGreatDoor
