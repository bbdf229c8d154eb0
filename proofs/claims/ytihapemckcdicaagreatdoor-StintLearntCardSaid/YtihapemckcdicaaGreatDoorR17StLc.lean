/- Plain laws of chapter 5, with what is sorted. Conditions: none. -/
import Derived.Test.YtihapemckcdicaaGreatDoorQXStC
import Derived.Test.YtihapemckcdicaaGreatDoorR17StL
import Derived.Sort.AssemblyPlain
namespace Go.Proofs.YtihapemckcdicaaGreatDoor
open Go.Lg Go.Proofs
set_option maxRecDepth 10000
theorem a0c(c:List Int):meet [] c=false:=rfl
abbrev fI(b:aj)(s:dp):aj:=Te b (b.bg++[s])
def abN(b:aj)(s:dp):aj × Int:=if iR b≠0 then (ym,iR b) else if il (fI b s) 0≠0 then (ym,il (fI b s) 0) else (fI b s,0)
theorem an7{b:aj}(hv:Valid b)(s:dp):Small (fI b s):=by
 have hs:=hv.sm
 have h3:=hv.s3
 exact ⟨hs.rows,hs.places,hs.sZ,hs.Kw,by show (b.bg++[s]).length≤20; simp; omega,hs.each⟩
theorem aJ6{b:aj}(hs:Small b)(s:dp):MV b s=some (abN b s):=by
 unfold MV abN
 rw [aa1 hs,aU]
 by_cases h:iR b=0
 ·have hv:=wI.1 h
  have h3:=hv.s3
  have HF:=an7 hv s
  have hr:=hs.rows
  rw [h]
  simp only [bne_self_eq_false,bI,ne_eq,kY,if_false]
  unfold zN
  rw [xd (by simp; omega)]
  simp only [aU,List.nil_append]
  rw [xd (by simp; omega),aU]
  rw [show (⟨b.Rest,b.Rows,b.aK,b.ax,b.ay,b.bg++[s]⟩:aj)=fI b s from rfl,FA HF (own:=0) (λ _=>rfl),aU]
  unfold zZ
  by_cases he:il (fI b s) 0=0
  ·rw [he]
   simp only [ne_eq,kY,if_false,bne_self_eq_false,bI]
   rw [aIu HF (by show b.Rows.length≤1000; omega)]
   rfl
  ·simp only [he,ne_eq,not_false_eq_true,if_true,s7 he,bR]
   rfl
 ·rw [s7 h,bR,if_pos h]
  rfl
theorem aKE:Small ym:=⟨by simp [ym],by simp [ym],by simp [ym],by simp [ym],by simp [ym],by simp [ym]⟩
theorem ajR{b:aj}(h:Small b):Fz b b=some true:=by
 obtain ⟨h1,h2,h3,h4,h5,_⟩:=h
 exact aJ2 (by omega) (by omega) (by omega) (by omega) (by omega)
open Go.Sort
theorem aaB{S O:Type}{body:S→Option (S ⊕ O)}(I:S→Prop)(μ:S→Nat){Q:O→Prop}(h:∀ s,I s→(∃ s',body s=some (.inl s')∧I s'∧μ s' < μ s)∨∃ o,body s=some (.inr o)∧Q o):∀ s,I s→∃ o,bH body s=some o∧Q o:=by
 have key:∀ n s,μ s≤n→I s→∃ o,bH body s=some o∧Q o:=by
  intro n
  induction n with
  | zero =>
   intro s hn hI
   rcases h s hI with ⟨s',_,_,bV⟩ | ⟨o,hb,hq⟩
   ·omega
   ·exact ⟨o,om hb,hq⟩
  | succ n ih =>
   intro s hn hI
   rcases h s hI with ⟨s',hb,KH,bV⟩ | ⟨o,hb,hq⟩
   ·obtain ⟨o,ho,hq⟩:=ih s' (by omega) KH
    exact ⟨o,by rw [zE hb,ho],hq⟩
   ·exact ⟨o,om hb,hq⟩
 exact λ s hI=>key _ s (dr _) hI
theorem sV{S O β:Type}{body:S→Option (S ⊕ O)}{f:O→Option β}{P:β→Prop}(I:S→Prop)(μ:S→Nat)(Q:O→Prop){s:S}(hI:I s)(hf:∀ o,Q o→∃ b,f o=some b∧P b)(h:∀ s,I s→(∃ s',body s=some (.inl s')∧I s'∧μ s' < μ s)∨∃ o,body s=some (.inr o)∧Q o):∃ b,(bH body s).bind f=some b∧P b:=by
 obtain ⟨o,ho,hq⟩:=aaB I μ h s hI
 rw [lO ho]
 exact hf o hq
theorem rJ(x y:Int):hZ x y=some (ltInt x y):=by
 unfold hZ zR
 simp only [aU,bne_self_eq_false,bI]
 rfl
theorem ma(l:List Int)(i:Nat):l.toArray[i]! = nth l i:=by
 unfold nth
 simp only [List.getElem!_toArray,List.getElem!_eq_getElem?_getD,qZ]
def kW(l:List Int)(i j:Nat):List Int:=(l.set i (nth l j)).set j (nth l i)
theorem pX(l:List Int)(i j:Nat):(kW l i j).toArray=swp l.toArray i j:=by
 unfold kW swp
 rw [ma,ma]
 simp
theorem o9(l:List Int)(i j:Nat):(kW l i j).length=l.length:=by simp [kW]
theorem pW{l:List Int}{i j:Nat}{x:Int}(h:j < l.length):(l.set i x)[j]? = some (nth (l.set i x) j):=bZ (by simpa using h)
theorem sP{i j:Nat}(h:i≤1000000000)(hj:j≤i):i64 ((i:Int) - (j:Int))=((i - j:Nat):Int):=by rw [gZ (by omega) (by omega)]; omega
theorem xV{i j:Nat}(h:i≤1000000000)(hj:j≤1000000000):i64 ((i:Int)+(j:Int))=((i+j:Nat):Int):=by rw [gZ (by omega) (by omega)]; omega
theorem ahn{i:Nat}(h:i≤1000000000):i64 (((i+1:Nat):Int) - 1)=(i:Int):=by rw [gZ (by omega) (by omega)]; omega
theorem rn{i j:Nat}:decide ((i:Int) < (j:Int))=decide (i < j):=by simp
theorem O2{i j:Nat}:decide ((i:Int) > (j:Int))=decide (i > j):=by simp
theorem Hc{i j:Nat}:decide ((i:Int)≤(j:Int))=decide (i≤j):=by simp
theorem Ku{i j:Nat}:decide ((i:Int) ≥ (j:Int))=decide (i ≥ j):=by simp
abbrev lB(l:List Int):Prop:=l.length≤1000000
theorem aim{l:List Int}{a b:Nat}(hl:lB l)(bJ:a≤b)(hb:b≤l.length):∃ l',Cp l a b=some l'∧l'.toArray=insertionSort ltInt l.toArray a b:=by
 unfold Cp insertionSort
 have hB:=hl
 unfold lB at hB
 rw [dS (by omega)]
 refine sV (λ s=>∃ (m:List Int) (i:Nat),s=(m,(i:Int))∧m.length=l.length∧insOuter ltInt a b i m.toArray=insOuter ltInt a b (a+1) l.toArray) (λ s=>b - s.2.toNat)
  (λ o=>o.toArray=insOuter ltInt a b (a+1) l.toArray) ⟨l,a+1,rfl,rfl,rfl⟩ (λ o hq=>⟨o,rfl,hq⟩) ?_
 ·rintro _ ⟨m,i,rfl,hm,hT⟩
  rw [insOuter] at hT
  by_cases hi:i < b
  ·rw [if_pos hi] at hT
   left
   obtain ⟨p,hp,Qd,XJ⟩:=aaB (S:=List Int × Int) (O:=List Int) (body:=λ (fp:((List Int) × Int)) =>
    (((af (decide (fp.2 > (a:Int)))
    ((idx fp.1 fp.2).bind λ NK =>
    (idx fp.1 (i64 (fp.2 - 1))).bind λ NL =>
    (hZ NK NL).bind λ TB =>
    some TB)
    (some false)):Option Bool)).bind (λ (IL:Bool) =>
    af IL
    ((idx fp.1 (i64 (fp.2 - 1))).bind λ wT =>
    (idx fp.1 fp.2).bind λ Dj =>
    (idx fp.1 fp.2).bind λ acR =>
    (idx (fp.1.set fp.2.toNat wT) (i64 (fp.2 - 1))).bind λ Dk =>
    some (.inl ((fp.1.set fp.2.toNat wT).set (i64 (fp.2 - 1)).toNat Dj,i64 (fp.2 - 1))))
    (some (.inr fp.1)))) (λ s=>∃ (q:List Int) (j:Nat),s=(q,(j:Int))∧q.length=l.length∧j < q.length∧insInner ltInt a j q.toArray=insInner ltInt a i m.toArray) (λ s=>s.2.toNat)
    (Q:=λ o=>o.length=l.length∧o.toArray=insInner ltInt a i m.toArray) (by
     rintro _ ⟨q,j,rfl,hq,hj,jK⟩
     cases j with
     | zero =>
      right
      refine ⟨q,?_,hq,jK⟩
      rw [show decide (((0:Nat):Int) > (a:Int))=false by simp]
      rfl
     | succ j =>
      rw [insInner] at jK
      dsimp only
      rw [O2,ahn (by omega)]
      simp only [dD,bZ hj,bZ (show j < q.length by omega),aU,rJ,eH,pW (show j < q.length by omega)]
      rw [ma,ma] at jK
      by_cases hc:j+1 > a∧ltInt (nth q (j+1)) (nth q j)=true
      ·left
       rw [if_pos (by simp [hc.1,hc.2])] at jK
       refine ⟨(kW q (j+1) j,(j:Int)),?_,⟨_,j,rfl,by rw [o9]; exact hq,by rw [o9]; omega,by rw [pX]; exact jK⟩,by simp only [eH]; omega⟩
       rw [gk hc.1,bR,aU,hc.2]
       rfl
      ·right
       rw [if_neg (by simpa using hc)] at jK
       refine ⟨q,?_,hq,jK⟩
       by_cases h1:j+1 > a
       ·have h2:ltInt (nth q (j+1)) (nth q j)=false:=by simpa [h1] using hc
        rw [gk h1,bR,aU,h2]
        rfl
       ·rw [jA h1]
        rfl) (m,(i:Int)) ⟨m,i,rfl,hm,by omega,rfl⟩
   refine ⟨(p,((i+1:Nat):Int)),?_,⟨p,i+1,rfl,Qd,by rw [XJ]; exact hT⟩,by simp only [eH]; omega⟩
   dsimp only
   rw [rn,gk hi,bR,lO hp,dS (by omega)]
  ·rw [if_neg hi] at hT
   right
   refine ⟨m,?_,hT⟩
   dsimp only
   rw [rn,jA hi,bI]
theorem aJk{l:List Int}{a b:Nat}(hl:lB l)(bJ:a < b)(hb:b≤l.length):∃ l',zQ l a b=some l'∧l'.toArray=reverseRange l.toArray a b:=by
 unfold zQ reverseRange
 have hB:=hl
 unfold lB at hB
 rw [show i64 ((b:Int) - 1)=((b - 1:Nat):Int) from mf (by omega) (by omega)]
 refine sV (λ s=>∃ (m:List Int) (i j:Nat),s=(m,(i:Int),(j:Int))∧m.length=l.length∧j < b∧reverseLoop i j m.toArray=reverseLoop a (b - 1) l.toArray) (λ s=>s.2.2.toNat - s.2.1.toNat)
  (λ o=>o.toArray=reverseLoop a (b - 1) l.toArray) ⟨l,a,b - 1,rfl,rfl,by omega,rfl⟩ (λ o hq=>⟨o,rfl,hq⟩) ?_
 ·rintro _ ⟨m,i,j,rfl,hm,hj,hT⟩
  rw [reverseLoop] at hT
  dsimp only
  rw [rn]
  by_cases gg:i < j
  ·rw [if_pos gg] at hT
   left
   refine ⟨(kW m i j,((i+1:Nat):Int),((j - 1:Nat):Int)),?_,⟨_,i+1,j - 1,rfl,by rw [o9]; exact hm,by omega,by rw [pX]; exact hT⟩,by simp only [eH]; omega⟩
   rw [gk gg,bR]
   simp only [dD,bZ (show i < m.length by omega),bZ (show j < m.length by omega),aU,eH,pW (show j < m.length by omega),dS (i:=i) (by omega),mf (i:=j) (by omega) (by omega)]
   rfl
  ·rw [if_neg gg] at hT
   right
   exact ⟨m,by rw [jA gg]; rfl,hT⟩
theorem ain{l:List Int}{r hi first:Nat}(hl:lB l)(hb:first+hi≤l.length)(hr:r≤1000000):∃ l',Cv l r hi first=some l'∧l'.length=l.length∧l'.toArray=siftDown ltInt hi first r l.toArray:=by
 unfold Cv
 have hB:=hl
 unfold lB at hB
 refine sV (λ s=>∃ (m:List Int) (q:Nat),s=(m,(q:Int))∧m.length=l.length∧q≤1000000∧siftDown ltInt hi first q m.toArray=siftDown ltInt hi first r l.toArray) (λ s=>hi - s.2.toNat)
  (λ o=>∃ m:List Int,(o = .inl m∨o = .inr m)∧m.length=l.length∧m.toArray=siftDown ltInt hi first r l.toArray) ⟨l,r,rfl,rfl,hr,rfl⟩ (λ o hq=>?_) ?_
 ·obtain ⟨m,hm,hml,vz⟩:=hq
  rcases hm with rfl | rfl
  ·exact ⟨m,rfl,hml,vz⟩
  ·exact ⟨m,rfl,hml,vz⟩
 ·rintro _ ⟨m,q,rfl,hm,HD,hT⟩
  rw [siftDown] at hT
  dsimp only
  have e1:i64 (i64 (2 * (q:Int))+1)=((2 * q+1:Nat):Int):=by rw [gZ (z:=2 * (q:Int)) (by omega) (by omega),gZ (by omega) (by omega)]; omega
  have e2:i64 (((2 * q+1:Nat):Int)+1)=((2 * q+2:Nat):Int):=by rw [gZ (by omega) (by omega)]; omega
  rw [e1,e2,Ku,rn]
  by_cases h1:2 * q+1 ≥ hi
  ·rw [dif_pos h1] at hT
   right
   exact ⟨.inl m,by rw [gk h1]; rfl,m,.inl rfl,hm,hT⟩
  ·rw [dif_neg h1] at hT
   rw [jA h1,bI]
   have f1:i64 ((first:Int)+((2 * q+1:Nat):Int))=((first+(2 * q+1):Nat):Int):=xV (by omega) (by omega)
   have f2:i64 (((first+(2 * q+1):Nat):Int)+1)=((first+(2 * q+1)+1:Nat):Int):=dS (by omega)
   have f3:i64 ((first:Int)+(q:Int))=((first+q:Nat):Int):=xV (by omega) (by omega)
   have f4:i64 ((first:Int)+((2 * q+2:Nat):Int))=((first+(2 * q+2):Nat):Int):=xV (by omega) (by omega)
   rw [f1,f2,f3]
   simp only [ma] at hT
   have g0:m[first+q]? = some (nth m (first+q)):=bZ (by omega)
   have g1:m[first+(2 * q+1)]? = some (nth m (first+(2 * q+1))):=bZ (by omega)
   by_cases hc:(decide (2 * q+1+1 < hi) && ltInt (nth m (first+(2 * q+1))) (nth m (first+(2 * q+1)+1)))=true
   ·rw [if_pos hc] at hT
    simp only [fF,decide_eq_true_eq] at hc
    have g2:m[first+(2 * q+1)+1]? = some (nth m (first+(2 * q+1)+1)):=bZ (by omega)
    have g2':m[first+(2 * q+2)]? = some (nth m (first+(2 * q+2))):=bZ (by omega)
    rw [gk (show 2 * q+2 < hi by omega),bR]
    simp only [dD,g1,g2,aU,rJ,hc.2,bR,f4,g0,g2']
    cases hx:ltInt (nth m (first+q)) (nth m (first+(2 * q+2))) with
    | false =>
     rw [hx] at hT
     right
     exact ⟨.inr m,rfl,m,.inr rfl,hm,by simpa using hT⟩
    | true =>
     rw [hx] at hT
     simp only [Bool.not_true,l6,if_false] at hT
     rw [dif_pos (by omega)] at hT
     left
     refine ⟨(kW m (first+q) (first+(2 * q+2)),((2 * q+2:Nat):Int)),?_,⟨_,2 * q+2,rfl,by rw [o9]; exact hm,by omega,by rw [pX]; exact hT⟩,by simp only [eH]; omega⟩
     simp only [Bool.not_true,bI,eH,pW (show first+(2 * q+2) < m.length by omega),aU]
     rfl
   ·rw [if_neg hc] at hT
    have hp:(af (decide (2 * q+2 < hi)) ((idx m ((first+(2 * q+1):Nat):Int)).bind λ Ji=>(idx m ((first+(2 * q+1)+1:Nat):Int)).bind λ NF=>(hZ Ji NF).bind λ Df=>some Df) (some false):Option Bool)=some false:=by
     by_cases h2:2 * q+2 < hi
     ·have g2:m[first+(2 * q+1)+1]? = some (nth m (first+(2 * q+1)+1)):=bZ (by omega)
      rw [gk h2,bR]
      simp only [dD,g1,g2,aU,rJ]
      have VY:2 * q+1+1 < hi:=h2
      simpa [VY] using hc
     ·rw [jA h2,bI]
    rw [hp]
    simp only [dD,aU,bI,f1,g0,g1,rJ]
    cases hx:ltInt (nth m (first+q)) (nth m (first+(2 * q+1))) with
    | false =>
     rw [hx] at hT
     right
     exact ⟨.inr m,rfl,m,.inr rfl,hm,by simpa using hT⟩
    | true =>
     rw [hx] at hT
     simp only [Bool.not_true,l6,if_false] at hT
     left
     refine ⟨(kW m (first+q) (first+(2 * q+1)),((2 * q+1:Nat):Int)),?_,⟨_,2 * q+1,rfl,by rw [o9]; exact hm,by omega,by rw [pX]; exact hT⟩,by simp only [eH]; omega⟩
     simp only [Bool.not_true,bI,eH,pW (show first+(2 * q+1) < m.length by omega),aU]
     rfl
theorem aJe{l:List Int}{a b:Nat}(hl:lB l)(bJ:a < b)(hb:b≤l.length):∃ l',Cq l a b=some l'∧l'.toArray=heapSort ltInt l.toArray a b:=by
 unfold Cq heapSort
 have hB:=hl
 unfold lB at hB
 have e0:i64 ((b:Int) - (a:Int))=((b - a:Nat):Int):=sP (by omega) (by omega)
 have e1:i64 (((b - a:Nat):Int) - 1)=((b - a - 1:Nat):Int):=mf (by omega) (by omega)
 have e2:oZ ((b - a - 1:Nat):Int) 2=some (((b - a - 1) / 2:Nat):Int):=by
  unfold oZ
  rw [if_neg (by omega),show (2:Int)=((2:Nat):Int) from rfl,← Int.ofNat_tdiv,gZ (by omega) (by omega)]
 rw [e0,e1,e2,aU]
 generalize hn:b - a=n
 have Ei:0 < n:=by omega
 refine sV (λ s=>∃ (m:List Int) (k:Nat),s=(m,(k:Int) - 1)∧m.length=l.length∧k≤1000000∧heapBuild ltInt n a k m.toArray=heapBuild ltInt n a ((n - 1) / 2+1) l.toArray) (λ s=>(s.2+1).toNat)
  (λ o=>o.length=l.length∧o.toArray=heapBuild ltInt n a ((n - 1) / 2+1) l.toArray) ⟨l,(n - 1) / 2+1,by simp,rfl,by omega,rfl⟩ (λ m hq=>?_) ?_
 ·obtain ⟨hm,vz⟩:=hq
  have e3:(((n - 1:Nat):Int))=(n:Int) - 1:=by omega
  rw [e3,← vz]
  refine sV (λ s=>∃ (q:List Int) (k:Nat),s=(q,(k:Int) - 1)∧q.length=l.length∧k≤n∧heapPop ltInt a k q.toArray=heapPop ltInt a n m.toArray) (λ s=>(s.2+1).toNat)
   (λ o=>o.toArray=heapPop ltInt a n m.toArray) ⟨m,n,rfl,hm,by omega,rfl⟩ (λ o hq=>⟨o,rfl,hq⟩) ?_
  rintro _ ⟨q,k,rfl,hq,hk,hT⟩
  dsimp only
  cases k with
  | zero =>
   right
   exact ⟨q,by rw [show decide (((0:Nat):Int) - 1 ≥ 0)=false by simp]; rfl,hT⟩
  | succ k =>
   left
   have e4:((k+1:Nat):Int) - 1=(k:Int):=by omega
   have f1:i64 ((a:Int)+(k:Int))=((a+k:Nat):Int):=xV (by omega) (by omega)
   rw [heapPop,← pX] at hT
   obtain ⟨t,ht,LQ,oO⟩:=ain (l:=kW q a (a+k)) (r:=0) (hi:=k) (first:=a) (by unfold lB; rw [o9]; omega) (by rw [o9]; omega) (by omega)
   rw [o9] at LQ
   rw [← oO] at hT
   refine ⟨(t,(k:Int) - 1),?_,⟨t,k,rfl,by omega,by omega,hT⟩,by simp only []; omega⟩
   rw [e4,show decide ((k:Int) ≥ 0)=true by simp,bR]
   simp only [f1,dD,bZ (show a < q.length by omega),bZ (show a+k < q.length by omega),aU,eH,pW (show a+k < q.length by omega)]
   rw [show ((q.set a (nth q (a+k))).set (a+k) (nth q a))=kW q a (a+k) from rfl,show (0:Int)=((0:Nat):Int) from rfl,ht,aU,gZ (by omega) (by omega)]
 ·rintro _ ⟨m,k,rfl,hm,hk,hT⟩
  dsimp only
  cases k with
  | zero =>
   right
   exact ⟨m,by rw [show decide (((0:Nat):Int) - 1 ≥ 0)=false by simp]; rfl,hm,hT⟩
  | succ k =>
   left
   have e4:((k+1:Nat):Int) - 1=(k:Int):=by omega
   rw [heapBuild] at hT
   obtain ⟨t,ht,LQ,oO⟩:=ain (l:=m) (r:=k) (hi:=n) (first:=a) (by unfold lB; omega) (by omega) (by omega)
   rw [← oO] at hT
   refine ⟨(t,(k:Int) - 1),?_,⟨t,k,rfl,by omega,by omega,hT⟩,by simp only []; omega⟩
   rw [e4,show decide ((k:Int) ≥ 0)=true by simp,bR,ht,aU,gZ (by omega) (by omega)]
theorem ajS{body:Int→Option (Int ⊕ Int)}{d:Array Int}{p:Int→Bool}{J:Nat}(h:∀ k:Nat,body (k:Int)=if (decide (k≤J) && p d[k]!)=true then some (.inl ((k+1:Nat):Int)) else some (.inr (k:Int)))(i:Nat):bH body (i:Int)=some ((scanUp p d J i:Nat):Int):=by
 have key:∀ n i:Nat,J+1 - i≤n→bH body (i:Int)=some ((scanUp p d J i:Nat):Int):=by
  intro n
  induction n with
  | zero =>
   intro i hn
   have hc:¬ (decide (i≤J) && p d[i]!)=true:=by simp; omega
   rw [scanUp,if_neg hc]
   exact om (by rw [h,if_neg hc])
  | succ n ih =>
   intro i hn
   rw [scanUp]
   by_cases hc:(decide (i≤J) && p d[i]!)=true
   ·rw [if_pos hc]
    have hi:i≤J:=by simp at hc; exact hc.1
    rw [zE (s':=((i+1:Nat):Int)) (by rw [h,if_pos hc])]
    exact ih (i+1) (by omega)
   ·rw [if_neg hc]
    exact om (by rw [h,if_neg hc])
 exact key _ i (dr _)
theorem abH{body:Int→Option (Int ⊕ Int)}{d:Array Int}{p:Int→Bool}{i:Nat}{J:Nat}(hi:0 < i)(h:∀ k:Nat,k≤J→body (k:Int)=if (decide (i≤k) && p d[k]!)=true then some (.inl ((k:Int) - 1)) else some (.inr (k:Int))):∀ j:Nat,j≤J→bH body (j:Int)=some ((scanDown p d i j:Nat):Int)
 | 0,hj=>by
  rw [scanDown]
  refine om ?_
  rw [h 0 hj,if_neg (by simp; omega)]
 | j+1,hj=>by
  rw [scanDown]
  by_cases hc:(decide (i≤j+1) && p d[j+1]!)=true
  ·rw [if_pos hc,zE (s':=(j:Int)) (by rw [h _ hj,if_pos hc]; congr 2; omega)]
   exact abH hi h j (by omega)
  ·rw [if_neg hc]
   refine om ?_
   rw [h _ hj,if_neg hc]
theorem abG{p:Int→Bool}{d:Array Int}{i j:Nat}(h:i≤j+1):i≤scanUp p d j i∧scanUp p d j i≤j+1:=by
 obtain ⟨h1,h2,_⟩:=scanUp_spec p d j _ i rfl
 exact ⟨h1,h2 h⟩
theorem Vi(p:Int→Bool)(d:Array Int)(i j:Nat):scanDown p d i j≤j:=(scanDown_spec p d i j).1
theorem abI{p q:Int→Bool}(hq:∀ x,q x=!p x){d:Array Int}{i j:Nat}(hi:0 < i)(h:¬ scanUp p d j i > scanDown q d (scanUp p d j i) j):scanUp p d j i < scanDown q d (scanUp p d j i) j:=by
 obtain ⟨u1,_,_,u4⟩:=scanUp_spec p d j _ i rfl
 obtain ⟨d1,_,_,d4⟩:=scanDown_spec q d (scanUp p d j i) j
 generalize scanUp p d j i=i2 at *
 generalize scanDown q d i2 j=j2 at *
 rcases Nat.lt_or_ge i2 j2 with h1 | h1
 ·exact h1
 ·have e:i2=j2:=by omega
  subst e
  have h2:=u4 (by omega)
  have h3:=d4 (by omega) (by omega)
  rw [hq,h2] at h3
  cases h3
theorem aJq{l:List Int}{a b p:Nat}(hl:lB l)(kJ:a≤p)(hpb:p < b)(hb:b≤l.length):∃ l',Cu l a b p=some (l',(((partition ltInt l.toArray a b p).1:Nat):Int),(partition ltInt l.toArray a b p).2.1)∧l'.toArray=(partition ltInt l.toArray a b p).2.2:=by
 unfold Cu partition
 have hB:=hl
 unfold lB at hB
 simp only [dD,bZ (show p < l.length by omega),bZ (show a < l.length by omega),aU,eH,pW (show p < l.length by omega)]
 rw [show ((l.set a (nth l p)).set p (nth l a))=kW l a p from rfl]
 generalize hD:kW l a p=D
 have Bv:D.length=l.length:=by rw [← hD,o9]
 rw [← pX,hD]
 have hga:D[a]? = some (nth D a):=bZ (by omega)
 have eb:i64 ((b:Int) - 1)=((b - 1:Nat):Int):=mf (by omega) (by omega)
 rw [eb,dS (i:=a) (by omega)]
 have up:∀ (m:List Int) (J i:Nat),m.length=l.length→J < b→bH (λ (s:Int) =>
   af (decide (s≤(J:Int)))
   ((idx m s).bind λ x=>(m[a]?).bind λ y=>(hZ x y).bind λ c=>af c (some (.inl (i64 (s+1)))) (some (.inr s)))
   (some (.inr s)):Int→Option (Int ⊕ Int)) (i:Int)=some ((scanUp (λ x=>ltInt x m.toArray[a]!) m.toArray J i:Nat):Int):=λ m J i hm hJ=>ajS (λ k=>by
  rw [Hc,ma,ma]
  by_cases hk:k≤J
  ·simp only [gk hk,bR,dD,bZ (show k < m.length by omega),bZ (show a < m.length by omega),aU,rJ,Bool.true_and,dS (i:=k) (by omega)]
   cases ltInt (nth m k) (nth m a) <;> rfl
  ·simp [hk]) i
 have dn:∀ (m:List Int) (i j:Nat),m.length=l.length→0 < i→j < b→bH (λ (s:Int) =>
   af (decide ((i:Int)≤s))
   ((idx m s).bind λ x=>(m[a]?).bind λ y=>(hZ x y).bind λ c=>af (!c) (some (.inl (i64 (s - 1)))) (some (.inr s)))
   (some (.inr s)):Int→Option (Int ⊕ Int)) (j:Int)=some ((scanDown (λ x=>!ltInt x m.toArray[a]!) m.toArray i j:Nat):Int):=λ m i j hm hi hj=>abH (J:=j) hi (λ k hkj=>by
  rw [Hc,ma,ma]
  by_cases hk:i≤k
  ·simp only [gk hk,bR,dD,bZ (show k < m.length by omega),bZ (show a < m.length by omega),aU,rJ,Bool.true_and,gZ (z:=(k:Int) - 1) (by omega) (by omega)]
   cases ltInt (nth m k) (nth m a) <;> rfl
  ·simp [hk]) j (dr _)
 rw [lO (up D (b - 1) (a+1) Bv (by omega))]
 have da:=abI (p:=λ x=>ltInt x D.toArray[a]!) (q:=λ x=>!ltInt x D.toArray[a]!) (λ _=>rfl) (d:=D.toArray) (i:=a+1) (j:=b - 1) (by omega)
 have hu:=abG (p:=λ x=>ltInt x D.toArray[a]!) (d:=D.toArray) (i:=a+1) (j:=b - 1) (by omega)
 generalize scanUp (λ x=>ltInt x D.toArray[a]!) D.toArray (b - 1) (a+1)=i at hu da
 rw [lO (dn D i (b - 1) Bv (by omega) (by omega))]
 have hd:=Vi (λ x=>!ltInt x D.toArray[a]!) D.toArray i (b - 1)
 have BJ:=(scanDown_spec (λ x=>!ltInt x D.toArray[a]!) D.toArray i (b - 1)).2.1 (by omega)
 generalize scanDown (λ x=>!ltInt x D.toArray[a]!) D.toArray i (b - 1)=j at hd BJ da
 rw [O2]
 have hgj:D[j]? = some (nth D j):=bZ (by omega)
 by_cases gg:i > j
 ·simp only [gg,decide_true,bR,if_true,dD,hga,hgj,aU,eH,pW (show a < D.length by omega)]
  exact ⟨kW D j a,rfl,pX _ _ _⟩
 ·have Lr:D[i]? = some (nth D i):=bZ (by omega)
  have da:=da gg
  simp only [gg,decide_false,bI,if_false,dD,hgj,Lr,aU,eH,pW (show j < D.length by omega),dS (i:=i) (by omega),mf (i:=j) (by omega) (by omega)]
  rw [show ((D.set i (nth D j)).set j (nth D i))=kW D i j from rfl,← pX]
  generalize hT:partLoop ltInt a (i+1) (j - 1) (kW D i j).toArray=T
  suffices hx:∃ z:List Int × Int × Bool,_=some z∧(z.2=(((T.1:Nat):Int),false)∧z.1.toArray=swp T.2 T.1 a) by
   obtain ⟨z,hz,h1,h2⟩:=hx
   exact ⟨z.1,by rw [← h1]; exact hz,h2⟩
  refine sV (λ s=>∃ (m:List Int) (i j:Nat),s=(m,(i:Int),(j:Int))∧m.length=l.length∧a < i∧i≤j+1∧j < b∧partLoop ltInt a i j m.toArray=T) (λ s=>s.2.2.toNat+1 - s.2.1.toNat)
   (λ o=>∃ m:List Int,o=(m,((T.1:Nat):Int))∧m.length=l.length∧m.toArray=T.2∧T.1 < l.length) ⟨_,i+1,j - 1,rfl,by rw [o9]; exact Bv,by omega,by omega,by omega,hT⟩ (λ o ho=>?_) ?_
  ·obtain ⟨m,rfl,hm,vz,bV⟩:=ho
   simp only [dD,bZ (show a < m.length by omega),bZ (show T.1 < m.length by omega),aU,eH,pW (show a < m.length by omega)]
   exact ⟨(kW m T.1 a,_),rfl,rfl,by rw [pX,vz]⟩
  ·rintro _ ⟨m,i,j,rfl,hm,hi,Ls,hj,hT⟩
   rw [partLoop_eq] at hT
   dsimp only
   rw [lO (up m j i hm hj)]
   have da:=abI (p:=λ x=>ltInt x m.toArray[a]!) (q:=λ x=>!ltInt x m.toArray[a]!) (λ _=>rfl) (d:=m.toArray) (i:=i) (j:=j) (by omega)
   have hu:=abG (p:=λ x=>ltInt x m.toArray[a]!) (d:=m.toArray) (i:=i) (j:=j) Ls
   generalize scanUp (λ x=>ltInt x m.toArray[a]!) m.toArray j i=i2 at hu hT da
   rw [lO (dn m i2 j hm (by omega) hj)]
   have hd:=Vi (λ x=>!ltInt x m.toArray[a]!) m.toArray i2 j
   have BJ:=(scanDown_spec (λ x=>!ltInt x m.toArray[a]!) m.toArray i2 j).2.1 (by omega)
   generalize scanDown (λ x=>!ltInt x m.toArray[a]!) m.toArray i2 j=j2 at hd BJ hT da
   rw [O2]
   by_cases gg:i2 > j2
   ·rw [if_pos gg] at hT
    right
    rw [gk gg]
    subst hT
    exact ⟨(m,(j2:Int)),rfl,m,rfl,hm,rfl,by show j2 < _; omega⟩
   ·rw [if_neg gg,← pX] at hT
    have da:=da gg
    left
    rw [jA gg,bI]
    refine ⟨(kW m i2 j2,((i2+1:Nat):Int),((j2 - 1:Nat):Int)),?_,⟨_,i2+1,j2 - 1,rfl,by rw [o9]; exact hm,by omega,by omega,by omega,hT⟩,by simp only [eH]; omega⟩
    simp only [dD,bZ (show i2 < m.length by omega),bZ (show j2 < m.length by omega),aU,eH,pW (show j2 < m.length by omega),dS (i:=i2) (by omega),mf (i:=j2) (by omega) (by omega)]
    rfl
theorem aJo{l:List Int}{a b p:Nat}(hl:lB l)(kJ:a≤p)(hpb:p < b)(hb:b≤l.length):∃ l',Ct l a b p=some (l',(((partitionEqual ltInt l.toArray a b p).1:Nat):Int))∧l'.toArray=(partitionEqual ltInt l.toArray a b p).2:=by
 unfold Ct partitionEqual
 have hB:=hl
 unfold lB at hB
 simp only [dD,bZ (show p < l.length by omega),bZ (show a < l.length by omega),aU,eH,pW (show p < l.length by omega)]
 rw [show ((l.set a (nth l p)).set p (nth l a))=kW l a p from rfl]
 generalize hD:kW l a p=D
 have Bv:D.length=l.length:=by rw [← hD,o9]
 rw [← pX,hD]
 have eb:i64 ((b:Int) - 1)=((b - 1:Nat):Int):=mf (by omega) (by omega)
 rw [eb,dS (i:=a) (by omega)]
 have up:∀ (m:List Int) (J i:Nat),m.length=l.length→J < b→bH (λ (s:Int) =>
   af (decide (s≤(J:Int)))
   ((m[a]?).bind λ y=>(idx m s).bind λ x=>(hZ y x).bind λ c=>af (!c) (some (.inl (i64 (s+1)))) (some (.inr s)))
   (some (.inr s)):Int→Option (Int ⊕ Int)) (i:Int)=some ((scanUp (λ x=>!ltInt m.toArray[a]! x) m.toArray J i:Nat):Int):=λ m J i hm hJ=>ajS (λ k=>by
  rw [Hc,ma,ma]
  by_cases hk:k≤J
  ·simp only [gk hk,bR,dD,bZ (show k < m.length by omega),bZ (show a < m.length by omega),aU,rJ,Bool.true_and,dS (i:=k) (by omega)]
   cases ltInt (nth m a) (nth m k) <;> rfl
  ·simp [hk]) i
 have dn:∀ (m:List Int) (i j:Nat),m.length=l.length→0 < i→j < b→bH (λ (s:Int) =>
   af (decide ((i:Int)≤s))
   ((m[a]?).bind λ y=>(idx m s).bind λ x=>(hZ y x).bind λ c=>af c (some (.inl (i64 (s - 1)))) (some (.inr s)))
   (some (.inr s)):Int→Option (Int ⊕ Int)) (j:Int)=some ((scanDown (λ x=>ltInt m.toArray[a]! x) m.toArray i j:Nat):Int):=λ m i j hm hi hj=>abH (J:=j) hi (λ k hkj=>by
  rw [Hc,ma,ma]
  by_cases hk:i≤k
  ·simp only [gk hk,bR,dD,bZ (show k < m.length by omega),bZ (show a < m.length by omega),aU,rJ,Bool.true_and,gZ (z:=(k:Int) - 1) (by omega) (by omega)]
   cases ltInt (nth m a) (nth m k) <;> rfl
  ·simp [hk]) j (dr _)
 generalize hT:partEqLoop ltInt a (a+1) (b - 1) D.toArray=T
 suffices hx:∃ z:List Int × Int,_=some z∧(z.2=((T.1:Nat):Int)∧z.1.toArray=T.2) by
  obtain ⟨z,hz,h1,h2⟩:=hx
  exact ⟨z.1,by rw [← h1]; exact hz,h2⟩
 refine sV (λ s=>∃ (m:List Int) (i j:Nat),s=(m,(i:Int),(j:Int))∧m.length=l.length∧a < i∧i≤j+1∧j < b∧partEqLoop ltInt a i j m.toArray=T) (λ s=>s.2.2.toNat+1 - s.2.1.toNat)
  (λ o=>∃ m:List Int,o=(m,((T.1:Nat):Int))∧m.toArray=T.2) ⟨_,a+1,b - 1,rfl,Bv,by omega,by omega,by omega,hT⟩ (λ o ho=>?_) ?_
 ·obtain ⟨m,rfl,vz⟩:=ho
  exact ⟨_,rfl,rfl,vz⟩
 ·rintro _ ⟨m,i,j,rfl,hm,hi,Ls,hj,hT⟩
  rw [partEqLoop_eq] at hT
  dsimp only
  rw [lO (up m j i hm hj)]
  have da:=abI (p:=λ x=>!ltInt m.toArray[a]! x) (q:=λ x=>ltInt m.toArray[a]! x) (λ _=>by simp) (d:=m.toArray) (i:=i) (j:=j) (by omega)
  have hu:=abG (p:=λ x=>!ltInt m.toArray[a]! x) (d:=m.toArray) (i:=i) (j:=j) Ls
  generalize scanUp (λ x=>!ltInt m.toArray[a]! x) m.toArray j i=i2 at hu hT da
  rw [lO (dn m i2 j hm (by omega) hj)]
  have hd:=Vi (λ x=>ltInt m.toArray[a]! x) m.toArray i2 j
  have BJ:=(scanDown_spec (λ x=>ltInt m.toArray[a]! x) m.toArray i2 j).2.1 (by omega)
  generalize scanDown (λ x=>ltInt m.toArray[a]! x) m.toArray i2 j=j2 at hd BJ hT da
  rw [O2]
  by_cases gg:i2 > j2
  ·rw [if_pos gg] at hT
   right
   rw [gk gg]
   subst hT
   exact ⟨(m,(i2:Int)),rfl,m,rfl,rfl⟩
  ·rw [if_neg gg,← pX] at hT
   have da:=da gg
   left
   rw [jA gg,bI]
   refine ⟨(kW m i2 j2,((i2+1:Nat):Int),((j2 - 1:Nat):Int)),?_,⟨_,i2+1,j2 - 1,rfl,by rw [o9]; exact hm,by omega,by omega,by omega,hT⟩,by simp only [eH]; omega⟩
   simp only [dD,bZ (show i2 < m.length by omega),bZ (show j2 < m.length by omega),aU,eH,pW (show j2 < m.length by omega),dS (i:=i2) (by omega),mf (i:=j2) (by omega) (by omega)]
   rfl
theorem aJm{l:List Int}{a b:Nat}(hl:lB l)(bJ:a < b)(hb:b≤l.length):∃ l',yd l a b=some (l',(partialInsertionSort ltInt l.toArray a b).2)∧l'.toArray=(partialInsertionSort ltInt l.toArray a b).1:=by
 unfold yd partialInsertionSort
 have hB:=hl
 unfold lB at hB
 generalize hT:partialIns ltInt a b 5 (a+1) l.toArray=T
 suffices hx:∃ z:List Int × Bool,_=some z∧(z.2=T.2∧z.1.toArray=T.1) by
  obtain ⟨z,hz,h1,h2⟩:=hx
  exact ⟨z.1,by rw [← h1]; exact hz,h2⟩
 rw [dS (i:=a) (by omega)]
 refine sV (λ s=>∃ (m:List Int) (i k:Nat),s=(m,(i:Int),((5 - k:Nat):Int))∧k≤5∧m.length=l.length∧a < i∧i≤b∧partialIns ltInt a b k i m.toArray=T) (λ s=>5 - s.2.2.toNat)
  (λ o=>∃ m:List Int,(o = .inl m∧T.2=false∨o = .inr (m,T.2))∧m.toArray=T.1) ⟨l,a+1,5,rfl,dr _,rfl,by omega,by omega,hT⟩ (λ o ho=>?_) ?_
 ·obtain ⟨m,ho,vz⟩:=ho
  rcases ho with ⟨rfl,h2⟩ | rfl
  ·exact ⟨(m,false),rfl,h2.symm,vz⟩
  ·exact ⟨(m,T.2),rfl,rfl,vz⟩
 ·rintro _ ⟨m,i,k,rfl,hk5,hm,Hr,BK,hT⟩
  dsimp only
  cases k with
  | zero =>
   rw [partialIns] at hT
   subst hT
   right
   exact ⟨.inl m,rfl,m,.inl ⟨rfl,rfl⟩,rfl⟩
  | succ k =>
   rw [partialIns] at hT
   rw [show decide (((5 - (k+1):Nat):Int) < 5)=true by simp; omega,bR]
   have hsc:∀ i:Nat,a < i→i≤b→bH (λ (lR:Int) =>
     af (decide (lR < (b:Int)))
     ((idx m lR).bind λ GH =>
     (idx m (i64 (lR - 1))).bind λ GI =>
     (hZ GH GI).bind λ JC =>
     af (!JC)
     (some (.inl (i64 (lR+1))))
     (some (.inr lR)))
     (some (.inr lR)):Int→Option (Int ⊕ Int)) (i:Int)=some ((scanSorted ltInt m.toArray b i:Nat):Int)∧i≤scanSorted ltInt m.toArray b i∧scanSorted ltInt m.toArray b i≤b:=by
    have key:∀ n i:Nat,b - i≤n→a < i→i≤b→bH (λ (lR:Int) =>
      af (decide (lR < (b:Int)))
      ((idx m lR).bind λ GH =>
      (idx m (i64 (lR - 1))).bind λ GI =>
      (hZ GH GI).bind λ JC =>
      af (!JC)
      (some (.inl (i64 (lR+1))))
      (some (.inr lR)))
      (some (.inr lR)):Int→Option (Int ⊕ Int)) (i:Int)=some ((scanSorted ltInt m.toArray b i:Nat):Int)∧i≤scanSorted ltInt m.toArray b i∧scanSorted ltInt m.toArray b i≤b:=by
     intro n
     induction n with
     | zero =>
      intro i hn hi BK
      have:¬ i < b:=by omega
      rw [scanSorted,if_neg (by simp [this])]
      exact ⟨om (by rw [rn,jA this,bI]),dr _,BK⟩
     | succ n ih =>
      intro i hn hi BK
      rw [scanSorted,ma,ma]
      by_cases h1:i < b
      ·have g1:m[i]? = some (nth m i):=bZ (by omega)
       have g2:m[i - 1]? = some (nth m (i - 1)):=bZ (by omega)
       cases hx:ltInt (nth m i) (nth m (i - 1)) with
       | true =>
        rw [if_neg (by simp)]
        refine ⟨om ?_,dr _,BK⟩
        simp only [rn,gk h1,bR,mf (i:=i) (by omega) (by omega),dD,g1,g2,aU,rJ,hx,Bool.not_true,bI]
       | false =>
        rw [if_pos (by simp [h1])]
        obtain ⟨q1,q2,q3⟩:=ih (i+1) (by omega) (by omega) (by omega)
        refine ⟨?_,by omega,q3⟩
        rw [zE (s':=((i+1:Nat):Int)) (by simp only [rn,gk h1,bR,mf (i:=i) (by omega) (by omega),dD,g1,g2,aU,rJ,hx,Bool.not_false,dS (i:=i) (by omega)])]
        exact q1
      ·rw [if_neg (by simp [h1])]
       exact ⟨om (by rw [rn,jA h1,bI]),dr _,BK⟩
    exact λ i hi BK=>key _ i (dr _) hi BK
   obtain ⟨q1,q2,q3⟩:=hsc i Hr BK
   rw [lO q1]
   generalize scanSorted ltInt m.toArray b i=i2 at q2 q3 hT
   dsimp only at hT ⊢
   rw [show (((i2:Nat):Int) == ((b:Nat):Int))=decide (i2=b) by rw [Bool.eq_iff_iff,beq_iff_eq,decide_eq_true_eq]; omega]
   by_cases h1:i2=b
   ·rw [if_pos h1] at hT
    subst hT
    right
    exact ⟨.inr (m,true),by rw [gk h1]; rfl,m,.inr rfl,rfl⟩
   ·rw [if_neg h1] at hT
    rw [jA h1,bI,sP (i:=b) (j:=a) (by omega) (by omega),show decide (((b - a:Nat):Int) < 50)=decide (b - a < 50) from rn (j:=50)]
    by_cases h2:b - a < 50
    ·rw [if_pos h2] at hT
     subst hT
     right
     exact ⟨.inr (m,false),by rw [gk h2]; rfl,m,.inr rfl,rfl⟩
    ·rw [if_neg h2] at hT
     rw [jA h2,bI]
     left
     have g1:m[i2]? = some (nth m i2):=bZ (by omega)
     have g2:m[i2 - 1]? = some (nth m (i2 - 1)):=bZ (by omega)
     simp only [mf (i:=i2) (by omega) (by omega),dD,g1,g2,aU,eH,pW (show i2 - 1 < m.length by omega)]
     rw [show ((m.set i2 (nth m (i2 - 1))).set (i2 - 1) (nth m i2))=kW m i2 (i2 - 1) from rfl]
     rw [← pX] at hT
     generalize hS:kW m i2 (i2 - 1)=S at hT
     have hSl:S.length=l.length:=by rw [← hS,o9]; exact hm
     have Ll:∃ D:List Int,((((af (decide (i64 ((i2:Int) - (a:Int)) ≥ 2))
       ((bH (O:=(List Int)) (λ (fi:((List Int) × Int)) =>
       af (decide (fi.2 ≥ 1))
       ((idx fi.1 fi.2).bind λ Nx =>
       (idx fi.1 (i64 (fi.2 - 1))).bind λ Ny =>
       (hZ Nx Ny).bind λ Ti =>
       af (!Ti)
       (some (.inr fi.1))
       ((idx fi.1 (i64 (fi.2 - 1))).bind λ Gi =>
       (idx fi.1 fi.2).bind λ Nz =>
       (idx fi.1 fi.2).bind λ acp =>
       (idx (fi.1.set fi.2.toNat Gi) (i64 (fi.2 - 1))).bind λ acr =>
       some (.inl ((fi.1.set fi.2.toNat Gi).set (i64 (fi.2 - 1)).toNat Nz,i64 (fi.2 - 1)))))
       (some (.inr fi.1))) (S,((i2 - 1:Nat):Int))).bind (λ (IQ:(List Int)) =>
       some IQ))
       (some S)):Option (List Int)))=some D)∧D.length=l.length∧D.toArray=if i2 - a ≥ 2 then shiftDown ltInt (i2 - 1) S.toArray else S.toArray:=by
      rw [sP (i:=i2) (j:=a) (by omega) (by omega),show decide (((i2 - a:Nat):Int) ≥ 2)=decide (i2 - a ≥ 2) from Ku (j:=2)]
      by_cases h3:i2 - a ≥ 2
      ·rw [gk h3,bR,if_pos h3]
       refine sV (λ s=>∃ (q:List Int) (j:Nat),s=(q,(j:Int))∧q.length=l.length∧j < l.length∧shiftDown ltInt j q.toArray=shiftDown ltInt (i2 - 1) S.toArray) (λ s=>s.2.toNat)
        (λ o=>o.length=l.length∧o.toArray=shiftDown ltInt (i2 - 1) S.toArray) ⟨S,i2 - 1,rfl,hSl,by omega,rfl⟩ (λ o ho=>⟨o,rfl,ho⟩) ?_
       rintro _ ⟨q,j,rfl,hq,hj,jK⟩
       dsimp only
       cases j with
       | zero=>right; exact ⟨q,rfl,hq,jK⟩
       | succ j =>
        rw [shiftDown,ma,ma] at jK
        rw [show decide (((j+1:Nat):Int) ≥ 1)=true by simp; omega,bR,ahn (by omega)]
        simp only [dD,bZ (show j+1 < q.length by omega),bZ (show j < q.length by omega),aU,rJ,eH,pW (show j < q.length by omega)]
        cases hx:ltInt (nth q (j+1)) (nth q j) with
        | false=>rw [hx] at jK; right; exact ⟨q,rfl,hq,by simpa using jK⟩
        | true =>
         rw [hx] at jK
         simp only [Bool.not_true,l6,if_false] at jK
         left
         exact ⟨(kW q (j+1) j,(j:Int)),rfl,⟨_,j,rfl,by rw [o9]; exact hq,by omega,by rw [pX]; exact jK⟩,by simp only [eH]; omega⟩
      ·rw [jA h3,bI,if_neg h3]
       exact ⟨S,rfl,hSl,rfl⟩
     obtain ⟨D,hD1,Bv,hDa⟩:=Ll
     rw [hD1,aU]
     rw [← hDa] at hT
     have BJ:∃ U:List Int,U.length=l.length∧U.toArray=(if b - i2 ≥ 2 then shiftUp ltInt b (i2+1) D.toArray else D.toArray)∧(b - i2 ≥ 2→bH (O:=(List Int)) (λ (dm:((List Int) × Int)) =>
       af (decide (dm.2 < (b:Int)))
       ((idx dm.1 dm.2).bind λ Gj =>
       (idx dm.1 (i64 (dm.2 - 1))).bind λ Gk =>
       (hZ Gj Gk).bind λ Je =>
       af (!Je)
       (some (.inr dm.1))
       ((idx dm.1 (i64 (dm.2 - 1))).bind λ yx =>
       (idx dm.1 dm.2).bind λ Gl =>
       (idx dm.1 dm.2).bind λ Tj =>
       (idx (dm.1.set dm.2.toNat yx) (i64 (dm.2 - 1))).bind λ Tk =>
       some (.inl ((dm.1.set dm.2.toNat yx).set (i64 (dm.2 - 1)).toNat Gl,i64 (dm.2+1)))))
       (some (.inr dm.1))) (D,((i2+1:Nat):Int))=some U):=by
      by_cases h3:b - i2 ≥ 2
      ·rw [if_pos h3]
       obtain ⟨U,hU,Wv,K0⟩:=aaB (S:=List Int × Int) (O:=List Int) (body:=λ (dm:((List Int) × Int)) =>
        af (decide (dm.2 < (b:Int)))
        ((idx dm.1 dm.2).bind λ Gj =>
        (idx dm.1 (i64 (dm.2 - 1))).bind λ Gk =>
        (hZ Gj Gk).bind λ Je =>
        af (!Je)
        (some (.inr dm.1))
        ((idx dm.1 (i64 (dm.2 - 1))).bind λ yx =>
        (idx dm.1 dm.2).bind λ Gl =>
        (idx dm.1 dm.2).bind λ Tj =>
        (idx (dm.1.set dm.2.toNat yx) (i64 (dm.2 - 1))).bind λ Tk =>
        some (.inl ((dm.1.set dm.2.toNat yx).set (i64 (dm.2 - 1)).toNat Gl,i64 (dm.2+1)))))
        (some (.inr dm.1))) (λ s=>∃ (q:List Int) (j:Nat),s=(q,(j:Int))∧q.length=l.length∧0 < j∧shiftUp ltInt b j q.toArray=shiftUp ltInt b (i2+1) D.toArray) (λ s=>b - s.2.toNat)
        (Q:=λ o=>o.length=l.length∧o.toArray=shiftUp ltInt b (i2+1) D.toArray) (by
         rintro _ ⟨q,j,rfl,hq,hj,jK⟩
         rw [shiftUp] at jK
         dsimp only
         rw [rn]
         by_cases h4:j < b
         ·rw [if_pos h4,ma,ma] at jK
          rw [gk h4,bR,mf (i:=j) (by omega) hj]
          simp only [dD,bZ (show j < q.length by omega),bZ (show j - 1 < q.length by omega),aU,rJ,eH,pW (show j - 1 < q.length by omega),dS (i:=j) (by omega)]
          cases hx:ltInt (nth q j) (nth q (j - 1)) with
          | false=>rw [hx] at jK; right; exact ⟨q,rfl,hq,by simpa using jK⟩
          | true =>
           rw [hx] at jK
           simp only [Bool.not_true,l6,if_false] at jK
           left
           exact ⟨(kW q j (j - 1),((j+1:Nat):Int)),rfl,⟨_,j+1,rfl,by rw [o9]; exact hq,by omega,by rw [pX]; exact jK⟩,by simp only [eH]; omega⟩
         ·rw [if_neg h4] at jK
          right
          exact ⟨q,by rw [jA h4,bI],hq,jK⟩) (D,((i2+1:Nat):Int)) ⟨D,i2+1,rfl,Bv,by omega,rfl⟩
       exact ⟨U,Wv,K0,λ _=>hU⟩
      ·rw [if_neg h3]
       exact ⟨D,Bv,rfl,λ h=>absurd h h3⟩
     obtain ⟨U,Wv,K0,hU⟩:=BJ
     rw [← K0] at hT
     refine ⟨(U,(i2:Int),((5 - k:Nat):Int)),?_,⟨U,i2,k,rfl,by omega,Wv,by omega,by omega,hT⟩,by simp only [eH]; omega⟩
     have ek:i64 (((5 - (k+1):Nat):Int)+1)=((5 - k:Nat):Int):=by rw [gZ (by omega) (by omega)]; omega
     rw [sP (i:=b) (j:=i2) (by omega) (by omega),show decide (((b - i2:Nat):Int) ≥ 2)=decide (b - i2 ≥ 2) from Ku (j:=2),dS (i:=i2) (by omega),ek]
     by_cases h3:b - i2 ≥ 2
     ·rw [gk h3,bR,lO (hU h3)]
     ·rw [jA h3,bI]
      rw [if_neg h3] at K0
      rw [show U=D from by simpa using K0]
theorem alf(z:Int):IntKind.wrap .u64 z=z.emod 18446744073709551616:=by
 simp [IntKind.wrap,IntKind.bits,IntKind.signed]
 rfl
theorem alg(z:Int):0≤IntKind.wrap .u64 z∧IntKind.wrap .u64 z < 18446744073709551616:=by
 rw [alf]
 exact ⟨Int.emod_nonneg _ (by omega),Int.emod_lt_of_pos _ (by omega)⟩
theorem alh{z:Int}(h0:0≤z)(h1:z < 18446744073709551616):IntKind.wrap .u64 z=z:=by
 rw [alf]
 exact Int.emod_eq_of_lt h0 h1
theorem ajW{a b:Int}(hb:0≤b):∃ z,wF .u64 a b=some z∧0≤z∧z < 18446744073709551616:=by
 unfold wF
 rw [if_neg (by omega)]
 exact ⟨_,rfl,alg _⟩
theorem aMQ{a b:Int}(hb:0≤b):∃ z,lT .u64 a b=some z:=by
 unfold lT
 rw [if_neg (by omega)]
 exact ⟨_,rfl⟩
theorem acX(a b:Int):∃ z,fP .xor .u64 a b=some z∧0≤z∧z < 18446744073709551616:=⟨_,rfl,alg _⟩
theorem aJv(x:Int):∃ y,Fi x=some (y,y)∧0≤y∧y < 18446744073709551616:=by
 unfold Fi
 obtain ⟨a,ha,_⟩:=ajW (a:=x) (b:=13) (by omega)
 rw [ha,aU]
 obtain ⟨c,hc,_⟩:=acX x a
 rw [hc,aU]
 obtain ⟨d,hd⟩:=aMQ (a:=c) (b:=7) (by omega)
 rw [hd,aU]
 obtain ⟨e,he,_⟩:=acX c d
 rw [he,aU]
 obtain ⟨f,hf,_⟩:=ajW (a:=e) (b:=17) (by omega)
 rw [hf,aU]
 obtain ⟨g,hg,h0,h1⟩:=acX e f
 rw [hg,aU]
 exact ⟨g,rfl,h0,h1⟩
theorem an8{a m:Int}(hm:0≤m)(P2:m < 18446744073709551616):∃ z:Nat,fP .and .u64 a m=some (z:Int)∧(z:Int)≤m:=by
 unfold fP
 simp only
 have h1:(BitVec.ofInt IntKind.u64.bits a &&& BitVec.ofInt IntKind.u64.bits m).toNat≤(BitVec.ofInt IntKind.u64.bits m).toNat:=by
  rw [BitVec.toNat_and]
  exact Nat.and_le_right
 have h2:(BitVec.ofInt IntKind.u64.bits m).toNat=m.toNat:=by
  rw [BitVec.toNat_ofInt]
  have:((2 ^ IntKind.u64.bits:Nat):Int)=18446744073709551616:=by decide
  rw [this,Int.emod_eq_of_lt hm P2]
 rw [h2] at h1
 generalize (BitVec.ofInt IntKind.u64.bits a &&& BitVec.ofInt IntKind.u64.bits m).toNat=z at h1
 exact ⟨z,by rw [alh (by omega) (by omega)],by omega⟩
def ahJ(n:Nat):Bool:=(match UO (IntKind.wrap .u64 (n:Int)) with | some k=>decide (0≤k) && decide (k≤64) | none=>false) && (decide (n < 8) || match US (n:Int) with | some M=>decide ((n:Int) < M) && decide (M≤2 * (n:Int)) | none=>false)
set_option maxRecDepth 1000000 in
theorem aHQ:((List.range 1024).all ahJ)=true:=by decide +kernel
theorem ahK{n:Nat}(h:n < 1024):(∃ k:Nat,Co (IntKind.wrap .u64 (n:Int))=some (k:Int)∧k≤64)∧(8≤n→∃ M:Nat,Fh (n:Int)=some (M:Int)∧n < M∧M≤2 * n):=by
 have:=aHQ
 rw [List.all_eq_true] at this
 have h1:=this n (List.mem_range.2 h)
 simp only [ahJ,fF,Bool.or_eq_true,decide_eq_true_eq] at h1
 obtain ⟨h1,h2⟩:=h1
 constructor
 ·cases hc:UO (IntKind.wrap .u64 (n:Int)) with
  | none=>rw [hc] at h1; cases h1
  | some k =>
   rw [hc] at h1
   simp only [fF,decide_eq_true_eq] at h1
   exact ⟨k.toNat,by rw [Int.toNat_of_nonneg h1.1]; exact aG9 _ _ hc,by omega⟩
 ·intro h8
  rcases h2 with h2 | h2
  ·omega
  ·cases hc:US (n:Int) with
   | none=>rw [hc] at h2; cases h2
   | some M =>
    rw [hc] at h2
    simp only [fF,decide_eq_true_eq] at h2
    exact ⟨M.toNat,by rw [Int.toNat_of_nonneg (by omega)]; exact aHm _ _ hc,by omega,by omega⟩
theorem abx{n d:Nat}(h:n≤1000000000)(hd:0 < d):oZ (n:Int) (d:Int)=some ((n / d:Nat):Int):=by
 unfold oZ
 have:=Nat.div_le_self n d
 rw [if_neg (by omega),← Int.ofNat_tdiv]
 generalize n / d=q at this
 rw [gZ (by omega) (by omega)]
abbrev ny(l:List Int):Prop:=l.length≤1000
theorem aJh{l:List Int}{a b:Nat}(hl:ny l)(bJ:a≤b)(hb:b≤l.length):∃ l',zP l a b=some l'∧PermIn a b l.toArray l'.toArray:=by
 unfold zP
 have hB:=hl
 unfold ny at hB
 rw [sP (i:=b) (j:=a) (by omega) (by omega),show decide (((b - a:Nat):Int) ≥ 8)=decide (b - a ≥ 8) from Ku (j:=8)]
 by_cases h8:b - a ≥ 8
 case neg=>exact ⟨l,by rw [jA h8,bI],permIn_refl _ _ _⟩
 rw [gk h8,bR]
 obtain ⟨M,hM,hM1,hM2⟩:=(ahK (n:=b - a) (by omega)).2 h8
 have VH:oZ ((b - a:Nat):Int) 4=some (((b - a) / 4:Nat):Int):=abx (d:=4) (by omega) (by omega)
 rw [hM,aU,VH,aU]
 have e1:i64 ((((b - a) / 4:Nat):Int) * 2)=(((b - a) / 4 * 2:Nat):Int):=by rw [gZ (by omega) (by omega)]; omega
 rw [e1,xV (i:=a) (j:=(b - a) / 4 * 2) (by omega) (by omega),mf (i:=a+(b - a) / 4 * 2) (by omega) (by omega)]
 refine sV (λ s=>∃ (m:List Int) (i:Nat) (r:Int),s=(m,(i:Int),r)∧a≤i∧m.length=l.length∧PermIn a b l.toArray m.toArray) (λ s=>b - s.2.1.toNat)
  (λ o=>PermIn a b l.toArray o.toArray) ⟨l,a+(b - a) / 4 * 2 - 1,_,rfl,by omega,rfl,permIn_refl _ _ _⟩ (λ o ho=>⟨o,rfl,ho⟩) ?_
 rintro _ ⟨m,i,r,rfl,Hr,hm,hP⟩
 dsimp only
 rw [aU,e1,xV (i:=a) (j:=(b - a) / 4 * 2) (by omega) (by omega),dS (i:=a+(b - a) / 4 * 2) (by omega),alh (z:=(M:Int) - 1) (by omega) (by omega),Hc]
 by_cases hi:i≤a+(b - a) / 4 * 2+1
 ·left
  rw [gk hi,bR]
  obtain ⟨y,hy,_⟩:=aJv r
  rw [hy,aU]
  obtain ⟨z,hz,hzM⟩:=an8 (a:=y) (m:=(M:Int) - 1) (by omega) (by omega)
  rw [hz,aU,gZ (z:=(z:Int)) (by omega) (by omega),Ku]
  have aye:∃ t:Nat,t < b - a∧(((af (decide (z ≥ b - a)) (some (i64 ((z:Int) - ((b - a:Nat):Int)))) (some (z:Int))):Option Int))=some (t:Int):=by
   by_cases hzn:z ≥ b - a
   ·exact ⟨z - (b - a),by omega,by rw [gk hzn,bR,sP (by omega) hzn]⟩
   ·exact ⟨z,by omega,by rw [jA hzn,bI]⟩
  obtain ⟨t,ht,hte⟩:=aye
  rw [hte,aU,xV (i:=a) (j:=t) (by omega) (by omega)]
  refine ⟨(kW m i (a+t),((i+1:Nat):Int),y),?_,⟨_,i+1,y,rfl,by omega,by rw [o9]; exact hm,?_⟩,by simp only [eH]; omega⟩
  ·simp only [dD,bZ (show i < m.length by omega),bZ (show a+t < m.length by omega),aU,eH,pW (show a+t < m.length by omega),dS (i:=i) (by omega)]
   rfl
  ·rw [pX]
   exact permIn_trans _ _ _ a b hP (swp_permIn _ a b i (a+t) Hr (by omega) (by omega) (by omega) (by simp; omega))
 ·right
  exact ⟨m,by rw [jA hi,bI],hP⟩
theorem Rt{l:List Int}{i j:Nat}(hi:i < l.length)(hj:j < l.length)(s:Int):∃ s',uq l i j s=some (s',(i:Int),(j:Int))∨uq l i j s=some (s',(j:Int),(i:Int)):=by
 unfold uq
 simp only [dD,bZ hi,bZ hj,aU,rJ]
 cases ltInt (nth l j) (nth l i) with
 | true=>exact ⟨_,.inr rfl⟩
 | false=>exact ⟨_,.inl rfl⟩
theorem aaV{l:List Int}{i j k:Nat}(hi:i < l.length)(hj:j < l.length)(hk:k < l.length)(s:Int):∃ (s':Int) (p:Nat),vU l i j k s=some (s',(p:Int))∧(p=i∨p=j∨p=k):=by
 unfold vU
 have key:∀ (x y:Nat) (s:Int),x < l.length→y < l.length→(x=i∨x=j)→(y=i∨y=j)→∃ (s':Int) (p:Nat),((uq l (y:Int) (k:Int) s).bind λ kr=>(uq l (x:Int) kr.2.1 kr.1).bind λ jx=>some (jx.1,jx.2.2))=some (s',(p:Int))∧(p=i∨p=j∨p=k):=by
  intro x y s hx hy iz hy1
  obtain ⟨t,ht | ht⟩:=Rt hy hk s
  ·rw [ht,aU]
   obtain ⟨u,hu | hu⟩:=Rt hx hy t
   ·exact ⟨u,y,by rw [hu]; rfl,by omega⟩
   ·exact ⟨u,x,by rw [hu]; rfl,by omega⟩
  ·rw [ht,aU]
   obtain ⟨u,hu | hu⟩:=Rt hx hk t
   ·exact ⟨u,k,by rw [hu]; rfl,by omega⟩
   ·exact ⟨u,x,by rw [hu]; rfl,by omega⟩
 obtain ⟨t,ht | ht⟩:=Rt hi hj s
 ·rw [ht,aU]
  exact key i j t hi hj (.inl rfl) (.inr rfl)
 ·rw [ht,aU]
  exact key j i t hj hi (.inr rfl) (.inl rfl)
theorem aaS{l:List Int}{i:Nat}(vy:0 < i)(hi:i+1 < l.length)(hl:ny l)(s:Int):∃ (s':Int) (p:Nat),uo l i s=some (s',(p:Int))∧i - 1≤p∧p≤i+1:=by
 unfold uo
 unfold ny at hl
 rw [mf (i:=i) (by omega) vy,dS (i:=i) (by omega)]
 obtain ⟨t,p,hp,xB⟩:=aaV (l:=l) (i:=i - 1) (j:=i) (k:=i+1) (by omega) (by omega) hi s
 exact ⟨t,p,by rw [hp]; rfl,by omega,by omega⟩
theorem aJj{l:List Int}{a b:Nat}(hl:ny l)(bJ:a+12 < b)(hb:b≤l.length):∃ (p:Nat) (h:Int),Cr l a b=some ((p:Int),h)∧a≤p∧p < b:=by
 unfold Cr
 have hB:=hl
 unfold ny at hB
 have VH:oZ ((b - a:Nat):Int) 4=some (((b - a) / 4:Nat):Int):=abx (d:=4) (by omega) (by omega)
 rw [sP (i:=b) (j:=a) (by omega) (by omega),VH]
 simp only [aU]
 have e1:i64 ((((b - a) / 4:Nat):Int) * 1)=(((b - a) / 4:Nat):Int):=by rw [gZ (by omega) (by omega)]; omega
 have e2:i64 ((((b - a) / 4:Nat):Int) * 2)=(((b - a) / 4 * 2:Nat):Int):=by rw [gZ (by omega) (by omega)]; omega
 have e3:i64 ((((b - a) / 4:Nat):Int) * 3)=(((b - a) / 4 * 3:Nat):Int):=by rw [gZ (by omega) (by omega)]; omega
 rw [e1,e2,e3,xV (i:=a) (by omega) (by omega),xV (i:=a) (by omega) (by omega),xV (i:=a) (by omega) (by omega),show decide (((b - a:Nat):Int) ≥ 8)=true by simp; omega,bR]
 have hq:∃ (p:Nat) (h:Int),(((af (decide (((b - a:Nat):Int) ≥ 50))
   ((uo l ((a+(b - a) / 4:Nat):Int) 0).bind λ iF =>
   (uo l ((a+(b - a) / 4 * 2:Nat):Int) iF.1).bind λ gL =>
   (uo l ((a+(b - a) / 4 * 3:Nat):Int) gL.1).bind λ uS =>
   (vU l iF.2 gL.2 uS.2 uS.1).bind λ Jx =>
   some (Jx.2,Jx.1))
   ((vU l ((a+(b - a) / 4:Nat):Int) ((a+(b - a) / 4 * 2:Nat):Int) ((a+(b - a) / 4 * 3:Nat):Int) 0).bind λ Jy =>
   some (Jy.2,Jy.1))):Option (Int × Int)))=some ((p:Int),h)∧a≤p∧p < b:=by
  by_cases h50:b - a ≥ 50
  ·rw [show decide (((b - a:Nat):Int) ≥ 50)=true by simp; omega,bR]
   obtain ⟨s1,p1,q1,r1,r1'⟩:=aaS (l:=l) (i:=a+(b - a) / 4) (by omega) (by omega) hl 0
   rw [q1,aU]
   obtain ⟨s2,p2,q2,r2,r2'⟩:=aaS (l:=l) (i:=a+(b - a) / 4 * 2) (by omega) (by omega) hl s1
   rw [q2,aU]
   obtain ⟨s3,p3,q3,r3,r3'⟩:=aaS (l:=l) (i:=a+(b - a) / 4 * 3) (by omega) (by omega) hl s2
   rw [q3,aU]
   obtain ⟨s4,p4,q4,r4⟩:=aaV (l:=l) (i:=p1) (j:=p2) (k:=p3) (by omega) (by omega) (by omega) s3
   exact ⟨p4,s4,by rw [q4]; rfl,by omega,by omega⟩
  ·rw [show decide (((b - a:Nat):Int) ≥ 50)=false by simp; omega,bI]
   obtain ⟨s4,p4,q4,r4⟩:=aaV (l:=l) (i:=a+(b - a) / 4) (j:=a+(b - a) / 4 * 2) (k:=a+(b - a) / 4 * 3) (by omega) (by omega) (by omega) 0
   exact ⟨p4,s4,by rw [q4]; rfl,by omega,by omega⟩
 obtain ⟨p,h,hp,xB,zk⟩:=hq
 rw [hp,aU]
 cases h == 0 with
 | true=>exact ⟨p,1,rfl,xB,zk⟩
 | false =>
  cases h == 12 with
  | true=>exact ⟨p,2,rfl,xB,zk⟩
  | false=>exact ⟨p,0,rfl,xB,zk⟩
abbrev SI(a b:Nat)(d:Array Int):Prop:=SortedIn ltInt a b d
theorem aLG:∀ (k:Nat) (l:List Int) (a b Mt:Nat),ny l→Mt≤100→a≤b→b≤l.length→b - a≤12 * 2 ^ k→Below ltInt a b l.toArray→∃ l',vT (k+1) l a b Mt=some l'∧PermIn a b l.toArray l'.toArray∧SI a b l'.toArray:=by
 intro k
 induction k with
 | zero =>
  intro l a b Mt hl agL bJ hb hk hB
  have hl':=hl
  unfold ny at hl'
  obtain ⟨t,ht,oO⟩:=aim (l:=l) (a:=a) (b:=b) (by unfold lB; omega) bJ hb
  obtain ⟨h1,h2⟩:=insertionSort_holds swo_ltInt l.toArray a b bJ (by simpa using hb)
  rw [← oO] at h1 h2
  refine ⟨t,?_,h1,h2⟩
  rw [vT]
  rw [lO (o:=t) (om ?_)]
  dsimp only
  rw [sP (i:=b) (j:=a) (by omega) (by omega),show decide (((b - a:Nat):Int)≤12)=true by simp; omega,bR,ht]
  rfl
 | succ k ih =>
  intro l a b Mt hl agL bJ hb hk hB
  have hl':=hl
  unfold ny at hl'
  rw [vT]
  refine sV (λ s=>∃ (m:List Int) (x y lm:Nat) (wb wp:Bool),s=(m,(x:Int),(y:Int),(lm:Int),wb,wp)∧m.length=l.length∧x≤y∧y≤l.length∧lm≤100∧y - x≤12 * 2 ^ (k+1)∧Below ltInt x y m.toArray∧∀ R,PermIn x y m.toArray R→SI x y R→PermIn a b l.toArray R∧SI a b R) (λ s=>s.2.2.1.toNat - s.2.1.toNat)
   (λ o=>PermIn a b l.toArray o.toArray∧SI a b o.toArray) ⟨l,a,b,Mt,true,true,rfl,rfl,bJ,hb,agL,hk,hB,λ R h1 h2=>⟨h1,h2⟩⟩ (λ o ho=>⟨o,rfl,ho⟩) ?_
  rintro _ ⟨m,x,y,lm,wb,wp,rfl,hm,zA,hy,aX0,hk,hB,hR⟩
  dsimp only
  have BO:m.toArray.size=l.length:=by simpa using hm
  rw [sP (i:=y) (j:=x) (by omega) (by omega),show decide (((y - x:Nat):Int)≤12)=decide (y - x≤12) from Hc (j:=12)]
  by_cases Bu:y - x≤12
  ·right
   obtain ⟨t,ht,oO⟩:=aim (l:=m) (a:=x) (b:=y) (by unfold lB; omega) zA (by omega)
   obtain ⟨h1,h2⟩:=insertionSort_holds swo_ltInt m.toArray x y zA (by omega)
   rw [← oO] at h1 h2
   exact ⟨t,by rw [gk Bu,bR,ht]; rfl,hR _ h1 h2⟩
  rw [jA Bu,bI,show (((lm:Nat):Int) == 0)=decide (lm=0) by rw [Bool.eq_iff_iff,beq_iff_eq,decide_eq_true_eq]; omega]
  by_cases P1:lm=0
  ·right
   obtain ⟨t,ht,oO⟩:=aJe (l:=m) (a:=x) (b:=y) (by unfold lB; omega) (by omega) (by omega)
   obtain ⟨h1,h2⟩:=heapSort_holds swo_ltInt m.toArray x y zA (by omega)
   rw [← oO] at h1 h2
   exact ⟨t,by rw [gk P1,bR,ht]; rfl,hR _ h1 h2⟩
  rw [jA P1,bI]
  have qB:∃ (m1:List Int) (Ca:Nat),(((af (!wb)
    ((zP m (x:Int) (y:Int)).bind λ Js =>
    some (Js,i64 ((lm:Int) - 1)))
    (some (m,(lm:Int)))):Option ((List Int) × Int)))=some (m1,(Ca:Int))∧Ca≤lm∧PermIn x y m.toArray m1.toArray:=by
   cases wb with
   | true=>exact ⟨m,lm,rfl,dr _,permIn_refl _ _ _⟩
   | false =>
    obtain ⟨t,ht,htp⟩:=aJh (l:=m) (a:=x) (b:=y) (by unfold ny; omega) zA (by omega)
    refine ⟨t,lm - 1,?_,by omega,htp⟩
    rw [Bool.not_false,bR,ht,aU,mf (i:=lm) (by omega) (by omega)]
  obtain ⟨m1,Ca,e1,aXZ,We⟩:=qB
  rw [e1,aU]
  have agO:m1.toArray.size=l.length:=by rw [We.1,BO]
  have P2:m1.length=l.length:=by simpa using agO
  have hB1:=hB.perm (by omega) We
  obtain ⟨p,h,e2,xB,zk⟩:=aJj (l:=m1) (a:=x) (b:=y) (by unfold ny; omega) (by omega) (by omega)
  dsimp only
  rw [e2,aU]
  have HF:∃ (m2:List Int) (p2:Nat) (h2:Int),(((af (h == 2)
    ((zQ m1 (x:Int) (y:Int)).bind λ AO =>
    some (AO,i64 ((i64 ((y:Int) - 1)) - (i64 ((p:Int) - (x:Int)))),1))
    (some (m1,(p:Int),h))):Option ((List Int) × Int × Int)))=some (m2,(p2:Int),h2)∧x≤p2∧p2 < y∧PermIn x y m1.toArray m2.toArray:=by
   cases h == 2 with
   | false=>exact ⟨m1,p,h,rfl,xB,zk,permIn_refl _ _ _⟩
   | true =>
    obtain ⟨t,ht,oO⟩:=aJk (l:=m1) (a:=x) (b:=y) (by unfold lB; omega) (by omega) (by omega)
    have hr:=reverseRange_holds m1.toArray x y zA (by omega)
    rw [← oO] at hr
    refine ⟨t,(y - 1) - (p - x),1,?_,by omega,by omega,hr⟩
    rw [bR,ht,aU,mf (i:=y) (by omega) (by omega),sP (i:=p) (j:=x) (by omega) xB,sP (i:=y - 1) (j:=p - x) (by omega) (by omega)]
  obtain ⟨m2,p2,h2,e3,HD,Qf,Hn⟩:=HF
  rw [e3,aU]
  have agP:m2.toArray.size=l.length:=by rw [Hn.1,agO]
  have Hx:m2.length=l.length:=by simpa using agP
  have hB2:=hB1.perm (by omega) Hn
  have atg:=permIn_trans _ _ _ x y We Hn
  dsimp only
  have hs3:∃ c:Bool,((((af wb (af wp (some (h2 == 1)) (some false)) (some false)):Option Bool))=some c):=by
   cases wb with
   | false=>exact ⟨false,rfl⟩
   | true =>
    cases wp with
    | false=>exact ⟨false,rfl⟩
    | true=>exact ⟨_,rfl⟩
  obtain ⟨c,ec⟩:=hs3
  rw [ec,aU]
  have X0:∃ m3:List Int,PermIn x y m2.toArray m3.toArray∧((((af c
    ((yd m2 (x:Int) (y:Int)).bind λ p5 =>
    af p5.2
    (some (.inr p5.1))
    (some (.inl p5.1)))
    (some (.inl m2))):Option ((List Int) ⊕ (List Int))))=some (.inr m3)∧SI x y m3.toArray∨(((af c
    ((yd m2 (x:Int) (y:Int)).bind λ p5 =>
    af p5.2
    (some (.inr p5.1))
    (some (.inl p5.1)))
    (some (.inl m2))):Option ((List Int) ⊕ (List Int))))=some (.inl m3)):=by
   cases c with
   | false=>exact ⟨m2,permIn_refl _ _ _,.inr rfl⟩
   | true =>
    obtain ⟨t,ht,oO⟩:=aJm (l:=m2) (a:=x) (b:=y) (by unfold lB; omega) (by omega) (by omega)
    have qA:=partialInsertionSort_holds swo_ltInt m2.toArray x y (by omega) (by omega) hB2
    rw [← oO] at qA
    refine ⟨t,qA.1,?_⟩
    rw [bR,ht,aU]
    cases fe:(partialInsertionSort ltInt m2.toArray x y).2 with
    | true=>exact .inl ⟨rfl,qA.2 fe⟩
    | false=>exact .inr rfl
  obtain ⟨m3,Wf,X0⟩:=X0
  have Py:=permIn_trans _ _ _ x y atg Wf
  have axT:m3.toArray.size=l.length:=by rw [Wf.1,agP]
  have hm3:m3.length=l.length:=by simpa using axT
  have hB3:=hB2.perm (by omega) Wf
  rcases X0 with ⟨e4,hS⟩ | e4
  ·right
   rw [e4]
   exact ⟨m3,rfl,hR _ Py hS⟩
  rw [e4,aU,Sum.elim_inl]
  have hs5:(((af (decide ((x:Int) > 0))
    ((idx m3 (i64 ((x:Int) - 1))).bind λ GD =>
    (idx m3 (p2:Int)).bind λ GF =>
    (hZ GD GF).bind λ Ju =>
    some (!Ju))
    (some false)):Option Bool))=some (decide (0 < x) && !ltInt m3.toArray[x - 1]! m3.toArray[p2]!):=by
   by_cases sJ:0 < x
   ·simp only [Vg sJ,bR,mf (i:=x) (by omega) sJ,dD,bZ (show x - 1 < m3.length by omega),bZ (show p2 < m3.length by omega),aU,rJ,gk sJ,Bool.true_and,ma]
   ·simp only [Vf sJ,bI,jA sJ,Bool.false_and]
  rw [hs5,aU]
  by_cases Ep:(decide (0 < x) && !ltInt m3.toArray[x - 1]! m3.toArray[p2]!)=true
  ·left
   obtain ⟨t,ht,oO⟩:=aJo (l:=m3) (a:=x) (b:=y) (p:=p2) (by unfold lB; omega) HD Qf (by omega)
   rw [Ep,bR,ht,aU]
   simp only [fF,decide_eq_true_eq,Bool.not_eq_true'] at Ep
   have hre:=round_eq swo_ltInt (partitionEqual_holds ltInt) (d3:=m3.toArray) (d4:=t.toArray) (mid:=(partitionEqual ltInt m3.toArray x y p2).1) Ep.1 HD Qf (by omega) hB3 Ep.2 (by rw [oO])
   generalize (partitionEqual ltInt m3.toArray x y p2).1=mid at hre
   obtain ⟨g1,g2,g3,g4,g5⟩:=hre
   have LQ:t.length=l.length:=by
    have:t.toArray.size=t.length:=by simp
    omega
   exact ⟨_,rfl,⟨t,mid,y,Ca,wb,wp,rfl,LQ,g2,hy,by omega,by omega,g4,λ R r1 r2=>by
    obtain ⟨q1,q2⟩:=g5 R r1 r2
    exact hR R (permIn_trans _ _ _ x y Py q1) q2⟩,by simp only [eH]; omega⟩
  ·have Ep:(decide (0 < x) && !ltInt m3.toArray[x - 1]! m3.toArray[p2]!)=false:=by simpa using Ep
   left
   obtain ⟨t,ht,oO⟩:=aJq (l:=m3) (a:=x) (b:=y) (p:=p2) (by unfold lB; omega) HD Qf (by omega)
   rw [Ep,bI,ht,aU,show oZ ((y - x:Nat):Int) 8=some (((y - x) / 8:Nat):Int) from abx (d:=8) (by omega) (by omega),aU]
   have XZ:=round_part swo_ltInt (partition_holds ltInt) (d3:=m3.toArray) (d4:=t.toArray) (mid:=(partition ltInt m3.toArray x y p2).1) (ap:=(partition ltInt m3.toArray x y p2).2.1) HD Qf (by omega) hB3 (by rw [oO])
   generalize (partition ltInt m3.toArray x y p2).1=mid at XZ
   generalize (partition ltInt m3.toArray x y p2).2.1=ap at XZ
   obtain ⟨g1,g2,g3,g4,g5,g6,g7⟩:=XZ
   have LQ:t.length=l.length:=by
    have:t.toArray.size=t.length:=by simp
    omega
   dsimp only
   rw [sP (i:=mid) (j:=x) (by omega) g1,sP (i:=y) (j:=mid) (by omega) (by omega),rn,dS (i:=mid) (by omega)]
   have h2k:2 ^ (k+1)=2 * 2 ^ k:=by rw [Nat.pow_succ]; omega
   by_cases bV:mid - x < y - mid
   ·obtain ⟨u,hu,LR,LS⟩:=ih t x mid Ca (by unfold ny; omega) (by omega) g1 (by omega) (by omega) g4
    rw [gk bV,bR,hu,aU]
    obtain ⟨V0,Lq⟩:=g6 _ LR LS
    have Ez:u.length=l.length:=by
     have h1:u.toArray.size=u.length:=by simp
     have h2:=LR.1
     omega
    exact ⟨_,rfl,⟨u,mid+1,y,Ca,_,_,rfl,Ez,by omega,hy,by omega,by omega,V0,λ R r1 r2=>by
     obtain ⟨q1,q2⟩:=Lq R r1 r2
     exact hR R (permIn_trans _ _ _ x y Py q1) q2⟩,by simp only [eH]; omega⟩
   ·obtain ⟨u,hu,LR,LS⟩:=ih t (mid+1) y Ca (by unfold ny; omega) (by omega) (by omega) (by omega) (by omega) g5
    rw [jA bV,bI,hu,aU]
    obtain ⟨V0,Lq⟩:=g7 _ LR LS
    have Ez:u.length=l.length:=by
     have h1:u.toArray.size=u.length:=by simp
     have h2:=LR.1
     omega
    exact ⟨_,rfl,⟨u,x,mid,Ca,_,_,rfl,Ez,g1,by omega,by omega,by omega,V0,λ R r1 r2=>by
     obtain ⟨q1,q2⟩:=Lq R r1 r2
     exact hR R (permIn_trans _ _ _ x y Py q1) q2⟩,by simp only [eH]; omega⟩
theorem aIM{l:List Int}(hl:ny l):∃ l',Cl l=some l'∧l'.Perm l∧l'.Pairwise (·≤·):=by
 have hl':=hl
 unfold ny at hl'
 obtain ⟨⟨k,hk,hk1⟩,_⟩:=ahK (n:=l.length) (by omega)
 obtain ⟨t,ht,h1,h2⟩:=aLG 11 l 0 l.length k hl (by omega) (Nat.zero_le _) (dr _) (by omega) (.inl rfl)
 unfold Cl
 rw [hk,aU]
 refine ⟨t,by rw [show (0:Int)=((0:Nat):Int) from rfl,ht]; rfl,?_,?_⟩
 ·have h3:=h1.2.2
  have hts:t.length=l.length:=by have:=h1.1; simpa using this
  rw [show t.toArray.extract 0 l.length=t.toArray by rw [← hts]; simp,show l.toArray.extract 0 l.length=l.toArray by simp] at h3
  simpa using h3
 ·have hts:t.length=l.length:=by have:=h1.1; simpa using this
  rw [List.pairwise_iff_getElem]
  intro i j hi hj gg
  have h4:=h2 i j (Nat.zero_le _) gg (by omega)
  rw [ma,ma] at h4
  have e1:=bZ hi
  have e2:=bZ hj
  rw [mN hi] at e1
  rw [mN hj] at e2
  rw [kz e1,kz e2]
  unfold ltInt at h4
  have:=of_decide_eq_false h4
  omega
theorem aIO{l:List Int}(hl:ny l)(hs:l.Pairwise (·≤·)):∃ d,Cm l=some d∧d.Pairwise (· < ·)∧∀ x,x∈d↔x∈l:=by
 have hB:=hl
 unfold ny at hB
 have jR:(mC l l.length).Pairwise (· < ·)∧∀ x,x∈mC l l.length↔x∈l:=by
  refine ⟨aeL hs _ (dr _),λ x=>?_⟩
  rw [Ve]
  constructor
  ·rintro ⟨i,hi,rfl⟩; exact nJ hi
  ·intro hx; exact uB hx
 unfold Cm
 rw [show decide ((l.length:Int) < 2)=decide (l.length < 2) from rn (j:=2)]
 by_cases h2:l.length < 2
 ·rw [gk h2,bR]
  refine ⟨l,rfl,?_,λ _=>Iff.rfl⟩
  match l,h2 with
  | [],_=>simp
  | [_],_=>simp
  | _::_::r,h=>exact absurd h (by simp only [List.length_cons]; omega)
 rw [jA h2,bI]
 suffices hx:∃ z:List Int,_=some z∧z=mC l l.length by
  obtain ⟨z,hz,rfl⟩:=hx
  exact ⟨_,hz,jR⟩
 refine sV (λ s=>∃ k:Nat,s=(k:Int)∧1≤k∧k≤l.length∧∀ i,1≤i→i < k→nth l i≠nth l (i - 1)) (λ s=>l.length - s.toNat) (λ o=>o = .inl ()∧(∀ i,1≤i→i < l.length→nth l i≠nth l (i - 1))∨o = .inr (mC l l.length)) ⟨1,rfl,dr _,by omega,λ i h1 h2=>by omega⟩ (λ o ho=>?_) ?_
 ·rcases ho with ⟨rfl,h⟩ | rfl
  ·exact ⟨l,rfl,by rw [Vd _ (dr _) h,List.take_length]⟩
  ·exact ⟨_,rfl,rfl⟩
 ·rintro _ ⟨k,rfl,hk1,iy,hk⟩
  rw [rn]
  by_cases Xw:k < l.length
  ·rw [gk Xw,bR,mf (i:=k) (by omega) hk1]
   simp only [dD,bZ Xw,bZ (show k - 1 < l.length by omega),aU]
   by_cases hd:nth l k=nth l (k - 1)
   ·right
    rw [show (nth l k == nth l (k - 1))=true by simpa using hd,bR,show lH l (k:Int) (l.length:Int)=some (l.drop k) by simp [lH]; omega,aU]
    suffices hx:∃ z:Int ⊕ (Unit ⊕ List Int),_=some z∧z = .inr (.inr (mC l l.length)) by
     obtain ⟨z,hz,rfl⟩:=hx
     exact ⟨_,hz,.inr rfl⟩
    refine sV (λ s=>∃ (m:List Int) (w q:Nat),s=(m,(w:Int),(q:Int))∧m.length=l.length∧1≤q∧w+1≤k+q∧k+q≤l.length∧(∀ i,k+q - 1≤i→nth m i=nth l i)∧m.take w=mC l (k+q)) (λ s=>l.length - s.2.2.toNat)
     (λ o=>∃ (m:List Int) (w:Nat),o=(m,(w:Int))∧m.length=l.length∧w≤l.length∧m.take w=mC l l.length) ⟨l,k,1,rfl,rfl,dr _,by omega,by omega,λ _ _=>rfl,by
      rw [mC,if_neg (λ h=>h.elim (λ h=>by omega) (λ h=>h hd))]
      exact (Vd k iy hk).symm⟩ (λ o ho=>?_) ?_
    ·obtain ⟨m,w,rfl,hm,hw,ht⟩:=ho
     dsimp only
     rw [eH,show lH m (w:Int) (m.length:Int)=some (m.drop w) by simp [lH]; omega,aU,show lH (r8 m w) 0 (w:Int)=some (m.take w) from by
      have Lf:(r8 m w).length=m.length:=by simp [r8]; omega
      have:(r8 m w).take w=m.take w:=by
       unfold r8
       rw [List.take_append_of_le_length (by simp; omega),List.take_take,Nat.min_self]
      rw [← this]
      exact aeK (by omega),aU,ht]
     exact ⟨_,rfl,rfl⟩
    ·rintro _ ⟨m,w,q,rfl,hm,HD,Zn,hkq,Hz,ht⟩
     dsimp only
     rw [eH,List.length_drop,hm,rn]
     by_cases hql:q < l.length - k
     ·left
      rw [gk hql,bR,mf (i:=q) (by omega) (by omega)]
      simp only [dD,aeV (m:=m) (a:=k) (i:=q) (by omega),aeV (m:=m) (a:=k) (i:=q - 1) (by omega),aU]
      rw [Hz (k+q) (by omega),show k+(q - 1)=k+q - 1 by omega,Hz (k+q - 1) (by omega)]
      by_cases da:nth l (k+q)=nth l (k+q - 1)
      ·rw [show (nth l (k+q) != nth l (k+q - 1))=false by simpa using da,bI,dS (i:=q) (by omega)]
       refine ⟨_,rfl,⟨m,w,q+1,rfl,hm,by omega,by omega,by omega,λ i hi=>Hz i (by omega),?_⟩,by simp only [eH]; omega⟩
       rw [ht,show k+(q+1)=(k+q)+1 by omega,mC,if_neg (λ h=>h.elim (λ h=>by omega) (λ h=>h da))]
      ·rw [show (nth l (k+q) != nth l (k+q - 1))=true by simpa using da,bR]
       simp only [bZ (show w < m.length by omega),aU,dS (i:=q) (by omega),dS (i:=w) (by omega),eH]
       refine ⟨_,rfl,⟨m.set w (nth l (k+q)),w+1,q+1,rfl,by simpa using hm,by omega,by omega,by omega,λ i hi=>?_,?_⟩,by simp only [eH]; omega⟩
       ·rw [aKH (by omega)]; exact Hz i (by omega)
       ·rw [take_set (by omega),ht,show k+(q+1)=(k+q)+1 by omega,mC,if_pos (.inr da)]
     ·right
      rw [jA hql,bI]
      exact ⟨(m,(w:Int)),rfl,m,w,rfl,hm,by omega,by rw [ht,show k+q=l.length by omega]⟩
   ·left
    rw [show (nth l k == nth l (k - 1))=false by simpa using hd,bI,dS (i:=k) (by omega)]
    refine ⟨_,rfl,⟨k+1,rfl,by omega,by omega,λ i h1 h2=>?_⟩,by simp only [eH]; omega⟩
    by_cases W8:i=k
    ·subst W8; exact hd
    ·exact hk i h1 (by omega)
  ·right
   rw [jA Xw,bI]
   exact ⟨.inl (),rfl,.inl ⟨rfl,λ i h1 h2=>hk i h1 (by omega)⟩⟩
theorem aKc{b:aj}(hv:Valid b){f:bz→Option Int}{g:List Int→Int}(hf:∀ c∈cS b,f (ov c)=some (g c)):Cx (ia b) f=some (I2 ((cS b).map g)):=by
 unfold Cx
 have Lf:=OU hv
 rw [show (ia b).fH=(cS b).map ov from rfl]
 refine (lO (o:=(cS b).map g) ?_).trans ?_
 ·have e0:(([]:List Int),(0:Int))=(λ q:Nat=>(((cS b).take q).map g,(q:Int))) 0:=rfl
  rw [e0]
  refine ya (λ q:Nat=>(((cS b).take q).map g,(q:Int))) (cS b).length (λ q hq=>?_) (by simp only [List.length_map,jk,bI,List.take_length])
  have hc:(cS b)[q]∈cS b:=List.getElem_mem hq
  simp only [List.length_map,dec_lt hq,bR,dD,List.getElem?_map,mN hq,Option.map_some,aU,hf _ hc,dS (i:=q) (by omega)]
  rw [xd (by simp; omega),aU,List.take_succ_eq_append_getElem hq,List.map_append]
  rfl
 ·obtain ⟨t,ht,hp,hs⟩:=aIM (l:=(cS b).map g) (by unfold ny; rw [List.length_map]; omega)
  obtain ⟨d,hd,h1,h2⟩:=aIO (l:=t) (by unfold ny; rw [hp.length_eq,List.length_map]; omega) hs
  rw [ht,aU,hd,aU,Oy d (I2 ((cS b).map g)) h1 (aj7 _) λ x=>by rw [h2,hp.mem_iff,aiN]]
def z6(b:aj)(n:Int):Int:=if pN b n=false then 6 else 0
theorem aIK{b:aj}(hs:b.aK.length≤1000)(n:Int):rI b n=some (z6 b n):=by
 unfold rI
 rw [Mx hs]
 rfl
theorem ahs{b:aj}{n:Int}:pN b n=true↔∃ i:Nat,n=(i:Int)∧i < b.aK.length:=by
 unfold pN
 rw [jH]
 constructor
 ·intro h; exact ⟨n.toNat,by omega,by omega⟩
 ·rintro ⟨i,rfl,hi⟩; omega
theorem aLe{b:aj}{n:Int}(h:z6 b n=0):∃ i:Nat,n=(i:Int)∧i < b.aK.length:=by
 refine ahs.1 ?_
 unfold z6 at h
 cases hi:pN b n with
 | true=>rfl
 | false=>rw [hi] at h; cases h
theorem aLf{b:aj}{i:Nat}(h:i < b.aK.length):z6 b (i:Int)=0:=by
 unfold z6
 rw [ahs.2 ⟨i,rfl,h⟩]
 rfl
abbrev vi(b:aj)(i:Nat):List Int:=I2 ((cS b).map λ c=>nth c i)
def O3(b:aj)(n:Int):List Int × Int:=if il b (z6 b n)≠0 then ([],il b (z6 b n)) else (vi b n.toNat,0)
theorem aiq{b:aj}(hs:Small b)(n:Int):yf b n=some (O3 b n):=by
 have hp:=hs.places
 unfold yf O3 FB
 rw [aU,FA hs (own:=z6 b n) (λ _=>aIK (by omega) n),aU]
 unfold zZ
 by_cases h:il b (z6 b n)=0
 ·obtain ⟨hv,ho,hc⟩:=Hg h
  obtain ⟨i,rfl,hi⟩:=aLe ho
  simp only [h,ne_eq,kY,if_false,bne_self_eq_false,bI]
  rw [aKc hv (g:=λ c=>nth c i) (λ c hc=>by unfold FC; rw [ak9 hv (RH.1 hc).1.1 hi]; rfl)]
  rfl
 ·simp only [h,ne_eq,not_false_eq_true,if_true,s7 h,bR]
theorem aeS{b:aj}(hv:Valid b){i:Nat}(hi:i < b.aK.length):O3 b (i:Int)=(vi b i,if cS b=[] then 9 else 0):=by
 unfold O3
 rw [aLf hi,aq6 hv]
 by_cases hc:cS b=[]
 ·rw [if_pos hc,if_pos (by decide)]
  unfold vi
  rw [hc]
  rfl
 ·simp only [hc,if_false]
  rfl
theorem Vh{b:aj}{i:Nat}{k:Int}:k∈vi b i↔∃ c∈cS b,nth c i=k:=by
 unfold vi
 rw [aiN,List.mem_map]
theorem apn{b:aj}{i:Nat}(hi:i < b.aK.length){k:Int}(h:k∈vi b i):(nth b.aK i).c6≤k∧k≤(nth b.aK i).eA:=by
 obtain ⟨c,hc,rfl⟩:=Vh.1 h
 exact (RH.1 hc).1.2 i hi
theorem aeR{b:aj}(hv:Valid b){i:Nat}(hi:i < b.aK.length):(vi b i).length≤3:=by
 have hp:=hv.each hi
 refine Nat.le_trans (aaw (m:=FW (nth b.aK i)) id ((aj7 _).imp λ h=>by omega) (λ x _ y _ h=>h) λ c hc=>?_) (ajJ hp.2.2.2)
 exact aiM.2 (apn hi hc)
theorem aIE{l m:List Int}(hl:l.length≤1000)(hm:m.length≤1000):MF l m=some (l.all λ x=>m.contains x):=by
 unfold MF
 rw [ahS (l:=l) (λ x=>m.contains x) false (λ i hi=>?_) (by simp only [jk,bI])]
 ·cases l.all λ x=>m.contains x <;> rfl
 ·simp only [dec_lt hi,bR,dD,bZ hi,aU,aJZ hm,dS (i:=i) (by omega)]
  cases m.contains (nth l i) <;> rfl
theorem Ou{b:aj}{s:dp}{c:List Int}(h:c∈cS (fI b s)):c∈cS b:=by
 rw [aeC,List.mem_filter] at h
 exact h.1
theorem an6{b:aj}{s:dp}(hv:Valid b)(ho:Valid (fI b s))(hc:cS (fI b s)≠[]):qe b (fI b s):=by
 obtain ⟨c,Ed⟩:=List.exists_mem_of_ne_nil _ hc
 refine ⟨hv,ho,⟨λ h=>absurd (Ou Ed) (by rw [h]; simp),λ h=>absurd h hc⟩,⟨dr _,rfl,λ _ _=>rfl,λ i k _ _ h=>?_,λ _ _ _ _ h=>h,λ _ _ h=>h,λ _ _ h=>h⟩,λ _ _=>rfl⟩
 have h:pn b i k=true:=h
 show pn (fI b s) i k=true
 unfold pn at h ⊢
 rw [List.all_eq_true] at h ⊢
 exact λ w hw=>h w (Ou hw)
theorem qe.r9{a c:aj}(h:qe a c)(hn:a.ax.length=c.ax.length){x:Nat}(hP:Go.Proofs.YtihapemckcdicaaGreatDoor.r9 a x=true):Go.Proofs.YtihapemckcdicaaGreatDoor.r9 c x=true:=by
 have hP:jI a (gO (cX a.ax.length x)) 0=true:=hP
 show jI c (gO (cX c.ax.length x)) 0=true
 rw [Pv] at hP ⊢
 obtain ⟨r,hr⟩:=hP
 rw [abA h.va.m4] at hr
 refine ⟨r,(abA h.vc.m4).2 ⟨jg.le h.le hr.1,?_⟩⟩
 rw [← hn]
 exact hr.2
theorem qe.DK{a c:aj}(h:qe a c)(hn:a.ax.length=c.ax.length)(hg:jI a (jh a) 0=true):jI c (jh c) 0=true∧(fE c.ax.length (Go.Proofs.YtihapemckcdicaaGreatDoor.r9 c) (2 ^ c.ax.length)).1.length≤(fE a.ax.length (Go.Proofs.YtihapemckcdicaaGreatDoor.r9 a) (2 ^ a.ax.length)).1.length:=by
 obtain ⟨x,hx,hP,e⟩:=(Kp hg).2.ex
 have Hn:=h.r9 hn hP
 have hgc:jI c (jh c) 0=true:=goes_mono h.vc Hn
 refine ⟨hgc,?_⟩
 rw [e]
 have:=(Kp hgc).2.len (by rw [← hn]; exact hx) Hn
 rwa [hn]
theorem ayI{p:List Int→Bool}{l m:List (List Int)}(hm:∀ c∈m,c∈l)(da:m≠[]):(og (l.filter p).length l.length != 0)=true→og (l.filter p).length l.length=og (m.filter p).length m.length:=by
 intro h
 have hl:l≠[]:=λ e=>by
  obtain ⟨c,hc⟩:=List.exists_mem_of_ne_nil _ da
  have:=hm c hc
  rw [e] at this
  cases this
 have s1:=ag1 (p:=p) hl
 have s2:=ag1 (p:=p) da
 have n1:=ag0 (p:=p) (l:=l)
 have n2:=ag0 (p:=p) (l:=m)
 by_cases h2:og (l.filter p).length l.length=2
 ·rw [h2,beq_self_eq_true] at n1
  have n1:=of_decide_eq_true n1.symm
  rw [gk (λ c hc=>n1 c (hm c hc)),beq_iff_eq] at n2
  rw [h2,n2]
 ·by_cases h1:og (l.filter p).length l.length=1
  ·rw [h1,beq_self_eq_true] at s1
   have s1:=of_decide_eq_true s1.symm
   rw [gk (λ c hc=>s1 c (hm c hc)),beq_iff_eq] at s2
   rw [h1,s2]
  ·exfalso
   unfold og at h h1 h2
   split at h
   ·rename_i e; rw [if_pos e] at h2; exact h2 rfl
   ·rename_i e
    rw [if_neg e] at h1
    split at h
    ·rename_i e2; rw [if_pos e2] at h1; exact h1 rfl
    ·cases h
theorem aJ8{b:aj}{s:dp}(hv:Valid b)(ho:Valid (fI b s))(hc:cS (fI b s)≠[]){p k i:Nat}(hp:p < b.aK.length)(hk:k < b.ax.length)(hi:i < b.ay.length):MW b (fI b s) (p:Int) (k:Int) (i:Int)=some true:=by
 have M:=an6 hv ho hc
 have Wy:cS b≠[]:=λ h=>hc (M.case.1 h)
 have h0:il b 0=0:=afu hv rfl Wy
 have h1:il (fI b s) 0=0:=afu ho rfl hc
 have h27:=OU hv
 have tY:=List.length_pos_iff.2 hc
 have hl2:(cS (fI b s)).length≤(cS b).length:=by rw [aeC]; exact List.length_filter_le _ _
 have e30:∀ {c:aj},Valid c→cS c≠[]→k < c.ax.length→i < c.ay.length→RF c (k:Int) (i:Int)=(og ((cS c).filter λ w=>pQ c w k i).length (cS c).length,0):=λ {c} LV Ed hk hi=>by
  unfold RF
  rw [wI.2 LV,ahr.2 ⟨k,rfl,hk⟩,ahq.2 ⟨i,rfl,hi⟩]
  simp [Ed]
 unfold MW
 rw [aip hv.sm,aeD hv,aip ho.sm,aeD ho,aiq hv.sm,aeS hv hp,aiq ho.sm,aeS ho (show p < (fI b s).aK.length from hp),ais hv.sm,e30 hv Wy hk hi,ais ho.sm,e30 ho hc (show k < (fI b s).ax.length from hk) (show i < (fI b s).ay.length from hi)]
 have Ll:=aeR hv hp
 have BJ:=aeR ho (show p < (fI b s).aK.length from hp)
 have qy:((vi (fI b s) p).all λ x=>(vi b p).contains x)=true:=by
  rw [List.all_eq_true]
  intro x hx
  rw [List.contains_iff_mem]
  obtain ⟨c,Ed,e⟩:=Vh.1 hx
  exact Vh.2 ⟨c,Ou Ed,e⟩
 have avT:=ayI (p:=λ w=>pQ b w k i) (l:=cS b) (m:=cS (fI b s)) (λ _ h=>Ou h) hc
 have em:(λ w=>pQ (fI b s) w k i)=λ w=>pQ b w k i:=rfl
 have axN:af (og ((cS b).filter λ w=>pQ b w k i).length (cS b).length != 0) (some (og ((cS b).filter λ w=>pQ b w k i).length (cS b).length != og ((cS (fI b s)).filter λ w=>pQ b w k i).length (cS (fI b s)).length)) (some false)=some false:=by
  cases hx:(og ((cS b).filter λ w=>pQ b w k i).length (cS b).length != 0) with
  | false=>rfl
  | true=>rw [bR,← avT hx]; simp
 simp only [aU,if_neg Wy,if_neg hc,bne_self_eq_false,bI,rL,jH.2 (show (1:Int)≤((cS (fI b s)).length:Int)∧((cS (fI b s)).length:Int)≤((cS b).length:Int) by omega),Bool.not_true,aIE (show (vi (fI b s) p).length≤1000 by omega) (show (vi b p).length≤1000 by omega),qy,em,axN]
 rw [aiu hv.sm,aiu ho.sm,aiv hv.sm,aiv ho.sm,aiw hv.sm,aiw ho.sm,aix hv.sm,aix ho.sm]
 unfold abE VT Va Vj
 rw [h0,h1]
 simp only [ne_eq,kY,if_false,aU,bne_self_eq_false,bI,beq_self_eq_true,bR]
 have aX2:=M.many
 have avc:=M.drop
 have n1:decide (((mq b).length:Int) < 0)=false:=by simp
 have n2:decide (((mq (fI b s)).length:Int) < ((mq b).length:Int))=false:=by simp; omega
 have WY:decide (((fE (fI b s).ay.length (Bn (fI b s)) (2 ^ (fI b s).ay.length)).1.length:Int)≤((fE b.ay.length (Bn b) (2 ^ b.ay.length)).1.length:Int))=true:=by simpa using avc
 have hgo:∀ c:aj,jI c (jh c) 0=!(mq c).isEmpty:=λ _=>rfl
 simp only [n1,n2,bI]
 cases hb:mq b with
 | nil =>
  have g1:jI b (jh b) 0=false:=by rw [hgo,hb]; rfl
  rw [aeI hv g1]
  cases hq:mq (fI b s) with
  | nil =>
   have g2:jI (fI b s) (jh (fI b s)) 0=false:=by rw [hgo,hq]; rfl
   rw [aeI ho g2]
   exact congrArg some WY
  | cons q m =>
   have g2:jI (fI b s) (jh (fI b s)) 0=true:=by rw [hgo,hq]; rfl
   have zk:decide ((((q::m).length:Nat):Int) > 0)=true:=by simp
   simp only [(Kp g2).1,zk]
   exact congrArg some WY
 | cons r l =>
  obtain ⟨q,m,hq,hle⟩:=M.fair h0 hb
  have g1:jI b (jh b) 0=true:=by rw [hgo,hb]; rfl
  obtain ⟨g2,Lf⟩:=M.DK (show b.ax.length=(fI b s).ax.length from rfl) g1
  rw [hq]
  have xB:decide ((((r::l).length:Nat):Int) > 0)=true:=by simp
  have zk:decide ((((q::m).length:Nat):Int) > 0)=true:=by simp
  have hf:decide (mZ (fI b s) (kZ (mZ (fI b s)) q m) > mZ b (kZ (mZ b) r l))=false:=by simpa using hle
  have Ed:decide (((fE (fI b s).ax.length (Go.Proofs.YtihapemckcdicaaGreatDoor.r9 (fI b s)) (2 ^ (fI b s).ax.length)).1.length:Int) > ((fE b.ax.length (Go.Proofs.YtihapemckcdicaaGreatDoor.r9 b) (2 ^ b.ax.length)).1.length:Int))=false:=by simpa using Lf
  simp only [(Kp g1).1,(Kp g2).1,xB,zk,beq_self_eq_true,Bool.not_true,bI,bR,hf,Ed]
  exact congrArg some WY
theorem aGQ(b:aj)(s:dp)(x y z:Int)(hx:0≤x∧x < 256)(hy:0≤y∧y < 256)(hz:0≤z∧z < 256):Rr b s x y z=some true:=by
 unfold Rr
 rw [aJW,aMp,aU]
 cases hg:DU b with
 | true=>rfl
 | false =>
 by_cases h1:iR b=0
 case neg =>
  have:(iR b == 0)=false:=by simpa using h1
  rw [this]
  rfl
 have hs:=agk hg
 have hv:=wI.1 h1
 have xB:=hv.p1
 have P2:=hv.m1
 have Ll:=hv.d1
 have h3:=hv.s3
 simp only [h1,Bool.not_false,beq_self_eq_true,Bool.and_true,Bool.not_true,bI]
 rw [aJ6 hs,aU]
 unfold abN
 rw [if_neg (show ¬ iR b≠0 by simp [h1])]
 by_cases he:il (fI b s) 0=0
 ·obtain ⟨ho,_,hc⟩:=Hg he
  rw [if_neg (by simpa using he)]
  simp only [bne_self_eq_false,bI]
  rw [aJY (by omega),aU,ajR ho.sm,aU,bR,aiB ho.sm,wI.2 ho,aU,beq_self_eq_true,bR,abB hx.1 hx.2 (by omega),aU,abB hy.1 hy.2 (by omega),aU,abB hz.1 hz.2 (by omega),aU,aJ8 hv ho hc (Nat.mod_lt _ (by omega)) (Nat.mod_lt _ (by omega)) (Nat.mod_lt _ (by omega))]
  rfl
 ·rw [if_pos he]
  simp only [s7 he,bR]
  rw [show (⟨0,[],[],[],[],[]⟩:aj)=ym from rfl,ajR aKE]
  rfl
end Go.Proofs.YtihapemckcdicaaGreatDoor
