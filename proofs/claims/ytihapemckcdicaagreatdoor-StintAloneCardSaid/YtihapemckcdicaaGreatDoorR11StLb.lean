/- Plain laws of chapter 5, the rest. Conditions: none. -/
import Derived.Test.YtihapemckcdicaaGreatDoorR11StL
import Derived.Test.YtihapemckcdicaaGreatDoorQEStP
import Derived.Test.YtihapemckcdicaaGreatDoorQEStC
namespace Go.Proofs.YtihapemckcdicaaGreatDoor
open Go.Lg Go.Proofs
set_option maxRecDepth 10000
def lW(c:List Int):List Bool:=(List.range 4).map λ (k:Nat)=>c.contains (k:Int)
def fK(r:List (List Int)):List Bool:=(List.range 16).map λ p=>(nth r (p / 4)).contains ((p % 4:Nat):Int)
theorem Rd(r:List (List Int)):(fK r).length=16:=by simp [fK]
theorem Zi(r:List (List Int)){p:Nat}(hp:p < 16):(fK r)[p]? = some ((nth r (p / 4)).contains ((p % 4:Nat):Int)):=by
 unfold fK
 rw [List.getElem?_map,List.getElem?_range hp]
 rfl
theorem D1(c:List Int){k:Nat}(hk:k < 4):idx (lW c) (k:Int)=some (c.contains (k:Int)):=by
 unfold lW
 rw [fJ,List.getElem?_map,List.getElem?_range hk]
 rfl
theorem LC(r:List (List Int)){i:Nat}(hi:i < 4):gI 4 (fK r) (i:Int)=some (lW (nth r i)):=by
 match i,hi with
 | 0,_=>rfl
 | 1,_=>rfl
 | 2,_=>rfl
 | 3,_=>rfl
def xh(b:ao)(c:List Int)(k i:Nat):Bool:=decide (nth c (nth b.av i).Place.toNat≤(nth b.ax k).mg) && decide ((nth b.av i).gR≤xj b (nth c (nth b.av i).Place.toNat))
theorem ahZ{b:ao}(hv:Valid b){c:List Int}(hc:c.length=b.aM.length){k i:Nat}(hk:k < b.ax.length)(hi:i < b.av.length):yq b (oK c) (k:Int) (i:Int)=some (xh b c k i):=by
 have hp:=(hv.dv hi).place
 unfold yq xh
 have e:idx (oK c).deep (nth b.av i).Place=some (nth c (nth b.av i).Place.toNat):=by
  have:=aE4 hv hc (i:=(nth b.av i).Place.toNat) (by omega)
  rwa [Int.toNat_of_nonneg hp.1] at this
 simp only [fJ,df hi,df hk,Option.bind_some,e,ajk (show b.Rows.length≤20 by have:=hv.r4; omega)]
 cases decide (nth c (nth b.av i).Place.toNat≤(nth b.ax k).mg) <;> rfl
end Go.Proofs.YtihapemckcdicaaGreatDoor
namespace Go.Proofs.YtihapemckcdicaaGreatDoor
open Go.Lg Go.Proofs
set_option maxRecDepth 10000
theorem LG(c:List Int):(lW c).length=4:=by simp [lW]
theorem ahP{c:List Int}{k:Nat}(hk:k < 4):(lW c).set k true=lW (c++[(k:Int)]):=by
 refine List.ext_getElem? λ p=>?_
 by_cases hp:p < 4
 ·rw [List.getElem?_set,LG]
  have e:∀ d:List Int,(lW d)[p]? = some (d.contains (p:Int)):=λ d=>by have:=D1 d hp; rwa [fJ] at this
  rw [e,e]
  by_cases h:k=p
  ·subst h
   rw [if_pos rfl,if_pos hk]
   simp
  ·rw [if_neg h]
   congr 1
   rw [Bool.eq_iff_iff,List.contains_iff_mem,List.contains_iff_mem,List.mem_append,List.mem_singleton]
   exact ⟨.inl,λ h2=>h2.resolve_right (by omega)⟩
 ·rw [List.getElem?_eq_none (by rw [List.length_set,LG]; omega),List.getElem?_eq_none (by rw [LG]; omega)]
theorem aIp{c:List Int}(hl:c.length≤100)(hc:∀ k∈c,0≤k∧k < 4):zD c=some (lW c):=by
 unfold zD
 refine (xg (o:=lW c) ?_).trans rfl
 have e0:((0:Int),[false,false,false,false])=(λ i:Nat=>((i:Int),lW (c.take i))) 0:=rfl
 rw [e0]
 refine CK (λ i:Nat=>((i:Int),lW (c.take i))) c.length (λ i hi=>?_) (by simp only [ja,b8,List.take_length])
 have hm:=hc _ (ko hi)
 have e:c.take (i+1)=c.take i++[nth c i]:=by rw [List.take_add_one,df hi]; rfl
 generalize nth c i=x at hm e
 obtain ⟨k,rfl⟩:=Int.eq_ofNat_of_zero_le hm.1
 have hx:c[i]? = some (k:Int):=by
  have h2:=congrArg List.getLast? e
  rw [List.getLast?_append] at h2
  rw [List.take_add_one] at e
  have:=List.append_cancel_left e
  cases h3:c[i]? with
  | none=>rw [h3] at this; cases this
  | some y=>rw [h3] at this; simpa using this
 simp only [dec_lt hi,cV,fJ,hx,Option.bind_some,fY (i:=i) (by omega),Int.toNat_natCast]
 have hk:k < 4:=by omega
 have:=D1 (c.take i) hk
 rw [fJ] at this
 rw [this,Option.bind_some,ahP hk,← e]
structure Zv (b:ao) (r:List (List Int)):Prop where
 len:r.length=b.av.length
 row:∀ i,i < b.av.length→(nth r i).Pairwise (· < ·)∧∀ k∈nth r i,0≤k∧k < (b.ax.length:Int)
end Go.Proofs.YtihapemckcdicaaGreatDoor
namespace Go.Proofs.YtihapemckcdicaaGreatDoor
open Go.Lg Go.Proofs
set_option maxRecDepth 10000
theorem ag4{b:ao}(hv:Valid b):nz b 0=if gA b=[] then 9 else 0:=by unfold nz; simp [D5.2 hv]
end Go.Proofs.YtihapemckcdicaaGreatDoor
namespace Go.Proofs.YtihapemckcdicaaGreatDoor
open Go.Lg Go.Proofs
set_option maxRecDepth 10000
def aGf(b:ao)(k i:Int):Int × Int:=if lR b≠0 then (0,lR b) else if (isM b k && isD b i)=false then (0,6) else if gA b=[] then (0,9) else (G2 ((gA b).filter λ c=>xh b c k.toNat i.toNat).length (gA b).length,0)
theorem aTx{b:ao}(hs:Small b)(k i:Int):tC b k i=some (aGf b k i):=by
 have aXh:=hs.rL
 have aW8:=hs.PZ
 unfold tC aGf
 have aT6:D6 b k i=some (if (isM b k && isD b i)=false then 6 else 0):=by
  unfold D6
  rw [W5 (m:=b.ax.length) (by omega),Option.bind_some,W5 (m:=b.av.length) (by omega),Option.bind_some,aFJ]
  have e1:isM b k=cL k 0 ((b.ax.length:Int) - 1):=rfl
  have e2:isD b i=cL i 0 ((b.av.length:Int) - 1):=rfl
  rw [e1,e2]
  cases cL k 0 ((b.ax.length:Int) - 1) <;> cases cL i 0 ((b.av.length:Int) - 1) <;> rfl
 rw [Zg hs (own:=if (isM b k && isD b i)=false then 6 else 0) (λ _=>aT6),Option.bind_some]
 unfold GX nz
 by_cases h1:lR b=0
 ·have hv:=D5.1 h1
  rw [if_neg (show ¬ lR b≠0 by simpa using h1),if_neg (show ¬ lR b≠0 by simpa using h1)]
  cases hki:(isM b k && isD b i) with
  | false=>rfl
  | true =>
   rw [Bool.and_eq_true] at hki
   obtain ⟨k',rfl,hk⟩:=aOq.1 hki.1
   obtain ⟨i',rfl,hi⟩:=aGt.1 hki.2
   simp only [Bool.true_eq_false,if_false,ne_eq,not_true_eq_false]
   by_cases hc:gA b=[]
   ·rw [if_pos hc,if_pos hc]; rfl
   ·rw [if_neg hc,if_neg hc]
    simp only [not_true_eq_false,if_false,bne_self_eq_false,b8]
    rw [ahY hv (p:=λ c=>xh b c k' i') (λ c hc=>by unfold Eg; rw [show (jQ b).book=b from rfl,ahZ hv (ah3.1 hc).1.1 hk hi]; rfl),Option.bind_some,aOA]
    rfl
 ·rw [if_pos h1,if_pos h1]
  simp only [h1,ne_eq,not_false_eq_true,if_true,D3 h1,cV]
end Go.Proofs.YtihapemckcdicaaGreatDoor
namespace Go.Proofs.YtihapemckcdicaaGreatDoor
open Go.Lg Go.Proofs
set_option maxRecDepth 10000
theorem aGa{S O:Type}{body:S→Option (S ⊕ O)}(n:Nat)(I:Nat→S→Prop)(Q:O→Prop)(h:∀ i s,i < n→I i s→(∃ s',body s=some (.inl s')∧I (i+1) s')∨∃ o,body s=some (.inr o)∧Q o)(hn:∀ s,I n s→∃ o,body s=some (.inr o)∧Q o) :
  ∀ (k i:Nat) (s:S),i+k=n→I i s→∃ o,bC body s=some o∧Q o
 | 0,i,s,hi,hI=>by
  obtain rfl:i=n:=by omega
  obtain ⟨o,h1,h2⟩:=hn s hI
  exact ⟨o,za h1,h2⟩
 | k+1,i,s,hi,hI=>by
  rcases h i s (by omega) hI with ⟨s',h1,h2⟩ | ⟨o,h1,h2⟩
  ·obtain ⟨o,h3,h4⟩:=aGa n I Q h hn k (i+1) s' (by omega) h2
   exact ⟨o,by rw [Hq h1,h3],h4⟩
  ·exact ⟨o,za h1,h2⟩
structure YO (b:ao) (r:List (List Int)):Prop where
 len:r.length=b.av.length
 row:∀ i,i < b.av.length→((nth r i).length:Int)=(nth b.av i).ax∧(nth r i).Pairwise (· < ·)∧∀ k∈nth r i,0≤k∧k < (b.ax.length:Int)
theorem YO.rows{b:ao}{r:List (List Int)}(h:YO b r):Zv b r:=⟨h.len,λ i hi=>(h.row i hi).2⟩
theorem aU8(l:List Int){i:Nat}(hi:i < 4):∃ z,P3 l (i:Int)=some z:=by
 unfold P3
 rw [qS,Option.bind_some]
 by_cases h4:4≤l.length
 ·cases cL (i:Int) 0 (i64 ((l.length:Int) - 1)) with
  | false=>exact ⟨0,rfl⟩
  | true =>
   rw [cV,fJ,df (show i < l.length by omega)]
   exact ⟨_,rfl⟩
 ·rw [oq (by omega) (by omega)]
  cases h:cL (i:Int) 0 ((l.length:Int) - 1) with
  | false=>exact ⟨0,rfl⟩
  | true =>
   rw [jN] at h
   rw [cV,ahX h.1 (by omega)]
   exact ⟨_,rfl⟩
theorem aTN(x:Int)(k:Nat):∃ z,(kU .i64 x (k:Int)).bind (λ y=>(fH .and .i64 y 1).bind λ w=>some (w == 1))=some z:=by
 unfold kU
 rw [if_neg (by omega)]
 exact ⟨_,rfl⟩
structure aHK (b:ao) (m:Int) (k:Nat) (s:List Int × Int × Int):Prop where
 at_:s.2.2=(k:Int)
 asc:s.1.Pairwise (· < ·)
 mem:∀ x∈s.1,0≤x∧x < (k:Int)
 sum:(s.1.length:Int)+s.2.1=m
 left:0≤s.2.1∧s.2.1≤(b.ax.length:Int) - (k:Int)
theorem aVb{b:ao}(hv:Valid b)(l:List Int):∃ r ok,Ly b l=some (r,ok)∧(ok=true→YO b r)∧(ok=false→∃ i,i < b.av.length∧(b.ax.length:Int) < (nth b.av i).ax):=by
 have hm4:=hv.m4
 have Y7:=hv.d4
 unfold Ly
 have main:=aGa (O:=((List (List Int)) ⊕ ((List (List Int)) × Bool))) (body:=λ (pa:((List (List Int)) × Int)) =>
 aa (decide (pa.2 < (b.av.length:Int)))
 ((idx b.av pa.2).bind λ P6 =>
 aa (decide (P6.ax > (b.ax.length:Int)))
 (some (.inr (.inr ([],false))))
 ((bC (O:=(List Int)) (λ (iF:((List Int) × Int × Int)) =>
 aa (decide (iF.2.2 < (b.ax.length:Int)))
 ((((aa (decide (iF.2.1 > 0))
 (aa (decide (i64 ((b.ax.length:Int) - iF.2.2)≤iF.2.1))
 (some true)
 ((P3 l pa.2).bind λ Zl =>
 (kU .i64 Zl iF.2.2).bind λ xw =>
 (fH .and .i64 xw 1).bind λ Rj =>
 some (Rj == 1)))
 (some false)):Option Bool)).bind (λ (HN:Bool) =>
 aa HN
 ((eW iF.1 [iF.2.2]).bind λ Qe =>
 some (.inl (Qe,i64 (iF.2.1 - 1),i64 (iF.2.2+1))))
 (some (.inl (iF.1,iF.2.1,i64 (iF.2.2+1))))))
 (some (.inr iF.1))) ([],P6.ax,0)).bind (λ (Hi:(List Int)) =>
 (eW pa.1 [Hi]).bind λ Zm =>
 some (.inl (Zm,i64 (pa.2+1))))))
 (some (.inr (.inl pa.1)))) b.av.length (λ i s=>s.2=(i:Int)∧s.1.length=i∧∀ j,j < i→((nth s.1 j).length:Int)=(nth b.av j).ax∧(nth s.1 j).Pairwise (· < ·)∧∀ k∈nth s.1 j,0≤k∧k < (b.ax.length:Int))
  (λ o=>(∃ r,o = .inl r∧YO b r)∨(o = .inr ([],false)∧∃ i,i < b.av.length∧(b.ax.length:Int) < (nth b.av i).ax)) (λ i s hi hI=>?_) (λ s hI=>?_) b.av.length 0 ([],0) (by omega) ⟨rfl,rfl,λ j hj=>by omega⟩
 ·obtain ⟨o,ho,hQ⟩:=main
  rcases hQ with ⟨r,rfl,hp⟩ | ⟨rfl,aSP⟩
  ·refine ⟨r,true,?_,λ _=>hp,λ h=>by cases h⟩
   exact (xg ho).trans rfl
  ·refine ⟨[],false,?_,(λ h=>by cases h),λ _=>aSP⟩
   exact (xg ho).trans rfl
 ·obtain ⟨acc,x⟩:=s
  obtain ⟨rfl,hlen,adr⟩:=hI
  simp only at hlen adr
  have atd:=(hv.dv hi).rL
  simp only [dec_lt hi,cV,fJ,df hi,Option.bind_some]
  by_cases hgt:(nth b.av i).ax > (b.ax.length:Int)
  ·right
   rw [decide_eq_true hgt,cV]
   exact ⟨_,rfl,.inr ⟨rfl,i,hi,hgt⟩⟩
  ·left
   rw [decide_eq_false hgt,b8]
   obtain ⟨z,hz⟩:=aU8 l (i:=i) (by omega)
   simp only [hz,Option.bind_some]
   obtain ⟨o,ho,h1,h2,h3⟩:=aGa (O:=List Int) (body:=λ (iF:((List Int) × Int × Int)) =>
 aa (decide (iF.2.2 < (b.ax.length:Int)))
 ((((aa (decide (iF.2.1 > 0))
 (aa (decide (i64 ((b.ax.length:Int) - iF.2.2)≤iF.2.1))
 (some true)
 ((kU .i64 z iF.2.2).bind λ xw =>
 (fH .and .i64 xw 1).bind λ Rj =>
 some (Rj == 1)))
 (some false)):Option Bool)).bind (λ (HN:Bool) =>
 aa HN
 ((eW iF.1 [iF.2.2]).bind λ Qe =>
 some (.inl (Qe,i64 (iF.2.1 - 1),i64 (iF.2.2+1))))
 (some (.inl (iF.1,iF.2.1,i64 (iF.2.2+1))))))
 (some (.inr iF.1))) b.ax.length (aHK b (nth b.av i).ax) (λ o=>(o.length:Int)=(nth b.av i).ax∧o.Pairwise (· < ·)∧∀ k∈o,0≤k∧k < (b.ax.length:Int)) (λ k s hk hI=>by
    obtain ⟨row,left,x⟩:=s
    obtain ⟨rfl,ha,lS,Zp,aIb⟩:=hI
    simp only at ha lS Zp aIb
    left
    have go:(∃ s',((eW row [(k:Int)]).bind λ Qe=>some (.inl (Qe,i64 (left - 1),i64 ((k:Int)+1))):Option ((List Int × Int × Int) ⊕ List Int))=some (.inl s')∧(0 < left→aHK b (nth b.av i).ax (k+1) s')):=by
     rw [Ho (by simp only [List.length_cons,List.length_nil]; omega)]
     refine ⟨_,rfl,λ iN=>⟨fY (by omega),?_,λ x hx=>?_,?_,?_⟩⟩
     ·rw [List.pairwise_append]
      exact ⟨ha,by simp,λ x hx y hy=>by simp at hy; have:=lS x hx; omega⟩
     ·rw [List.mem_append,List.mem_singleton] at hx
      rcases hx with hx | rfl
      ·have:=lS x hx; omega
      ·omega
     ·simp only [oq (z:=left - 1) (by omega) (by omega),List.length_append,List.length_cons,List.length_nil]
      omega
     ·simp only [oq (z:=left - 1) (by omega) (by omega)]
      omega
    have stay:left≤(b.ax.length:Int) - (k:Int) - 1→aHK b (nth b.av i).ax (k+1) (row,left,i64 ((k:Int)+1)):=λ h=>⟨fY (by omega),ha,λ x hx=>by have:=lS x hx; omega,Zp,by simp only; omega⟩
    simp only [dec_lt hk,cV]
    by_cases iN:left > 0
    ·rw [decide_eq_true iN,cV,oq (by omega) (by omega)]
     by_cases hle:(b.ax.length:Int) - (k:Int)≤left
     ·rw [decide_eq_true hle,cV,Option.bind_some,cV]
      obtain ⟨s',h1,h2⟩:=go
      exact ⟨s',h1,h2 iN⟩
     ·rw [decide_eq_false hle,b8]
      obtain ⟨y,hy⟩:=aTN z k
      rw [hy,Option.bind_some]
      cases y with
      | true =>
       rw [cV]
       obtain ⟨s',h1,h2⟩:=go
       exact ⟨s',h1,h2 iN⟩
      | false=>exact ⟨_,rfl,stay (by omega)⟩
    ·rw [decide_eq_false iN,b8]
     exact ⟨_,rfl,stay (by omega)⟩) (λ s hI=>by
    obtain ⟨row,left,x⟩:=s
    obtain ⟨rfl,ha,lS,Zp,aIb⟩:=hI
    simp only at ha lS Zp aIb
    refine ⟨row,by simp only [ja,b8],by omega,ha,lS⟩) b.ax.length 0 ([],(nth b.av i).ax,0) (by omega) ⟨rfl,.nil,by simp,by simp,by simp only; omega⟩
   refine ⟨(acc++[o],((i+1:Nat):Int)),?_,rfl,by simp [hlen],λ j hj=>?_⟩
   ·refine (xg ho).trans ?_
    rw [Ho (by simp only [List.length_cons,List.length_nil]; omega),Option.bind_some,fY (by omega)]
   ·by_cases e:j=i
    ·subst e
     have:nth (acc++[o]) j=o:=by rw [← hlen]; exact zn
     simp only [this]
     exact ⟨h1,h2,h3⟩
    ·simp only [zc (show j < acc.length by omega)]
     exact adr j (by omega)
 ·obtain ⟨acc,x⟩:=s
  obtain ⟨rfl,hlen,adr⟩:=hI
  exact ⟨.inl acc,by simp only [ja,b8],.inl ⟨acc,rfl,hlen,adr⟩⟩
abbrev aTe:List Bool:=[false,false,false,false,false,false,false,false,false,false,false,false,false,false,false,false]
theorem aU5{b:ao}(hv:Valid b){r:List (List Int)}(h:YO b r):He b r=some (fK r,0):=by
 have hm4:=hv.m4
 have Y7:=hv.d4
 have hl:=h.len
 unfold He
 rw [show ((r.length:Int) != (b.av.length:Int))=false by simp [hl],b8]
 refine (xg (o:=Sum.inl (fK r)) ?_).trans rfl
 have e0:((0:Int),aTe)=(λ i:Nat=>((i:Int),fK (r.take i))) 0:=rfl
 rw [e0]
 refine CK (λ i:Nat=>((i:Int),fK (r.take i))) r.length (λ i hi=>?_) (by simp only [ja,b8,List.take_length])
 have Hp:i < b.av.length:=by omega
 obtain ⟨h1,h2,h3⟩:=h.row i Hp
 have atd:=(hv.dv Hp).rL
 simp only [dec_lt hi,cV,fJ,df hi,df Hp,Option.bind_some,show (((nth r i).length:Int) != (nth b.av i).ax)=false by simp [h1],b8]
 rw [LP (n:=(nth r i).length) (λ _=>true) (aTe,(0:Int)) (λ k hk=>?_) (by simp only [ja,b8])]
 ·rw [show ((List.range (nth r i).length).all λ _=>true)=true by simp]
  simp only [if_true,Option.bind_some,Sum.elim_inl,aIp (c:=nth r i) (by omega) (λ k hk=>by have:=h3 k hk; omega),LC _ (show i < 4 by omega),fY (i:=i) (by omega)]
  congr 3
  refine List.ext_getElem? λ p=>?_
  unfold Ej
  rw [Int.toNat_natCast]
  have hg:=LG (nth r i)
  have hrl:=Rd (r.take i)
  have nt:∀ j,nth (r.take (i+1)) j=if j < i then nth r j else if j=i then nth r i else []:=λ j=>by
   by_cases hj:j < i+1
   ·rw [qP hj]
    by_cases h5:j < i
    ·rw [if_pos h5]
    ·rw [if_neg h5,if_pos (by omega),show j=i by omega]
   ·rw [if_neg (by omega),if_neg (by omega)]
    unfold nth
    rw [List.getD_eq_getElem?_getD,List.getElem?_eq_none (by rw [List.length_take]; omega)]
    rfl
  have nt0:∀ j,nth (r.take i) j=if j < i then nth r j else []:=λ j=>by
   by_cases hj:j < i
   ·rw [qP hj,if_pos hj]
   ·rw [if_neg hj]
    unfold nth
    rw [List.getD_eq_getElem?_getD,List.getElem?_eq_none (by rw [List.length_take]; omega)]
    rfl
  by_cases hp:p < 16
  ·rw [Zi _ hp,nt]
   by_cases c1:p < i * 4
   ·rw [List.getElem?_append_left (by rw [List.length_take]; omega),List.getElem?_take_of_lt c1,Zi _ hp,nt0,if_pos (by omega),if_pos (by omega)]
   ·have bK:((fK (r.take i)).take (i * 4)).length=i * 4:=by rw [List.length_take]; omega
    rw [List.getElem?_append_right (by omega),bK]
    by_cases c2:p < i * 4+4
    ·rw [List.getElem?_append_left (by omega)]
     have:=D1 (nth r i) (k:=p - i * 4) (by omega)
     rw [fJ] at this
     rw [this,if_neg (by omega),if_pos (by omega),show p % 4=p - i * 4 by omega]
    ·rw [List.getElem?_append_right (by omega),List.getElem?_drop,hg,show i * 4+4+(p - i * 4 - 4)=p by omega,Zi _ hp,nt0,if_neg (by omega),if_neg (by omega),if_neg (by omega)]
  ·rw [List.getElem?_eq_none (by rw [List.length_append,List.length_append,List.length_take,List.length_drop]; omega),List.getElem?_eq_none (by rw [Rd]; omega)]
 ·have hx:=h3 _ (ko hk)
  have hb:cL (nth (nth r i) k) 0 ((b.ax.length:Int) - 1)=true:=jN.2 (by omega)
  simp only [dec_lt hk,cV,fJ,df hk,Option.bind_some,W5 (m:=b.ax.length) (by omega),hb,Bool.true_eq_false,if_false,bne_self_eq_false,b8,if_true]
  by_cases Lw:0 < k
  ·have:=Qz h2 (i:=k - 1) (j:=k) (by omega) hk
   rw [YT Lw,cV,Qx (i:=k) (by omega) Lw,fJ,df (show k - 1 < (nth r i).length by omega),Option.bind_some,show decide (nth (nth r i) k≤nth (nth r i) (k - 1))=false by simp; omega,Option.bind_some,b8,fY (i:=k) (by omega)]
  ·rw [YS Lw,b8,Option.bind_some,b8,fY (i:=k) (by omega)]
end Go.Proofs.YtihapemckcdicaaGreatDoor
namespace Go.Proofs.YtihapemckcdicaaGreatDoor
open Go.Lg Go.Proofs
set_option maxRecDepth 10000
def ail(b:ao)(r:List (List Int))(i:Nat):Bool:=(List.range i).all λ j=>sB b j i || !meet (nth r i) (nth r j)
def ajM(b:ao)(r:List (List Int)):Bool:=(List.range b.av.length).all (ail b r)
theorem aU6{b:ao}(hv:Valid b){r:List (List Int)}{i:Nat}(hi:i < b.av.length)(hc:∀ k∈nth r i,0≤k∧k < (b.ax.length:Int)):xp b (fK r) (i:Int)=some (ail b r i):=by
 have hd:=hv.d4
 have hm:=hv.m4
 unfold xp ail
 rw [LP (n:=i) (λ j=>sB b j i || !meet (nth r i) (nth r j)) false (λ j hj=>?_) (by simp only [ja,b8])]
 ·cases (List.range i).all λ j=>sB b j i || !meet (nth r i) (nth r j) <;> rfl
 ·simp only [dec_lt hj,cV,ajl hv (show j < b.av.length by omega) hi,Option.bind_some]
  cases sB b j i with
  | true=>simp only [cV,Bool.true_or,if_true,fY (i:=j) (by omega)]
  | false =>
   simp only [b8,Bool.false_or]
   rw [LP (n:=b.ax.length) (λ k=>!((nth r j).contains (k:Int) && (nth r i).contains (k:Int))) false (λ k hk=>?_) (by simp only [ja,b8])]
   ·have e:((List.range b.ax.length).all λ k=>!((nth r j).contains (k:Int) && (nth r i).contains (k:Int)))=!meet (nth r i) (nth r j):=by
     rw [Bool.eq_iff_iff,Bool.not_eq_true',Ei,List.all_eq_true]
     constructor
     ·intro h k hk hk2
      have hb:=hc k hk
      have:=h k.toNat (by rw [List.mem_range]; omega)
      rw [Int.toNat_of_nonneg hb.1] at this
      simp [hk,hk2] at this
     ·intro h k _
      rw [Bool.not_eq_true',Bool.and_eq_false_iff]
      by_cases hk:(k:Int)∈nth r i
      ·exact .inl (by have:=h _ hk; simpa using this)
      ·exact .inr (by simpa using hk)
    rw [e]
    cases meet (nth r i) (nth r j) with
    | true=>rfl
    | false=>simp only [Bool.not_false,if_true,Option.bind_some,Sum.elim_inl,fY (i:=j) (by omega)]
   ·simp only [dec_lt hk,cV,LC _ (show j < 4 by omega),LC _ (show i < 4 by omega),Option.bind_some,D1 _ (show k < 4 by omega),fY (i:=k) (by omega)]
    cases (nth r j).contains (k:Int) <;> cases (nth r i).contains (k:Int) <;> rfl
def ag2(b:ao)(c:List Int)(r:List (List Int)):Bool:=(List.range b.av.length).all λ i=>(nth r i).all λ k=>xh b c k.toNat i
theorem aU7{b:ao}(hv:Valid b){r:List (List Int)}(hr:Zv b r){c:List Int}(hc:c.length=b.aM.length):Ba (oK c) b (fK r) (jQ b)=some (ag2 b c r):=by
 have hd:=hv.d4
 have hm:=hv.m4
 unfold Ba ag2
 rw [LP (n:=b.av.length) (λ i=>(nth r i).all λ k=>xh b c k.toNat i) false (λ i hi=>?_) (by simp only [ja,b8])]
 ·cases (List.range b.av.length).all λ i=>(nth r i).all λ k=>xh b c k.toNat i <;> rfl
 ·simp only [dec_lt hi,cV,LC _ (show i < 4 by omega),Option.bind_some]
  rw [LP (n:=4) (λ k=>!(nth r i).contains (k:Int) || xh b c k i) false (λ k hk=>?_) (by rw [show decide (((4:Nat):Int) < 4)=false from rfl,b8])]
  ·have e:((List.range 4).all λ k=>!(nth r i).contains ((k:Nat):Int) || xh b c k i)=(nth r i).all λ k=>xh b c k.toNat i:=by
    rw [Bool.eq_iff_iff,List.all_eq_true,List.all_eq_true]
    constructor
    ·intro h k hk
     have hb:=(hr.row i hi).2 k hk
     have:=h k.toNat (by rw [List.mem_range]; omega)
     rw [Int.toNat_of_nonneg hb.1] at this
     simpa [hk] using this
    ·intro h k _
     cases hk:(nth r i).contains (k:Int) with
     | false=>rfl
     | true =>
      rw [List.contains_iff_mem] at hk
      simpa using h _ hk
   rw [e]
   cases (nth r i).all λ k=>xh b c k.toNat i with
   | true=>simp only [if_true,Option.bind_some,Sum.elim_inl,fY (i:=i) (by omega)]
   | false=>rfl
  ·simp only [show decide ((k:Int) < 4)=true by simp; omega,cV,D1 _ hk,Option.bind_some]
   cases hkc:(nth r i).contains (k:Int) with
   | false=>simp only [b8,Bool.not_false,Bool.true_or,if_true,fY (i:=k) (by omega)]
   | true =>
    rw [List.contains_iff_mem] at hkc
    have hb:=(hr.row i hi).2 _ hkc
    rw [cV,show (jQ b).book=b from rfl,ahZ hv hc (show k < b.ax.length by omega) hi,Option.bind_some]
    cases xh b c k i with
    | true=>simp only [Bool.not_true,b8,Bool.or_true,if_true,fY (i:=k) (by omega)]
    | false=>rfl
def agT(b:ao)(r:List (List Int)):Int:=if ajM b r=true then G2 ((gA b).filter λ c=>ag2 b c r).length (gA b).length else 2
theorem aU9{b:ao}(hv:Valid b){r:List (List Int)}(h:YO b r):m32 b r=some (if gA b=[] then (0,9) else (agT b r,0)):=by
 have hd:=hv.d4
 unfold m32
 rw [aU4 hv.sm (g':=fK r) (own:=0) (λ _=>by unfold Hd; rw [aU5 hv h]; rfl),Option.bind_some,if_neg (show ¬ lR b≠0 by simp [D5.2 hv])]
 by_cases hc:gA b=[]
 ·rw [if_pos hc]
  unfold GX
  rw [ag4 hv,if_pos hc]
  rfl
 ·rw [if_neg hc]
  unfold GX agT ajM
  rw [aGp hv rfl hc]
  simp only [ne_eq,not_true_eq_false,if_false,bne_self_eq_false,b8]
  rw [LP (n:=b.av.length) (ail b r) (2,0) (λ i hi=>?_) (by simp only [ja,b8])]
  ·cases (List.range b.av.length).all (ail b r) with
   | false=>rfl
   | true =>
    simp only [if_true,Option.bind_some,Sum.elim_inl]
    rw [ahY hv (p:=λ c=>ag2 b c r) (λ c hc=>aU7 hv h.rows (ah3.1 hc).1.1),Option.bind_some,aOA]
    rfl
  ·simp only [dec_lt hi,cV,show (jQ b).book=b from rfl,aU6 hv hi (h.rows.row i hi).2,Option.bind_some,fY (i:=i) (by omega)]
   cases ail b r i <;> rfl
def ZA(b:ao)(i:Nat)(k:Int):Int:=G2 ((gA b).filter λ c=>xh b c k.toNat i).length (gA b).length
def aFP(b:ao)(r:List (List Int))(i:Nat)(k:Int):Bool:=(List.range i).all λ j=>!(nth r j).contains k || sB b i j
theorem aZJ{b:ao}(hv:Valid b){r:List (List Int)}(h:YO b r){i:Nat}(hi:i < b.av.length){k:Int}(_:k∈nth r i){j:Nat}(hj:(nth r i)[j]? = some k)(a0:Bool):bC (O:=(Bool ⊕ Bool)) (λ (r8:(Bool × Int)) =>
 aa (decide (r8.2 < (i:Int)))
 ((idx r r8.2).bind λ ahH =>
 (idx r (i:Int)).bind λ ain =>
 (idx ain (j:Int)).bind λ ahI =>
 (F1 ahH ahI).bind λ aio =>
 aa (!aio)
 (some (.inl (r8.1,i64 (r8.2+1))))
 ((zk b (i:Int) r8.2).bind λ P5 =>
 (zk b r8.2 (i:Int)).bind λ Zk =>
 (((aa (P5.2 != 0)
 (some true)
 (aa (Zk.2 != 0)
 (some true)
 (some (!(P5.1 == Zk.1))))):Option Bool)).bind (λ (ag1:Bool) =>
 aa ag1
 (some (.inr (.inr false)))
 (aa r8.1
 (some (.inl (P5.1,i64 (r8.2+1))))
 (some (.inl (false,i64 (r8.2+1))))))))
 (some (.inr (.inl r8.1)))) (a0,0)=some (.inl (a0 && aFP b r i k)):=by
 have hl:=h.len
 have Y7:=hv.d4
 have e0:(a0,(0:Int))=(λ q:Nat=>(a0 && (List.range q).all λ j=>!(nth r j).contains k || sB b i j,(q:Int))) 0:=by simp
 rw [e0]
 refine CK (λ q:Nat=>(a0 && (List.range q).all λ j=>!(nth r j).contains k || sB b i j,(q:Int))) i (λ q hq=>?_) (by simp only [ja,b8]; rfl)
 have hq2:q < b.av.length:=by omega
 have hrq:=(h.row q hq2).1
 have hmq:=(hv.dv hq2).rL
 have ap:∀ x y:Nat,x < b.av.length→y < b.av.length→GV b (x:Int) (y:Int)=(sB b x y,0):=λ x y hx hy=>by
  unfold GV
  rw [D5.2 hv,aGt.2 ⟨x,rfl,hx⟩,aGt.2 ⟨y,rfl,hy⟩]
  simp
 simp only [dec_lt hq,cV,fJ,df (show q < r.length by omega),df (show i < r.length by omega),hj,Option.bind_some,aS0 (l:=nth r q) (show (nth r q).length≤1000 by omega),fY (i:=q) (by omega),List.range_succ,List.all_append,List.all_cons,List.all_nil,Bool.and_true]
 cases a2h:(nth r q).contains k with
 | false =>
  simp only [Bool.not_false,cV,Bool.true_or,Bool.and_true]
 | true =>
  simp only [Bool.not_true,b8,aZX hv.sm,ap i q hi hq2,ap q i hq2 hi,Option.bind_some,bne_self_eq_false,aSK b q i,beq_self_eq_true,Bool.false_or,← Bool.and_assoc]
  cases (a0 && (List.range q).all λ j=>!(nth r j).contains k || sB b i j) <;> rfl
theorem aZD(b:ao)(l:List Int):m11 b l=some true:=by
 unfold m11
 rw [aBe,aDa,Option.bind_some]
 cases hg:Bp b with
 | true=>rfl
 | false =>
 by_cases h1:lR b=0
 case neg =>
  have:(lR b == 0)=false:=by simpa using h1
  rw [this]
  rfl
 have hs:=ZT hg
 have hv:=D5.1 h1
 have Y7:=hv.d4
 have hm4:=hv.m4
 simp only [h1,Bool.not_false,beq_self_eq_true,Bool.and_true,Bool.not_true,b8]
 obtain ⟨r,ok,hr,hp,_⟩:=aVb hv l
 rw [hr,Option.bind_some]
 cases ok with
 | false=>rfl
 | true =>
 have h:=hp rfl
 have hlen:=h.len
 simp only [Bool.not_true,b8,aU9 hv h,Option.bind_some]
 by_cases hc:gA b=[]
 ·rw [if_pos hc]; rfl
 rw [if_neg hc]
 simp only [bne_self_eq_false,b8]
 have may:∀ (i:Nat) (k:Int),i < b.av.length→k∈nth r i→tC b k (i:Int)=some (ZA b i k,0):=λ i k hi hk=>by
  have hb:=(h.row i hi).2.2 k hk
  rw [aTx hs]
  unfold aGf
  rw [h1,aOq.2 ⟨k.toNat,by omega,by omega⟩,aGt.2 ⟨i,rfl,hi⟩,if_neg hc]
  rfl
 rw [xg (o:=Sum.inl ((List.range b.av.length).all (λ i=>(nth r i).all (aFP b r i)),(List.range b.av.length).all (λ i=>(nth r i).all λ k=>ZA b i k == 1),(List.range b.av.length).any (λ i=>(nth r i).any λ k=>ZA b i k == 2))) ?_]
 ·have eA:(List.range b.av.length).all (λ i=>(nth r i).all (aFP b r i))=ajM b r:=by
   unfold ajM ail aFP
   rw [Bool.eq_iff_iff]
   simp only [List.all_eq_true,List.mem_range,Bool.or_eq_true,Bool.not_eq_true',Ei]
   constructor
   ·intro hh i hi j hj
    by_cases ha:sB b j i=true
    ·exact .inl ha
    ·refine .inr λ k hk hk2=>?_
     rcases hh i hi k hk j hj with h5 | h5
     ·rw [← Bool.not_eq_true,List.contains_iff_mem] at h5; exact h5 hk2
     ·rw [aSK] at h5; exact ha h5
   ·intro hh i hi k hk j hj
    rcases hh i hi j hj with h5 | h5
    ·right; rw [aSK]; exact h5
    ·left; rw [← Bool.not_eq_true,List.contains_iff_mem]; exact h5 k hk
  have eS:(List.range b.av.length).all (λ i=>(nth r i).all λ k=>ZA b i k == 1)=decide (∀ c∈gA b,ag2 b c r=true):=by
   rw [Bool.eq_iff_iff,decide_eq_true_eq]
   unfold ag2 ZA
   simp only [List.all_eq_true,List.mem_range,aFF hc,decide_eq_true_eq]
   exact ⟨λ hh c hcc i hi k hk=>hh i hi k hk c hcc,λ hh i hi k hk c hcc=>hh c hcc i hi k hk⟩
  have eV:(List.range b.av.length).any (λ i=>(nth r i).any λ k=>ZA b i k == 2)=true→∀ c∈gA b,ag2 b c r=false:=by
   unfold ZA
   simp only [List.any_eq_true,List.mem_range,aHh,decide_eq_true_eq]
   rintro ⟨i,hi,k,hk,hh⟩ c hcc
   unfold ag2
   rw [← Bool.not_eq_true]
   simp only [List.all_eq_true,List.mem_range]
   intro h6
   have:=h6 i hi k hk
   rw [hh c hcc] at this
   cases this
  simp only [Sum.elim_inl]
  rw [eA,eS]
  unfold agT
  cases ajM b r with
  | false=>simp [cV,b8]
  | true =>
   simp only [cV,if_true,aFF hc,beq_self_eq_true,aHh]
   cases hV:(List.range b.av.length).any (λ i=>(nth r i).any λ k=>ZA b i k == 2) with
   | false=>rfl
   | true =>
    rw [Bool.not_true,b8,decide_eq_true (eV hV)]
    rfl
 ·have e0:(true,true,false,(0:Int))=(λ i:Nat=>((List.range i).all (λ i=>(nth r i).all (aFP b r i)),(List.range i).all (λ i=>(nth r i).all λ k=>ZA b i k == 1),(List.range i).any (λ i=>(nth r i).any λ k=>ZA b i k == 2),(i:Int))) 0:=rfl
  rw [e0,← hlen]
  refine CK (λ i:Nat=>((List.range i).all (λ i=>(nth r i).all (aFP b r i)),(List.range i).all (λ i=>(nth r i).all λ k=>ZA b i k == 1),(List.range i).any (λ i=>(nth r i).any λ k=>ZA b i k == 2),(i:Int))) r.length (λ i hi=>?_) (by simp only [ja,b8])
  have Hp:i < b.av.length:=by omega
  have hrl:=(h.row i Hp).1
  have atd:=(hv.dv Hp).rL
  simp only [dec_lt hi,cV,List.range_succ,List.all_append,List.any_append,List.all_cons,List.all_nil,List.any_cons,List.any_nil,Bool.and_true,Bool.or_false]
  generalize (List.range i).all (λ i=>(nth r i).all (aFP b r i))=A0
  generalize (List.range i).all (λ i=>(nth r i).all λ k=>ZA b i k == 1)=S0
  generalize (List.range i).any (λ i=>(nth r i).any λ k=>ZA b i k == 2)=V0
  rw [xg (o:=Sum.inl (A0 && (nth r i).all (aFP b r i),S0 && (nth r i).all (λ k=>ZA b i k == 1),V0 || (nth r i).any λ k=>ZA b i k == 2)) ?_]
  ·simp only [Sum.elim_inl,fY (i:=i) (by omega)]
  ·have q0:(A0,S0,V0,(0:Int))=(λ j:Nat=>(A0 && ((nth r i).take j).all (aFP b r i),S0 && ((nth r i).take j).all (λ k=>ZA b i k == 1),V0 || ((nth r i).take j).any (λ k=>ZA b i k == 2),(j:Int))) 0:=by simp
   rw [q0]
   refine CK (λ j:Nat=>(A0 && ((nth r i).take j).all (aFP b r i),S0 && ((nth r i).take j).all (λ k=>ZA b i k == 1),V0 || ((nth r i).take j).any (λ k=>ZA b i k == 2),(j:Int))) (nth r i).length (λ j hj=>?_) (by simp only [fJ,df hi,Option.bind_some,ja,b8,List.take_length])
   have et:(nth r i).take (j+1)=(nth r i).take j++[nth (nth r i) j]:=by rw [List.take_add_one,df hj]; rfl
   have hk:=ko hj
   have nk:=df hj
   generalize nth (nth r i) j=k at et hk nk
   have lp:=aZJ hv h Hp hk nk
   simp only [fJ] at lp
   simp only [fJ,df hi,nk,Option.bind_some,dec_lt hj,cV,may i k Hp hk,bne_self_eq_false,b8,et,List.all_append,List.any_append,List.all_cons,List.all_nil,List.any_cons,List.any_nil,Bool.and_true,Bool.or_false,← Bool.and_assoc,← Bool.or_assoc]
   simp only [df hi,Option.bind_some,nk] at lp
   generalize (A0 && ((nth r i).take j).all (aFP b r i))=A1
   generalize (S0 && ((nth r i).take j).all λ k=>ZA b i k == 1)=S1
   generalize (V0 || ((nth r i).take j).any λ k=>ZA b i k == 2)=V1
   have lp1:=lp A1
   cases S1 <;> cases V1 <;> simp only [cV,b8,Option.bind_some,lp1,Sum.elim_inl,fY (i:=j) (by omega),Bool.true_and,Bool.false_and,Bool.true_or,Bool.false_or]
end Go.Proofs.YtihapemckcdicaaGreatDoor
