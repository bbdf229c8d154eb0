/- Plain laws of chapter 5, the rest. Conditions: none. -/
import Derived.Test.YtihapemckcdicaaGreatDoorR10StL
import Derived.Test.YtihapemckcdicaaGreatDoorQEStP
import Derived.Test.YtihapemckcdicaaGreatDoorQEStC
namespace Go.Proofs.YtihapemckcdicaaGreatDoor
open Go.Lg Go.Proofs
set_option maxRecDepth 10000
def lW(c:List Int):List Bool:=(List.range 4).map λ (k:Nat)=>c.contains (k:Int)
def fK(r:List (List Int)):List Bool:=(List.range 16).map λ p=>(nth r (p / 4)).contains ((p % 4:Nat):Int)
theorem Rd(r:List (List Int)):(fK r).length=16:=by simp [fK]
theorem Zi(r:List (List Int)){p:Nat}(hp:p < 16):(fK r)[p]? = some ((nth r (p / 4)).contains ((p % 4:Nat):Int)):=by
 unfold fK
 rw [List.getElem?_map,List.getElem?_range hp]
 rfl
theorem D1(c:List Int){k:Nat}(hk:k < 4):idx (lW c) (k:Int)=some (c.contains (k:Int)):=by
 unfold lW
 rw [fJ,List.getElem?_map,List.getElem?_range hk]
 rfl
theorem LC(r:List (List Int)){i:Nat}(hi:i < 4):gI 4 (fK r) (i:Int)=some (lW (nth r i)):=by
 match i,hi with
 | 0,_=>rfl
 | 1,_=>rfl
 | 2,_=>rfl
 | 3,_=>rfl
theorem aGj{r r':List (List Int)}(h:∀ i k:Nat,i < 4→k < 4→(nth r i).contains (k:Int)=(nth r' i).contains (k:Int)):fK r=fK r':=by
 unfold fK
 refine List.map_congr_left λ p hp=>?_
 rw [List.mem_range] at hp
 exact h (p / 4) (p % 4) (by omega) (by omega)
theorem ahF{r r':List (List Int)}{i k:Nat}(_:i < 4)(hk:k < 4){x:Bool}(h:∀ j m:Nat,j < 4→m < 4→(nth r' j).contains (m:Int)=if j=i∧m=k then x else (nth r j).contains (m:Int)):lM 4 (fK r) (i:Int) (k:Int) x=fK r':=by
 unfold lM
 rw [Int.toNat_natCast,Int.toNat_natCast]
 refine List.ext_getElem? λ p=>?_
 by_cases hp:p < 16
 ·rw [List.getElem?_set,Zi r' hp,Zi r hp,Rd,h (p / 4) (p % 4) (by omega) (by omega)]
  by_cases e:i * 4+k=p
  ·rw [if_pos e,if_pos (by omega),if_pos ⟨by omega,by omega⟩]
  ·rw [if_neg e,if_neg (λ hc=>e (by omega))]
 ·rw [List.getElem?_eq_none (by rw [List.length_set,Rd]; omega),List.getElem?_eq_none (by rw [Rd]; omega)]
theorem ahE(p:List (List Int)):fK (p++[[]])=fK p:=aGj λ i k _ _=>by
 by_cases h:i < p.length
 ·rw [zc h]
 ·have e1:nth p i=[]:=by unfold nth; rw [List.getD_eq_getElem?_getD,List.getElem?_eq_none (by omega)]; rfl
  have e2:nth (p++[[]]) i=[]:=by
   by_cases h2:i=p.length
   ·subst h2; exact zn
   ·unfold nth; rw [List.getD_eq_getElem?_getD,List.getElem?_eq_none (by simp; omega)]; rfl
  rw [e1,e2]
def xh(b:ao)(c:List Int)(k i:Nat):Bool:=decide (nth c (nth b.av i).Place.toNat≤(nth b.ax k).mg) && decide ((nth b.av i).gR≤xj b (nth c (nth b.av i).Place.toNat))
theorem ahZ{b:ao}(hv:Valid b){c:List Int}(hc:c.length=b.aM.length){k i:Nat}(hk:k < b.ax.length)(hi:i < b.av.length):yq b (oK c) (k:Int) (i:Int)=some (xh b c k i):=by
 have hp:=(hv.dv hi).place
 unfold yq xh
 have e:idx (oK c).deep (nth b.av i).Place=some (nth c (nth b.av i).Place.toNat):=by
  have:=aE4 hv hc (i:=(nth b.av i).Place.toNat) (by omega)
  rwa [Int.toNat_of_nonneg hp.1] at this
 simp only [fJ,df hi,df hk,Option.bind_some,e,ajk (show b.Rows.length≤20 by have:=hv.r4; omega)]
 cases decide (nth c (nth b.av i).Place.toNat≤(nth b.ax k).mg) <;> rfl
def re(b:ao)(i k:Nat):Bool:=(gA b).all λ c=>xh b c k i
def sj(b:ao):List Bool:=(List.range 16).map λ p=>if p / 4 < b.av.length∧p % 4 < b.ax.length then re b (p / 4) (p % 4) else false
theorem aF8{b:ao}(hv:Valid b){i k:Nat}(hi:i < b.av.length)(hk:k < b.ax.length):qR (jQ b) i k=some (re b i k):=by
 unfold qR
 rw [ahY hv (p:=λ c=>xh b c k i) (λ c hc=>by unfold zb; rw [show (jQ b).book=b from rfl,ahZ hv (ah3.1 hc).1.1 hk hi]; rfl),Option.bind_some]
 congr 1
 rw [show ((jQ b).fi.length:Int)=((gA b).length:Int) by simp [jQ],Bool.eq_iff_iff,beq_iff_eq]
 unfold re
 rw [List.all_eq_true]
 constructor
 ·intro h
  have h:((gA b).filter λ c=>xh b c k i).length=(gA b).length:=by omega
  rw [List.length_filter_eq_length_iff] at h
  exact h
 ·intro h
  have:((gA b).filter λ c=>xh b c k i).length=(gA b).length:=List.length_filter_eq_length_iff.2 h
  omega
theorem mapM_some{α β:Type}{f:α→Option β}{g:α→β}:∀ {l:List α},(∀ x∈l,f x=some (g x))→l.mapM f=some (l.map g)
 | [],_=>rfl
 | a::l,h=>by
  rw [List.mapM_cons,h a (by simp),mapM_some λ x hx=>h x (by simp [hx])]
  rfl
theorem Z1{b:ao}(hv:Valid b):tB (jQ b)=some (sj b):=by
 unfold tB sj
 rw [show (jQ b).book=b from rfl,if_pos ⟨⟨hv.d1,hv.d4⟩,hv.m1,hv.m4⟩]
 refine mapM_some λ p _=>?_
 by_cases h:p / 4 < b.av.length∧p % 4 < b.ax.length
 ·rw [if_pos h,if_pos h,aF8 hv h.1 h.2]
 ·rw [if_neg h,if_neg h]
theorem aFO{b:ao}{i:Nat}(hi:i < 4):∃ g,gI 4 (sj b) (i:Int)=some g∧∀ k:Nat,k < 4→idx g (k:Int)=some (if i < b.av.length∧k < b.ax.length then re b i k else false):=by
 have e:gI 4 (sj b) (i:Int)=some ((List.range 4).map λ k=>if i < b.av.length∧k < b.ax.length then re b i k else false):=by
  match i,hi with
  | 0,_=>rfl
  | 1,_=>rfl
  | 2,_=>rfl
  | 3,_=>rfl
 refine ⟨_,e,λ k hk=>?_⟩
 rw [fJ,List.getElem?_map,List.getElem?_range hk]
 rfl
def gv(b:ao)(g:List Bool)(o:Nat):RB:=⟨b.ax.length,b.av.length,λ i=>(nth b.av i).ax.toNat,λ i k=>nth g k && re b i k,sB b,λ i=>o.testBit i⟩
set_option maxRecDepth 1000000 in
theorem aFS:((List.range 16).all λ x=>(List.range 5).all λ i=>((kU .i64 x i).bind λ y=>fH .and .i64 y 1) == some (if x.testBit i then 1 else 0))=true:=by decide +kernel
theorem aFR{x i:Nat}(h:x < 16)(hi:i < 5):(kU .i64 (x:Int) (i:Int)).bind (λ y=>fH .and .i64 y 1)=some (if x.testBit i then 1 else 0):=by
 have:=aFS
 simp only [List.all_eq_true,List.mem_range,beq_iff_eq] at this
 exact this x h i hi
theorem aGb{b:ao}(hv:Valid b){pre:List (List Int)}{c:List Int}(hi:pre.length < b.av.length)(hc:∀ k∈c,0≤k∧k < (b.ax.length:Int))(g:List Bool)(o:Nat):xp b (fK (pre++[c])) (pre.length:Int)=some (Bi (gv b g o) pre pre.length c):=by
 have hd:=hv.d4
 have hm:=hv.m4
 unfold xp Bi
 rw [LP (n:=pre.length) (λ j=>(gv b g o).ap j pre.length || !meet c (nth pre j)) false (λ j hj=>?_) (by simp only [ja,b8])]
 ·cases (List.range pre.length).all λ j=>(gv b g o).ap j pre.length || !meet c (nth pre j) <;> rfl
 ·simp only [dec_lt hj,cV,ajl hv (show j < b.av.length by omega) hi,Option.bind_some,show (gv b g o).ap j pre.length=sB b j pre.length from rfl]
  cases sB b j pre.length with
  | true=>simp only [cV,Bool.true_or,if_true,fY (i:=j) (by omega)]
  | false =>
   simp only [b8,Bool.false_or]
   rw [LP (n:=b.ax.length) (λ k=>!((nth pre j).contains (k:Int) && c.contains (k:Int))) false (λ k hk=>?_) (by simp only [ja,b8])]
   ·have e:((List.range b.ax.length).all λ k=>!((nth pre j).contains (k:Int) && c.contains (k:Int)))=!meet c (nth pre j):=by
     rw [Bool.eq_iff_iff,Bool.not_eq_true',Ei,List.all_eq_true]
     constructor
     ·intro h k hk hk2
      have hb:=hc k hk
      have:=h k.toNat (by rw [List.mem_range]; omega)
      rw [Int.toNat_of_nonneg hb.1] at this
      simp [hk,hk2] at this
     ·intro h k _
      rw [Bool.not_eq_true',Bool.and_eq_false_iff]
      by_cases hk:(k:Int)∈c
      ·exact .inl (by have:=h _ hk; simpa using this)
      ·exact .inr (by simpa using hk)
    rw [e]
    cases meet c (nth pre j) with
    | true=>rfl
    | false=>simp only [Bool.not_false,if_true,Option.bind_some,Sum.elim_inl,fY (i:=j) (by omega)]
   ·simp only [dec_lt hk,cV,LC _ (show j < 4 by omega),LC _ (show pre.length < 4 by omega),Option.bind_some,D1 _ (show k < 4 by omega),zc hj,zn,fY (i:=k) (by omega)]
    cases (nth pre j).contains (k:Int) <;> cases c.contains (k:Int) <;> rfl
theorem aGi{β:Type}(n k0:Nat)(h:k0≤n)(p:Nat→Bool)(f:Nat→List β):((List.range n).filter λ m=>p m && decide (k0≤m)).flatMap f=(List.range (n - k0)).flatMap λ j=>if p (k0+j)=true then f (k0+j) else []:=by
 obtain ⟨d,rfl⟩:∃ d,n=k0+d:=⟨n - k0,by omega⟩
 rw [List.range_add,List.filter_append,List.flatMap_append]
 have e1:((List.range k0).filter λ m=>p m && decide (k0≤m))=[]:=by
  rw [List.filter_eq_nil_iff]
  intro m hm
  rw [List.mem_range] at hm
  simp only [Bool.and_eq_true,decide_eq_true_eq,not_and]
  omega
 rw [e1,List.flatMap_nil,List.nil_append,Nat.add_sub_cancel_left,List.filter_map,List.flatMap_map,← aFw]
 rw [List.flatMap_assoc]
 congr 1
 funext j
 simp only [Function.comp_apply,Nat.le_add_right,decide_true,Bool.and_true]
 cases p (k0+j) <;> simp
def DZ(c:List Int)(k0:Nat):Prop:=∀ m:Nat,(c.all λ x=>decide (x < (m:Int)))=decide (k0≤m)
theorem aFX:DZ [] 0:=λ m=>by simp
theorem DZ.snoc{c:List Int}{k0 k:Nat}(h:DZ c k0)(hk:k0≤k):DZ (c++[(k:Int)]) (k+1):=λ m=>by
 rw [List.all_append,h m,Bool.eq_iff_iff]
 simp only [List.all_cons,List.all_nil,Bool.and_true,Bool.and_eq_true,decide_eq_true_eq]
 omega
abbrev aFT(A:RB)(i:Nat):Nat→List Int→List Int:=λ _ p=>G0 A.n (A.ok i) p
theorem aFU{A:RB}{i:Nat}{c:List Int}{k0:Nat}(hf:DZ c k0)(h:k0≤A.n){β:Type}(f:Int→List β):(G0 A.n (A.ok i) c).flatMap f=(List.range (A.n - k0)).flatMap λ j=>if A.ok i (k0+j)=true then f ((k0+j:Nat):Int) else []:=by
 unfold G0 ny
 rw [List.filter_map,List.flatMap_map,← aGi A.n k0 h (A.ok i) λ m=>f (m:Int)]
 congr 1
 refine List.filter_congr λ m _=>?_
 simp only [Function.comp_apply,Int.toNat_natCast,hf m]
def zt(A:RB)(d:Nat)(pre:List (List Int))(left:Nat)(c:List Int):List (List Bool) :=
 (((tree (aFT A pre.length) left c.length c).filter (Bi A pre pre.length)).flatMap λ c'=>tree (sw A) d (pre.length+1) (pre++[c'])).map fK
def uj(A:RB)(d:Nat)(pre:List (List Int)):List (List Bool):=(tree (sw A) d pre.length pre).map fK
theorem aFZ{A:RB}{d:Nat}{pre:List (List Int)}(h:A.out pre.length=true):uj A (d+1) pre=uj A d (pre++[[]]):=by
 unfold uj
 simp only [tree,sw,h,if_true,List.flatMap_cons,List.flatMap_nil,List.append_nil,List.length_append,List.length_cons,List.length_nil]
theorem aFY{A:RB}{d:Nat}{pre:List (List Int)}(h:A.out pre.length=false):uj A (d+1) pre=zt A d pre (A.need pre.length) []:=by
 unfold uj zt
 simp only [tree,sw,h,Bool.false_eq_true,if_false,List.length_nil]
 rw [Y2]
 rfl
theorem aGg{A:RB}{d:Nat}{pre:List (List Int)}{c:List Int}:zt A d pre 0 c=if Bi A pre pre.length c=true then uj A d (pre++[c]) else []:=by
 unfold zt uj
 simp only [tree,List.filter_cons,List.filter_nil,List.length_append,List.length_cons,List.length_nil]
 split <;> simp
theorem aGh{A:RB}{d:Nat}{pre:List (List Int)}{c:List Int}{left k0:Nat}(hf:DZ c k0)(h:k0≤A.n):zt A d pre (left+1) c=(List.range (A.n - k0)).flatMap λ j=>if A.ok pre.length (k0+j)=true then zt A d pre left (c++[((k0+j:Nat):Int)]) else []:=by
 unfold zt
 simp only [tree]
 rw [aFU (A:=A) (i:=pre.length) hf h]
 simp only [List.filter_flatMap,List.flatMap_assoc,List.map_flatMap]
 congr 1
 funext j
 split <;> simp
theorem aGd{b:ao}(hv:Valid b){g:List Bool}(hg:g.length=4){o:Nat}(ho:o < 16){S:Type}(ys:List Bool→S→Option (S × Bool)):∀ d:Nat,
  (∀ (pre:List (List Int)) (f:Nat) (s:S) (r:S × Bool),pre.length+d=b.av.length→5 * d < f→kQ ys (uj (gv b g o) d pre) s=some r→(kT ys f).1 (fK pre) (pre.length:Int) (jQ b) (o:Int) g (sj b) s=some r) ∧
  (∀ (left:Nat) (pre:List (List Int)) (c:List Int) (k0 f:Nat) (s:S) (r:S × Bool),pre.length+d+1=b.av.length→5 * d+left+1 < f→DZ c k0→k0≤b.ax.length→(∀ k∈c,0≤k∧k < (b.ax.length:Int))→left≤3→kQ ys (zt (gv b g o) d pre left c) s=some r →
   (kT ys f).2 (fK (pre++[c])) (pre.length:Int) (k0:Int) (left:Int) (jQ b) (o:Int) g (sj b) s=some r):=by
 have hd:=hv.d4
 have hm:=hv.m4
 have two:∀ d:Nat,(∀ (pre:List (List Int)) (f:Nat) (s:S) (r:S × Bool),pre.length+d=b.av.length→5 * d < f→kQ ys (uj (gv b g o) d pre) s=some r→(kT ys f).1 (fK pre) (pre.length:Int) (jQ b) (o:Int) g (sj b) s=some r) →
   (∀ (left:Nat) (pre:List (List Int)) (c:List Int) (k0 f:Nat) (s:S) (r:S × Bool),pre.length+d+1=b.av.length→5 * d+left+1 < f→DZ c k0→k0≤b.ax.length→(∀ k∈c,0≤k∧k < (b.ax.length:Int))→left≤3→kQ ys (zt (gv b g o) d pre left c) s=some r →
   (kT ys f).2 (fK (pre++[c])) (pre.length:Int) (k0:Int) (left:Int) (jQ b) (o:Int) g (sj b) s=some r):=by
  intro d one left
  induction left with
  | zero =>
   intro pre c k0 f s r hl hf sf Lw hc _ hr
   obtain ⟨f,rfl⟩:∃ f',f=f'+1:=⟨f - 1,by omega⟩
   unfold kT
   simp only [Int.natCast_zero,beq_self_eq_true,cV]
   rw [show (jQ b).book=b from rfl,aGb hv (by omega) hc g o,Option.bind_some]
   rw [aGg] at hr
   cases ahg:Bi (gv b g o) pre pre.length c with
   | false =>
    rw [ahg] at hr
    simp only [Bool.false_eq_true,if_false,kQ,Option.some.injEq] at hr
    subst hr
    rfl
   | true =>
    rw [ahg,if_pos rfl] at hr
    have:=one (pre++[c]) f s r (by simp; omega) (by omega) hr
    rw [show (((pre++[c]).length:Nat):Int)=((pre.length+1:Nat):Int) by simp] at this
    simp only [Bool.not_true,b8,fY (i:=pre.length) (by omega),this,Option.bind_some]
  | succ left ih =>
   intro pre c k0 f s r hl hf sf Lw hc h3 hr
   obtain ⟨f,rfl⟩:∃ f',f=f'+1:=⟨f - 1,by omega⟩
   unfold kT
   simp only [show (((left+1:Nat):Int) == 0)=false by simp; omega,b8,show (jQ b).book=b from rfl]
   rw [aGh (A:=gv b g o) sf Lw,List.range_eq_range'] at hr
   obtain ⟨gr,hgr,hgk⟩:=aFO (b:=b) (i:=pre.length) (by omega)
   refine Exists.elim (YK (ys:=ys) (S:=S) (X:=Int × List Bool) (O:=S ⊕ (S × Bool)) (λ j=>if (gv b g o).ok pre.length (k0+j)=true then zt (gv b g o) d pre left (c++[((k0+j:Nat):Int)]) else []) ((gv b g o).n - k0)
    (λ j x=>x=(((k0+j:Nat):Int),fK (pre++[c]))) (λ s o=>o = .inl s) (λ s o=>o = .inr (s,false)) (body:=λ (bF:(S × Int × (List Bool))) =>
  aa (decide (bF.2.1 < (b.ax.length:Int)))
  (((((idx g bF.2.1).bind λ zi =>
  aa (!zi)
  (some true)
  ((gI 4 (sj b) (pre.length:Int)).bind λ tF =>
  (idx tF bF.2.1).bind λ zj =>
  some (!zj))):Option Bool)).bind (λ (A8:Bool) =>
  aa A8
  (some (.inl (bF.1,i64 (bF.2.1+1),bF.2.2)))
  ((gI 4 bF.2.2 (pre.length:Int)).bind λ GZ =>
  (idx GZ bF.2.1).bind λ gZ =>
  ((kT ys f).2 (lM 4 bF.2.2 (pre.length:Int) bF.2.1 true) (pre.length:Int) (i64 (bF.2.1+1)) (i64 (((left+1:Nat):Int) - 1)) (jQ b) (o:Int) g (sj b) bF.1).bind λ lQ =>
  aa (!lQ.2)
  (some (.inr (.inr (lQ.1,false))))
  ((gI 4 (lM 4 bF.2.2 (pre.length:Int) bF.2.1 true) (pre.length:Int)).bind λ vE =>
  (idx vE bF.2.1).bind λ YM =>
  some (.inl (lQ.1,i64 (bF.2.1+1),lM 4 (lM 4 bF.2.2 (pre.length:Int) bF.2.1 true) (pre.length:Int) bF.2.1 false))))))
  (some (.inr (.inl bF.1)))) (λ j s x r hj hI hr=>?_) (λ s x hI=>?_) ((gv b g o).n - k0) 0 s ((k0:Int),fK (pre++[c])) r (by omega) rfl hr) ?_
   ·subst hI
    have iO:k0+j < b.ax.length:=by have:(gv b g o).n=b.ax.length:=rfl; omega
    have YW:idx g ((k0+j:Nat):Int)=some (nth g (k0+j)):=by rw [fJ]; exact df (by omega)
    have hai:=hgk (k0+j) (by omega)
    rw [if_pos ⟨by omega,iO⟩] at hai
    have gJ:(gv b g o).ok pre.length (k0+j)=(nth g (k0+j) && re b pre.length (k0+j)):=rfl
    simp only [dec_lt iO,cV,YW,Option.bind_some,hgr,hai,fY (i:=k0+j) (by omega)]
    cases GM:(nth g (k0+j) && re b pre.length (k0+j)) with
    | false =>
     rw [gJ,GM] at hr
     simp only [Bool.false_eq_true,if_false,kQ,Option.some.injEq] at hr
     subst hr
     simp only [if_true]
     refine ⟨_,?_,rfl⟩
     rw [Bool.and_eq_false_iff] at GM
     rcases GM with h | h
     ·rw [h]; rfl
     ·rw [h]
      cases nth g (k0+j) <;> rfl
    | true =>
     rw [gJ,GM,if_pos rfl] at hr
     rw [Bool.and_eq_true] at GM
     have hnc:¬ ((k0+j:Nat):Int)∈c:=λ mE=>by
      have:=sf (k0+j)
      rw [decide_eq_true (by omega:k0≤k0+j),List.all_eq_true] at this
      have:=this _ mE
      simp at this
     have cont:∀ j' m:Nat,(nth (pre++[c++[((k0+j:Nat):Int)]]) j').contains (m:Int)=if j'=pre.length∧m=k0+j then true else (nth (pre++[c]) j').contains (m:Int):=by
      intro j' m
      by_cases e:j'=pre.length
      ·subst e
       rw [zn,zn]
       by_cases em:m=k0+j
       ·rw [if_pos ⟨rfl,em⟩,em]; simp
       ·rw [if_neg (λ h=>em h.2),Bool.eq_iff_iff,List.contains_iff_mem,List.contains_iff_mem,List.mem_append,List.mem_singleton]
        exact ⟨λ h=>h.resolve_right (by omega),.inl⟩
      ·rw [if_neg (λ h=>e h.1)]
       by_cases e2:j' < pre.length
       ·rw [zc e2,zc e2]
       ·have q:∀ z:List Int,nth (pre++[z]) j'=[]:=λ z=>by unfold nth; rw [List.getD_eq_getElem?_getD,List.getElem?_eq_none (by simp; omega)]; rfl
        rw [q,q]
     have s1:lM 4 (fK (pre++[c])) (pre.length:Int) ((k0+j:Nat):Int) true=fK (pre++[c++[((k0+j:Nat):Int)]]):=ahF (by omega) (by omega) λ j' m _ _=>cont j' m
     have s2:lM 4 (fK (pre++[c++[((k0+j:Nat):Int)]])) (pre.length:Int) ((k0+j:Nat):Int) false=fK (pre++[c]):=ahF (by omega) (by omega) λ j' m _ _=>by
      rw [cont j' m]
      by_cases e:j'=pre.length∧m=k0+j
      ·rw [if_pos e,e.1,e.2,zn]
       simpa using hnc
      ·rw [if_neg e,if_neg e]
     have aF4:=ih pre (c++[((k0+j:Nat):Int)]) (k0+j+1) f s r hl (by omega) (sf.snoc (by omega)) (by omega) (λ k hk=>by
      rw [List.mem_append,List.mem_singleton] at hk
      rcases hk with hk | rfl
      ·exact hc k hk
      ·omega) (by omega) hr
     simp only [GM.1,GM.2,Bool.not_true,b8,Option.bind_some,LC _ (show pre.length < 4 by omega),D1 _ (show k0+j < 4 by omega),s1,Qx (i:=left+1) (by omega) (by omega),Nat.add_sub_cancel,aF4,s2]
     cases hr2:r.2 with
     | true=>exact ⟨(((k0+(j+1):Nat):Int),fK (pre++[c])),by simp only [Bool.not_true,b8,Nat.add_assoc],rfl⟩
     | false=>exact ⟨.inr (r.1,false),by simp only [Bool.not_false,cV],rfl⟩
   ·subst hI
    refine ⟨.inl s,?_,rfl⟩
    rw [show k0+((gv b g o).n - k0)=b.ax.length from by have:(gv b g o).n=b.ax.length:=rfl; omega]
    simp only [ja,b8]
   ·rintro q ⟨hq,eR⟩
    have YX:=hq
    refine (xg YX).trans ?_
    split at eR
    ·rename_i h2; subst eR
     obtain ⟨r1,r2⟩:=r
     simp only at h2
     subst h2
     rfl
    ·rename_i h2; subst eR
     obtain ⟨r1,r2⟩:=r
     simp only [Bool.not_eq_true] at h2
     subst h2
     rfl
 intro d
 induction d with
 | zero =>
  have one:∀ (pre:List (List Int)) (f:Nat) (s:S) (r:S × Bool),pre.length+0=b.av.length→5 * 0 < f→kQ ys (uj (gv b g o) 0 pre) s=some r→(kT ys f).1 (fK pre) (pre.length:Int) (jQ b) (o:Int) g (sj b) s=some r:=by
   intro pre f s r hl hf hr
   obtain ⟨f,rfl⟩:∃ f',f=f'+1:=⟨f - 1,by omega⟩
   simp only [uj,tree,List.map_cons,List.map_nil,kQ] at hr
   obtain ⟨q,hq,hr⟩:=aj hr
   unfold kT
   simp only
   rw [show (jQ b).book=b from rfl,show ((pre.length:Int) == (b.av.length:Int))=true by simp; omega,cV,hq,Option.bind_some]
   obtain ⟨q1,q2⟩:=q
   cases q2 <;> simpa using hr
  exact ⟨one,two 0 one⟩
 | succ d ih =>
  have one:∀ (pre:List (List Int)) (f:Nat) (s:S) (r:S × Bool),pre.length+(d+1)=b.av.length→5 * (d+1) < f→kQ ys (uj (gv b g o) (d+1) pre) s=some r→(kT ys f).1 (fK pre) (pre.length:Int) (jQ b) (o:Int) g (sj b) s=some r:=by
   intro pre f s r hl hf hr
   obtain ⟨f,rfl⟩:∃ f',f=f'+1:=⟨f - 1,by omega⟩
   have hi:pre.length < b.av.length:=by omega
   have hb:=aFR (x:=o) (i:=pre.length) ho (by omega)
   obtain ⟨y,hy,hb⟩:=aj hb
   unfold kT
   simp only
   rw [show (jQ b).book=b from rfl,show ((pre.length:Int) == (b.av.length:Int))=false by simp; omega,b8,hy,Option.bind_some,hb,Option.bind_some]
   cases rZ:o.testBit pre.length with
   | true =>
    rw [aFZ (A:=gv b g o) rZ] at hr
    have:=ih.1 (pre++[[]]) f s r (by simp; omega) (by omega) hr
    rw [ahE,show (pre++[([]:List Int)]).length=pre.length+1 by simp] at this
    simp only [if_true,beq_self_eq_true,cV,fY (i:=pre.length) (by omega),this,Option.bind_some]
   | false =>
    rw [aFY (A:=gv b g o) rZ] at hr
    have atd:=(hv.dv hi).rL
    have:=ih.2 (nth b.av pre.length).ax.toNat pre [] 0 f s r (by omega) (by omega) aFX (by omega) (by simp) (by omega) hr
    rw [ahE,Int.toNat_of_nonneg (by omega)] at this
    simp only [Bool.false_eq_true,if_false,show ((0:Int) == 1)=false from rfl,b8,fJ,df hi,Option.bind_some]
    rw [show ((0:Nat):Int)=0 from rfl] at this
    rw [this]
    rfl
  exact ⟨one,two (d+1) one⟩
end Go.Proofs.YtihapemckcdicaaGreatDoor
namespace Go.Proofs.YtihapemckcdicaaGreatDoor
open Go.Lg Go.Proofs
set_option maxRecDepth 10000
theorem aFV{n need:Nat}{ok:Nat→Bool}(hn:n≤4):(A6 n need ok).length≤16:=by
 have h:=ajj (l:=A6 n need ok) (m:=(List.range (2 ^ n)).map (cJ n)) id (agS Re (agJ n need ok)) (λ x _ y _ h=>h) (λ c hc=>by
  have h1:=qX.1 hc
  obtain ⟨a,ha,e⟩:=aBs h1.2.1 (λ k hk=>⟨(h1.2.2 k hk).1,(h1.2.2 k hk).2.1⟩)
  exact List.mem_map.2 ⟨a,List.mem_range.2 ha,e.symm⟩)
 rw [List.length_map,List.length_range] at h
 exact Nat.le_trans h (Z6 (by omega))
theorem ahC{α:Type}{ext:Nat→List α→List α}{m:Nat}(h:∀ i p,(ext i p).length≤m):∀ n,(lvl ext n).length≤m ^ n
 | 0=>by simp [lvl]
 | n+1=>by
  have ih:=ahC h n
  simp only [lvl]
  refine Nat.le_trans (YH _ m (λ a=>by rw [List.length_map]; exact h _ _) _) ?_
  rw [Nat.pow_succ]
  exact Nat.mul_le_mul_right m ih
theorem aGk{A:RB}(hn:A.n≤4)(hd:A.D≤4):(r7 A).length≤65536:=by
 refine Nat.le_trans (ahC (m:=16) (λ i p=>?_) A.D) ?_
 ·unfold sw
  split
  ·simp
  ·exact Nat.le_trans (List.length_filter_le _ _) (aFV hn)
 ·calc 16 ^ A.D≤16 ^ 4:=Nat.pow_le_pow_right (by omega) hd
   _=65536:=by decide
theorem YL{b:ao}(hv:Valid b){g:List Bool}(hg:g.length=4){o:Nat}(ho:o < 16){S:Type}(ys:List Bool→S→Option (S × Bool)){s:S}{r:S × Bool}(hr:kQ ys ((r7 (gv b g o)).map fK) s=some r) :
  qk ys (jQ b) (o:Int) g (sj b) s=some r.1:=by
 unfold qk
 have h:=(aGd hv hg ho ys b.av.length).1 [] 40 s r (by simp) (by have:=hv.d4; omega) (by
  unfold uj
  rw [List.length_nil,show tree (sw (gv b g o)) b.av.length 0 []=r7 (gv b g o) from Y2 _ _]
  exact hr)
 have e:fK []=[false,false,false,false,false,false,false,false,false,false,false,false,false,false,false,false]:=rfl
 rw [List.length_nil,Int.natCast_zero,e] at h
 rw [h]
 rfl
def oJ(b:ao):List Bool:=lW (ny b.ax.length)
theorem Zw(b:ao):(oJ b).length=4:=by simp [oJ,lW]
theorem LG(c:List Int):(lW c).length=4:=by simp [lW]
theorem apS(c:List Int){k:Nat}(hk:k < 4):nth (lW c) k=c.contains (k:Int):=by
 have h:=D1 c hk
 rw [fJ] at h
 rw [df (by rw [LG]; exact hk)] at h
 exact Option.some.inj h
theorem ahP{c:List Int}{k:Nat}(hk:k < 4):(lW c).set k true=lW (c++[(k:Int)]):=by
 refine List.ext_getElem? λ p=>?_
 by_cases hp:p < 4
 ·rw [List.getElem?_set,LG]
  have e:∀ d:List Int,(lW d)[p]? = some (d.contains (p:Int)):=λ d=>by have:=D1 d hp; rwa [fJ] at this
  rw [e,e]
  by_cases h:k=p
  ·subst h
   rw [if_pos rfl,if_pos hk]
   simp
  ·rw [if_neg h]
   congr 1
   rw [Bool.eq_iff_iff,List.contains_iff_mem,List.contains_iff_mem,List.mem_append,List.mem_singleton]
   exact ⟨.inl,λ h2=>h2.resolve_right (by omega)⟩
 ·rw [List.getElem?_eq_none (by rw [List.length_set,LG]; omega),List.getElem?_eq_none (by rw [LG]; omega)]
theorem aIp{c:List Int}(hl:c.length≤100)(hc:∀ k∈c,0≤k∧k < 4):zD c=some (lW c):=by
 unfold zD
 refine (xg (o:=lW c) ?_).trans rfl
 have e0:((0:Int),[false,false,false,false])=(λ i:Nat=>((i:Int),lW (c.take i))) 0:=rfl
 rw [e0]
 refine CK (λ i:Nat=>((i:Int),lW (c.take i))) c.length (λ i hi=>?_) (by simp only [ja,b8,List.take_length])
 have hm:=hc _ (ko hi)
 have e:c.take (i+1)=c.take i++[nth c i]:=by rw [List.take_add_one,df hi]; rfl
 generalize nth c i=x at hm e
 obtain ⟨k,rfl⟩:=Int.eq_ofNat_of_zero_le hm.1
 have hx:c[i]? = some (k:Int):=by
  have h2:=congrArg List.getLast? e
  rw [List.getLast?_append] at h2
  rw [List.take_add_one] at e
  have:=List.append_cancel_left e
  cases h3:c[i]? with
  | none=>rw [h3] at this; cases this
  | some y=>rw [h3] at this; simpa using this
 simp only [dec_lt hi,cV,fJ,hx,Option.bind_some,fY (i:=i) (by omega),Int.toNat_natCast]
 have hk:k < 4:=by omega
 have:=D1 (c.take i) hk
 rw [fJ] at this
 rw [this,Option.bind_some,ahP hk,← e]
theorem Z2{b:ao}(hv:Valid b):vC b=some (oJ b):=by
 have hm:=hv.m4
 unfold vC oJ
 refine (xg (o:=lW (ny b.ax.length)) ?_).trans rfl
 have e0:((0:Int),[false,false,false,false])=(λ i:Nat=>((i:Int),lW (ny i))) 0:=rfl
 rw [e0]
 refine CK (λ i:Nat=>((i:Int),lW (ny i))) b.ax.length (λ i hi=>?_) (by simp only [ja,b8])
 have:=D1 (ny i) (show i < 4 by omega)
 simp only [dec_lt hi,cV,this,Option.bind_some,fY (i:=i) (by omega),Int.toNat_natCast,ahP (show i < 4 by omega),aEh]
theorem aS5{c:List Int}{n:Nat}(hn:n≤4)(ha:c.Pairwise (· < ·))(hc:∀ k∈c,0≤k∧k < (n:Int)):((List.range 4).filter λ k=>c.contains ((k:Nat):Int)).map (λ (k:Nat)=>(k:Int))=c:=by
 refine YP _ _ ?_ ha λ x=>?_
 ·rw [List.pairwise_map]
  exact (List.pairwise_lt_range.filter _).imp λ h=>by omega
 ·simp only [List.mem_map,List.mem_filter,List.mem_range,List.contains_iff_mem]
  constructor
  ·rintro ⟨k,⟨_,h⟩,rfl⟩; exact h
  ·intro h; have:=hc x h; exact ⟨x.toNat,⟨by omega,by rwa [Int.toNat_of_nonneg this.1]⟩,Int.toNat_of_nonneg this.1⟩
structure Zv (b:ao) (r:List (List Int)):Prop where
 len:r.length=b.av.length
 row:∀ i,i < b.av.length→(nth r i).Pairwise (· < ·)∧∀ k∈nth r i,0≤k∧k < (b.ax.length:Int)
theorem gi.rows{b:ao}{g:List Bool}{o:Nat}{r:List (List Int)}(h:gi (gv b g o) r):Zv b r:=⟨h.len,λ i hi=>by
 cases ho:(gv b g o).out i with
 | true=>rw [h.out i hi ho]; exact ⟨.nil,by simp⟩
 | false =>
  have:=qX.1 (h.vB i hi ho)
  exact ⟨this.2.1,λ k hk=>⟨(this.2.2 k hk).1,(this.2.2 k hk).2.1⟩⟩⟩
theorem aOB{b:ao}(hv:Valid b){r:List (List Int)}(hr:Zv b r):Bq b (fK r)=some r:=by
 have hd:=hv.d4
 have hm:=hv.m4
 unfold Bq
 refine (xg (o:=r) ?_).trans rfl
 have e0:(([]:List (List Int)),(0:Int))=(λ i:Nat=>(r.take i,(i:Int))) 0:=rfl
 rw [e0]
 refine CK (λ i:Nat=>(r.take i,(i:Int))) b.av.length (λ i hi=>?_) (by simp only [ja,b8,← hr.len,List.take_length])
 have adr:=hr.row i hi
 have hl:=hr.len
 simp only [dec_lt hi,cV,LC _ (show i < 4 by omega),Option.bind_some,fY (i:=i) (by omega)]
 rw [xg (o:=nth r i) ?_]
 ·rw [Ho (by rw [List.length_take]; simp only [List.length_cons,List.length_nil]; omega),Option.bind_some,List.take_add_one,df (by omega)]
  rfl
 ·have q0:(([]:List Int),(0:Int))=(λ k:Nat=>(((List.range k).filter λ k=>(nth r i).contains ((k:Nat):Int)).map (λ (k:Nat)=>(k:Int)),(k:Int))) 0:=rfl
  rw [q0]
  refine CK (λ k:Nat=>(((List.range k).filter λ k=>(nth r i).contains ((k:Nat):Int)).map (λ (k:Nat)=>(k:Int)),(k:Int))) 4 (λ k hk=>?_) ?_
  ·have hfl:((List.range k).filter λ k=>(nth r i).contains ((k:Nat):Int)).length≤k:=Nat.le_trans (List.length_filter_le _ _) (by simp)
   simp only [show decide ((k:Int) < 4)=true by simp; omega,cV,D1 _ hk,Option.bind_some,fY (i:=k) (by omega),List.range_succ,List.filter_append,List.map_append]
   cases ht:(nth r i).contains (k:Int) with
   | true =>
    rw [cV,Ho (by rw [List.length_map]; simp only [List.length_cons,List.length_nil]; omega),Option.bind_some]
    simp only [List.filter_cons,ht,if_true,List.filter_nil,List.map_cons,List.map_nil]
   | false =>
    simp only [b8,List.filter_cons,ht,Bool.false_eq_true,if_false,List.filter_nil,List.map_nil,List.append_nil]
  ·rw [show decide (((4:Nat):Int) < 4)=false from rfl,b8,aS5 hm adr.1 adr.2]
abbrev vD(b:ao):List (List (List Int)):=r7 (gv b (oJ b) 0)
theorem ahD{b:ao}(hv:Valid b)(g:List Bool)(o:Nat):(r7 (gv b g o)).length≤65536:=aGk hv.m4 hv.d4
theorem aGS{b:ao}{g:List Bool}{o:Nat}{r:List (List Int)}(h:r∈r7 (gv b g o)):Zv b r:=gi.rows (Zs.1 h)
def QI(b:ao):Int × Int:=if nz b 0≠0 then (0,nz b 0) else ((vD b).length,0)
theorem ah0{b:ao}(hs:Small b):np b=some (QI b):=by
 unfold np QI
 rw [Zg hs (own:=0) (λ _=>rfl),Option.bind_some]
 unfold GX
 by_cases h:nz b 0=0
 ·obtain ⟨hv,_,_⟩:=ZS h
  have hl:=ahD hv (oJ b) 0
  simp only [h,ne_eq,not_true_eq_false,if_false,bne_self_eq_false,b8,Z1 hv,show (jQ b).book=b from rfl,Z2 hv,vJ,Option.bind_some]
  rw [show (0:Int)=((0:Nat):Int) from rfl,YL hv (Zw b) (by omega) _ (r:=(.inl ((((vD b).map fK).foldl (λ (s:Int) _=>s+1) 0)),true)) (QN (λ k s=>s=(k:Int)) (λ _ s=>s+1) _ 0 _ rfl (λ j s a hj hs _=>by
   subst hs
   simp only [List.length_map] at hj
   rw [fY (i:=j) (by omega)]
   exact ⟨rfl,rfl⟩))]
  have key:∀ (l:List (List Bool)) (s:Int),l.foldl (λ s _=>s+1) s=s+l.length:=by
   intro l
   induction l with
   | nil=>simp
   | cons a l ih=>intro s; rw [List.foldl_cons,ih]; simp; omega
  rw [Option.bind_some,Sum.elim_inl,key,List.length_map]
  simp
 ·simp only [h,ne_eq,not_false_eq_true,if_true,D3 h,cV]
def aTm(b:ao):List (List Int) × Bool × Int:=if nz b 0≠0 then ([],false,nz b 0) else match vD b with | []=>([],false,0) | r::_=>(r,true,0)
theorem aZT{b:ao}(hs:Small b):Be b=some (aTm b):=by
 unfold Be aTm
 rw [Zg hs (own:=0) (λ _=>rfl),Option.bind_some]
 unfold GX
 by_cases h:nz b 0=0
 ·obtain ⟨hv,_,_⟩:=ZS h
  simp only [h,ne_eq,not_true_eq_false,if_false,bne_self_eq_false,b8,Z1 hv,show (jQ b).book=b from rfl,Z2 hv,vJ,Option.bind_some]
  cases hc:vD b with
  | nil =>
   have:=YL hv (Zw b) (o:=0) (by omega) (gu (λ (Qy:(List Bool)) (jP:Unit)=>(((Bq b Qy).bind λ pq=>some (.inr pq)):Option (Unit ⊕ (List (List Int)))))) (s:=.inl ()) (r:=(.inl (),true)) (by rw [show r7 (gv b (oJ b) 0)=[] from hc]; rfl)
   rw [show (0:Int)=((0:Nat):Int) from rfl,this]
   rfl
  | cons r l =>
   have:=YL hv (Zw b) (o:=0) (by omega) (gu (λ (Qy:(List Bool)) (jP:Unit)=>(((Bq b Qy).bind λ pq=>some (.inr pq)):Option (Unit ⊕ (List (List Int)))))) (s:=.inl ()) (r:=(.inr r,false)) (by
    rw [show r7 (gv b (oJ b) 0)=r::l from hc]
    simp only [List.map_cons,kQ,gu]
    rw [aOB hv (aGS (show r∈vD b by rw [hc]; simp))]
    rfl)
   rw [show (0:Int)=((0:Nat):Int) from rfl,this]
   rfl
 ·simp only [h,ne_eq,not_false_eq_true,if_true,D3 h,cV]
end Go.Proofs.YtihapemckcdicaaGreatDoor
namespace Go.Proofs.YtihapemckcdicaaGreatDoor
open Go.Lg Go.Proofs
set_option maxRecDepth 10000
def vI(b:ao):RB:=⟨b.ax.length,b.av.length,λ i=>(nth b.av i).ax.toNat,re b,sB b,λ _=>false⟩
theorem gi.same{A C:RB}(hn:A.n=C.n)(hD:A.D=C.D)(Qj:∀ i,i < A.D→A.need i=C.need i)(gJ:∀ i k,i < A.D→k < A.n→A.ok i k=C.ok i k)(kA:∀ i j,i < A.D→j < i→A.ap j i=C.ap j i∧A.ap i j=C.ap i j)(rZ:∀ i,i < A.D→A.out i=C.out i){r:List (List Int)}:gi A r↔gi C r:=by
 constructor
 ·intro h
  exact gi.le ⟨by omega,hD,Qj,λ i k hi hk h=>by rw [← gJ i k hi hk]; exact h,λ i j hi hj h=>by rw [← (kA i j hi hj).1]; exact h,λ i hi h=>by rw [← rZ i hi]; exact h,λ i hi h=>by rw [rZ i hi]; exact h⟩ h
 ·intro h
  exact gi.le ⟨by omega,hD.symm,λ i hi=>(Qj i (by omega)).symm,λ i k hi hk h=>by rw [gJ i k (by omega) (by omega)]; exact h,λ i j hi hj h=>by rw [(kA i j (by omega) hj).1]; exact h,λ i hi h=>by rw [rZ i (by omega)]; exact h,λ i hi h=>by rw [← rZ i (by omega)]; exact h⟩ h
theorem ZI{b:ao}(hm:b.ax.length≤4){o:Nat}{r:List (List Int)}:gi (gv b (oJ b) o) r↔gi { vI b with out:=λ i=>o.testBit i } r:=by
 refine gi.same (A:=gv b (oJ b) o) (C:={ vI b with out:=λ i=>o.testBit i }) rfl rfl (λ _ _=>rfl) (λ i k _ hk=>?_) (λ _ _ _ _=>⟨rfl,rfl⟩) (λ i _=>rfl)
 show (nth (lW (ny b.ax.length)) k && re b i k)=re b i k
 have cR:k < b.ax.length:=hk
 rw [apS _ (by omega),show (ny b.ax.length).contains (k:Int)=true by rw [List.contains_iff_mem,ZG]; omega,Bool.true_and]
theorem aCH{b:ao}(hm:b.ax.length≤4){r:List (List Int)}:gi (gv b (oJ b) 0) r↔gi (vI b) r:=by
 rw [ZI hm]
 exact gi.same (A:={ vI b with out:=λ i=>(0:Nat).testBit i }) (C:=vI b) rfl rfl (λ _ _=>rfl) (λ _ _ _ _=>rfl) (λ _ _ _ _=>⟨rfl,rfl⟩) (λ i _=>by simp [vI])
theorem ag4{b:ao}(hv:Valid b):nz b 0=if gA b=[] then 9 else 0:=by unfold nz; simp [D5.2 hv]
end Go.Proofs.YtihapemckcdicaaGreatDoor
namespace Go.Proofs.YtihapemckcdicaaGreatDoor
open Go.Lg Go.Proofs
set_option maxRecDepth 10000
def kR(b:ao)(i:Nat):Int:=(nth b.av i).gR
abbrev Av(b:ao)(r:List (List Int)):Int:=r6 (kR b) r b.av.length b.ax.length
def GR(f:Int→Int):Int:=max (max (max (max 0 (f 0)) (f 1)) (f 2)) (f 3)
def qj(t:Nat→Int)(r:List (List Int))(i k:Nat):Int→Int:=λ a=>ib t r a i+if (0≤a∧a < (k:Int))∧a∈nth r i then t i else 0
theorem aS1{f:Int→Int}{k:Nat}(hk:k < 4){z:Int}(hz:f k≤z):GR (pv f k z)=max (GR f) z:=by
 match k,hk with
 | 0,_=>simp only [GR,pv] at hz ⊢; simp; simp at hz; omega
 | 1,_=>simp only [GR,pv] at hz ⊢; simp; simp at hz; omega
 | 2,_=>simp only [GR,pv] at hz ⊢; simp; simp at hz; omega
 | 3,_=>simp only [GR,pv] at hz ⊢; simp; simp at hz; omega
theorem aGX{b:ao}(hv:Valid b)(r:List (List Int))(k:Int):∀ i,i≤b.av.length→0≤ib (kR b) r k i∧ib (kR b) r k i≤60 * i
 | 0,_=>by simp [ib]
 | i+1,h=>by
  have ih:=aGX hv r k i (by omega)
  have ht:=(hv.dv (i:=i) (by omega)).Hv
  simp only [ib]
  have:kR b i=(nth b.av i).gR:=rfl
  split <;> omega
theorem aHi{b:ao}(hv:Valid b){r:List (List Int)}(hr:Zv b r):A5 b (fK r)=some (Av b r):=by
 have hd:=hv.d4
 have hm:=hv.m4
 unfold A5
 have ht:∀ i,i < b.av.length→1≤kR b i∧kR b i≤60:=λ i hi=>(hv.dv hi).Hv
 have fin:GR (qj (kR b) r b.av.length 0)=Av b r:=by
  have e:∀ a:Int,qj (kR b) r b.av.length 0 a=ib (kR b) r a b.av.length:=λ a=>by
   unfold qj
   rw [if_neg (by omega)]
   omega
  have z:∀ k:Nat,b.ax.length≤k→ib (kR b) r (k:Int) b.av.length=0:=λ k hk=>ahG λ i hi mE=>by
   have:=(hr.row i hi).2 _ mE
   omega
  have key:∀ m,Av b r≤m↔0≤m∧ib (kR b) r 0 b.av.length≤m∧ib (kR b) r 1 b.av.length≤m∧ib (kR b) r 2 b.av.length≤m∧ib (kR b) r 3 b.av.length≤m:=λ m=>by
   rw [Qd]
   have q:∀ k:Nat,0≤m→(∀ j:Nat,j < b.ax.length→ib (kR b) r (j:Int) b.av.length≤m)→ib (kR b) r (k:Int) b.av.length≤m:=λ k h0 h=>by
    by_cases hk:k < b.ax.length
    ·exact h k hk
    ·rw [z k (by omega)]; exact h0
   constructor
   ·rintro ⟨h0,h⟩
    exact ⟨h0,q 0 h0 h,q 1 h0 h,q 2 h0 h,q 3 h0 h⟩
   ·rintro ⟨h0,h1,h2,h3,h4⟩
    refine ⟨h0,λ k hk=>?_⟩
    match k,(show k < 4 by omega) with
    | 0,_=>exact h1
    | 1,_=>exact h2
    | 2,_=>exact h3
    | 3,_=>exact h4
  unfold GR
  rw [e,e,e,e]
  have k1:=(key (Av b r)).1 (Int.le_refl _)
  have k2:=(key (max (max (max (max 0 (ib (kR b) r 0 b.av.length)) (ib (kR b) r 1 b.av.length)) (ib (kR b) r 2 b.av.length)) (ib (kR b) r 3 b.av.length))).2 (by omega)
  omega
 rw [← fin]
 refine (xg (o:=GR (qj (kR b) r b.av.length 0)) ?_).trans rfl
 have e0:((λ _=>0:Int→Int),(0:Int),(0:Int))=(λ i:Nat=>(qj (kR b) r i 0,GR (qj (kR b) r i 0),(i:Int))) 0:=by
  have:qj (kR b) r 0 0=λ _=>0:=by
   funext a
   unfold qj
   rw [if_neg (by omega)]
   rfl
  simp only [this]
  rfl
 rw [e0]
 refine CK (λ i:Nat=>(qj (kR b) r i 0,GR (qj (kR b) r i 0),(i:Int))) b.av.length (λ i hi=>?_) (by simp only [ja,b8])
 have hb:=λ a=>aGX hv r a i (by omega)
 have hti:=ht i hi
 simp only [dec_lt hi,cV,fJ,df hi,Option.bind_some,LC _ (show i < 4 by omega),fY (i:=i) (by omega)]
 have nx:qj (kR b) r i 4=qj (kR b) r (i+1) 0:=by
  funext a
  unfold qj
  simp only [ib]
  rw [if_neg (show ¬((0≤a∧a < ((0:Nat):Int))∧a∈nth r (i+1)) by omega)]
  by_cases ha:a∈nth r i
  ·have:=(hr.row i hi).2 a ha
   rw [if_pos ⟨⟨by omega,by omega⟩,ha⟩,if_pos ha]
   omega
  ·rw [if_neg (λ h=>ha h.2),if_neg ha]
   omega
 rw [xg (o:=(qj (kR b) r (i+1) 0,GR (qj (kR b) r (i+1) 0))) ?_]
 have q0:(qj (kR b) r i 0,GR (qj (kR b) r i 0),(0:Int))=(λ k:Nat=>(qj (kR b) r i k,GR (qj (kR b) r i k),(k:Int))) 0:=rfl
 rw [q0]
 refine CK (λ k:Nat=>(qj (kR b) r i k,GR (qj (kR b) r i k),(k:Int))) 4 (λ k hk=>?_) ?_
 ·simp only [show decide ((k:Int) < 4)=true by simp; omega,cV,D1 _ hk,Option.bind_some,fY (i:=k) (by omega)]
  have hfk:qj (kR b) r i k (k:Int)=ib (kR b) r (k:Int) i:=by
   unfold qj
   rw [if_neg (λ h=>by omega)]
   omega
  have mN:=hb (k:Int)
  cases hc:(nth r i).contains (k:Int) with
  | true =>
   rw [List.contains_iff_mem] at hc
   have e1:pv (qj (kR b) r i k) (k:Int) (qj (kR b) r i k (k:Int)+kR b i)=qj (kR b) r i (k+1):=by
    funext a
    unfold pv
    by_cases ha:a=(k:Int)
    ·subst ha
     rw [if_pos rfl,hfk]
     unfold qj
     rw [if_pos ⟨⟨by omega,by omega⟩,hc⟩]
    ·rw [if_neg ha]
     unfold qj
     congr 1
     by_cases h2:(0≤a∧a < (k:Int))∧a∈nth r i
     ·rw [if_pos h2,if_pos ⟨⟨h2.1.1,by omega⟩,h2.2⟩]
     ·rw [if_neg h2,if_neg (λ h3=>h2 ⟨⟨h3.1.1,by omega⟩,h3.2⟩)]
   have e2:i64 (qj (kR b) r i k (k:Int)+(nth b.av i).gR)=qj (kR b) r i k (k:Int)+kR b i:=by
    rw [hfk,oq (by have:kR b i=(nth b.av i).gR:=rfl; omega) (by have:kR b i=(nth b.av i).gR:=rfl; omega)]
    rfl
   rw [cV,e2,e1,aFJ]
   congr 2
   have:=aS1 (f:=qj (kR b) r i k) hk (z:=qj (kR b) r i k (k:Int)+kR b i) (by omega)
   rw [e1] at this
   rw [this]
   congr 2
   rw [← e1]
   unfold pv
   rw [if_pos rfl]
  | false =>
   have xd:¬ (k:Int)∈nth r i:=λ h=>by rw [← List.contains_iff_mem,hc] at h; cases h
   have e1:qj (kR b) r i (k+1)=qj (kR b) r i k:=by
    funext a
    unfold qj
    congr 1
    by_cases h2:(0≤a∧a < (k:Int))∧a∈nth r i
    ·rw [if_pos h2,if_pos ⟨⟨h2.1.1,by omega⟩,h2.2⟩]
    ·rw [if_neg h2,if_neg (λ h3=>h2 ⟨⟨h3.1.1,by
      have:a≠(k:Int):=λ e=>xd (e ▸ h3.2)
      omega⟩,h3.2⟩)]
   rw [b8,e1]
 ·rw [show decide (((4:Nat):Int) < 4)=false from rfl,b8,nx]
theorem aSZ{f:List Bool→Option Int}{w:List (List Int)→Int}:∀ (l:List (List (List Int))) (x:List (List Int)),(∀ y∈x::l,f (fK y)=some (w y))→l.length≤70000→GO f ((x::l).map fK)=some (fK (nK w x l)):=by
 intro l x hf hl
 unfold GO
 rw [show idx ((x::l).map fK) 0=some (fK x) from rfl,Option.bind_some]
 rw [show nN ((x::l).map fK) 1 (((x::l).map fK).length:Int)=some (l.map fK) from aGz,Option.bind_some]
 refine (xg (o:=fK (nK w x l)) ?_).trans rfl
 have e0:((0:Int),fK x)=(λ i:Nat=>((i:Int),fK (nK w x (l.take i)))) 0:=rfl
 rw [e0]
 have sn:∀ (l:List (List (List Int))) (x y:List (List Int)),nK w x (l++[y])=if w y < w (nK w x l) then y else nK w x l:=by
  intro l
  induction l with
  | nil=>intro x y; rfl
  | cons z l ih=>intro x y; exact ih _ y
 have mem:∀ (l:List (List (List Int))) (x:List (List Int)),nK w x l∈x::l:=by
  intro l
  induction l with
  | nil=>intro x; simp [nK]
  | cons z l ih =>
   intro x
   simp only [nK]
   have:=ih (if w z < w x then z else x)
   rcases List.mem_cons.1 this with h | h
   ·rw [h]; split <;> simp
   ·simp [h]
 have hlm:(l.map fK).length=l.length:=List.length_map _
 refine (congrArg (λ z=>bC _ z) rfl).trans ?_
 rw [hlm]
 refine CK (λ i:Nat=>((i:Int),fK (nK w x (l.take i)))) l.length (λ i hi=>?_) (by simp only [ja,b8,List.take_length])
 have e:(l.map fK)[i]? = some (fK (nth l i)):=by rw [List.getElem?_map,df hi]; rfl
 have hb:nK w x (l.take i)∈x::l:=by
  rcases List.mem_cons.1 (mem (l.take i) x) with h | h
  ·rw [h]; simp
  ·exact List.mem_cons_of_mem _ (List.mem_of_mem_take h)
 simp only [dec_lt hi,cV,fJ,e,Option.bind_some,hf _ (List.mem_cons_of_mem _ (ko hi)),hf _ hb,fY (i:=i) (by omega)]
 have et:l.take (i+1)=l.take i++[nth l i]:=by rw [List.take_add_one,df hi]; rfl
 rw [et,sn]
 by_cases hw:w (nth l i) < w (nK w x (l.take i))
 ·rw [decide_eq_true hw,cV,if_pos hw]
 ·rw [decide_eq_false hw,b8,if_neg hw]
theorem aSY{b:ao}(hv:Valid b){g:List Bool}(hg:g.length=4){o:Nat}(ho:o < 16):GN (λ y s=>qk y (jQ b) (o:Int) g (sj b) s)=some ((r7 (gv b g o)).map fK):=by
 unfold GN Hr
 have hl:=ahD hv g o
 have key:∀ (l a:List (List Bool)),l.foldl (λ s c=>s++[c]) a=a++l:=by
  intro l
  induction l with
  | nil=>simp
  | cons c l ih=>intro a; rw [List.foldl_cons,ih]; simp
 dsimp only
 rw [YL hv hg ho _ (r:=(.inl ((((r7 (gv b g o)).map fK).foldl (λ (s:List (List Bool)) c=>s++[c]) [])),true)) (QN (λ k s=>s.length=k) (λ c s=>s++[c]) _ 0 [] rfl (λ j s a hj hs _=>by
  simp only [List.length_map] at hj
  rw [Ho (by simp; omega)]
  exact ⟨rfl,by simp [hs]⟩))]
 rw [key]
 rfl
def ajF(b:ao):List (List Int) × Int × Bool × Int:=if nz b 0≠0 then ([],0,false,nz b 0) else match vD b with | []=>([],0,false,0) | r::l=>(nK (Av b) r l,Av b (nK (Av b) r l),true,0)
theorem aFQ{α:Type}(w:α→Int):∀ (l:List α) (x:α),nK w x l∈x::l
 | [],x=>by simp [nK]
 | z::l,x=>by
  simp only [nK]
  rcases List.mem_cons.1 (aFQ w l (if w z < w x then z else x)) with h | h
  ·rw [h]; split <;> simp
  ·simp [h]
theorem aIq{b:ao}(hs:Small b):tz b=some (ajF b):=by
 unfold tz ajF
 rw [Zg hs (own:=0) (λ _=>rfl),Option.bind_some]
 unfold GX
 by_cases h:nz b 0=0
 ·obtain ⟨hv,_,_⟩:=ZS h
  have hl:=ahD hv (oJ b) 0
  simp only [h,ne_eq,not_true_eq_false,if_false,bne_self_eq_false,b8,Z1 hv,show (jQ b).book=b from rfl,Z2 hv,vJ,Option.bind_some]
  have aG7:=aSY hv (Zw b) (o:=0) (by omega)
  rw [show ((0:Nat):Int)=0 from rfl] at aG7
  rw [aG7,Option.bind_some,List.length_map]
  have aF5:∀ r∈vD b,Zv b r:=λ r hr=>aGS hr
  rw [show r7 (gv b (oJ b) 0)=vD b from rfl] at hl ⊢
  cases hc:vD b with
  | nil=>rfl
  | cons r l =>
   rw [hc] at hl aF5
   simp only [List.length_cons] at hl
   rw [show ((((r::l).length:Nat):Int) == 0)=false by simp; omega,b8]
   rw [aSZ (w:=Av b) l r (λ y hy=>aHi hv (aF5 y hy)) (by omega),Option.bind_some]
   have Qi:=aF5 _ (aFQ (Av b) l r)
   rw [aOB hv Qi,Option.bind_some,aHi hv Qi,Option.bind_some]
 ·simp only [h,ne_eq,not_false_eq_true,if_true,D3 h,cV]
end Go.Proofs.YtihapemckcdicaaGreatDoor
namespace Go.Proofs.YtihapemckcdicaaGreatDoor
open Go.Lg Go.Proofs
set_option maxRecDepth 10000
theorem aFK{b:ao}(hv:Valid b){r:List (List Int)}:r∈vD b↔gi (vI b) r:=by
 rw [show vD b=r7 (gv b (oJ b) 0) from rfl,Zs,aCH hv.m4]
end Go.Proofs.YtihapemckcdicaaGreatDoor
namespace Go.Proofs.YtihapemckcdicaaGreatDoor
open Go.Lg Go.Proofs
set_option maxRecDepth 10000
theorem aGa{S O:Type}{body:S→Option (S ⊕ O)}(n:Nat)(I:Nat→S→Prop)(Q:O→Prop)(h:∀ i s,i < n→I i s→(∃ s',body s=some (.inl s')∧I (i+1) s')∨∃ o,body s=some (.inr o)∧Q o)(hn:∀ s,I n s→∃ o,body s=some (.inr o)∧Q o) :
  ∀ (k i:Nat) (s:S),i+k=n→I i s→∃ o,bC body s=some o∧Q o
 | 0,i,s,hi,hI=>by
  obtain rfl:i=n:=by omega
  obtain ⟨o,h1,h2⟩:=hn s hI
  exact ⟨o,za h1,h2⟩
 | k+1,i,s,hi,hI=>by
  rcases h i s (by omega) hI with ⟨s',h1,h2⟩ | ⟨o,h1,h2⟩
  ·obtain ⟨o,h3,h4⟩:=aGa n I Q h hn k (i+1) s' (by omega) h2
   exact ⟨o,by rw [Hq h1,h3],h4⟩
  ·exact ⟨o,za h1,h2⟩
structure YO (b:ao) (r:List (List Int)):Prop where
 len:r.length=b.av.length
 row:∀ i,i < b.av.length→((nth r i).length:Int)=(nth b.av i).ax∧(nth r i).Pairwise (· < ·)∧∀ k∈nth r i,0≤k∧k < (b.ax.length:Int)
theorem YO.rows{b:ao}{r:List (List Int)}(h:YO b r):Zv b r:=⟨h.len,λ i hi=>(h.row i hi).2⟩
theorem aZ9{b:ao}(hv:Valid b){r:List (List Int)}(h:gi (vI b) r):YO b r:=⟨h.len,λ i hi=>by
 have h1:=qX.1 (h.vB i hi rfl)
 have hm:=(hv.dv hi).rL
 have h2:(nth r i).length=(nth b.av i).ax.toNat:=h1.1
 exact ⟨by omega,h1.2.1,λ k hk=>⟨(h1.2.2 k hk).1,(h1.2.2 k hk).2.1⟩⟩⟩
theorem aU8(l:List Int){i:Nat}(hi:i < 4):∃ z,P3 l (i:Int)=some z:=by
 unfold P3
 rw [qS,Option.bind_some]
 by_cases h4:4≤l.length
 ·cases cL (i:Int) 0 (i64 ((l.length:Int) - 1)) with
  | false=>exact ⟨0,rfl⟩
  | true =>
   rw [cV,fJ,df (show i < l.length by omega)]
   exact ⟨_,rfl⟩
 ·rw [oq (by omega) (by omega)]
  cases h:cL (i:Int) 0 ((l.length:Int) - 1) with
  | false=>exact ⟨0,rfl⟩
  | true =>
   rw [jN] at h
   rw [cV,ahX h.1 (by omega)]
   exact ⟨_,rfl⟩
theorem aTN(x:Int)(k:Nat):∃ z,(kU .i64 x (k:Int)).bind (λ y=>(fH .and .i64 y 1).bind λ w=>some (w == 1))=some z:=by
 unfold kU
 rw [if_neg (by omega)]
 exact ⟨_,rfl⟩
structure aHK (b:ao) (m:Int) (k:Nat) (s:List Int × Int × Int):Prop where
 at_:s.2.2=(k:Int)
 asc:s.1.Pairwise (· < ·)
 mem:∀ x∈s.1,0≤x∧x < (k:Int)
 sum:(s.1.length:Int)+s.2.1=m
 left:0≤s.2.1∧s.2.1≤(b.ax.length:Int) - (k:Int)
theorem aVb{b:ao}(hv:Valid b)(l:List Int):∃ r ok,Ly b l=some (r,ok)∧(ok=true→YO b r)∧(ok=false→∃ i,i < b.av.length∧(b.ax.length:Int) < (nth b.av i).ax):=by
 have hm4:=hv.m4
 have Y7:=hv.d4
 unfold Ly
 have main:=aGa (O:=((List (List Int)) ⊕ ((List (List Int)) × Bool))) (body:=λ (pa:((List (List Int)) × Int)) =>
 aa (decide (pa.2 < (b.av.length:Int)))
 ((idx b.av pa.2).bind λ P6 =>
 aa (decide (P6.ax > (b.ax.length:Int)))
 (some (.inr (.inr ([],false))))
 ((bC (O:=(List Int)) (λ (iF:((List Int) × Int × Int)) =>
 aa (decide (iF.2.2 < (b.ax.length:Int)))
 ((((aa (decide (iF.2.1 > 0))
 (aa (decide (i64 ((b.ax.length:Int) - iF.2.2)≤iF.2.1))
 (some true)
 ((P3 l pa.2).bind λ Zl =>
 (kU .i64 Zl iF.2.2).bind λ xw =>
 (fH .and .i64 xw 1).bind λ Rj =>
 some (Rj == 1)))
 (some false)):Option Bool)).bind (λ (HN:Bool) =>
 aa HN
 ((eW iF.1 [iF.2.2]).bind λ Qe =>
 some (.inl (Qe,i64 (iF.2.1 - 1),i64 (iF.2.2+1))))
 (some (.inl (iF.1,iF.2.1,i64 (iF.2.2+1))))))
 (some (.inr iF.1))) ([],P6.ax,0)).bind (λ (Hi:(List Int)) =>
 (eW pa.1 [Hi]).bind λ Zm =>
 some (.inl (Zm,i64 (pa.2+1))))))
 (some (.inr (.inl pa.1)))) b.av.length (λ i s=>s.2=(i:Int)∧s.1.length=i∧∀ j,j < i→((nth s.1 j).length:Int)=(nth b.av j).ax∧(nth s.1 j).Pairwise (· < ·)∧∀ k∈nth s.1 j,0≤k∧k < (b.ax.length:Int))
  (λ o=>(∃ r,o = .inl r∧YO b r)∨(o = .inr ([],false)∧∃ i,i < b.av.length∧(b.ax.length:Int) < (nth b.av i).ax)) (λ i s hi hI=>?_) (λ s hI=>?_) b.av.length 0 ([],0) (by omega) ⟨rfl,rfl,λ j hj=>by omega⟩
 ·obtain ⟨o,ho,hQ⟩:=main
  rcases hQ with ⟨r,rfl,hp⟩ | ⟨rfl,aSP⟩
  ·refine ⟨r,true,?_,λ _=>hp,λ h=>by cases h⟩
   exact (xg ho).trans rfl
  ·refine ⟨[],false,?_,(λ h=>by cases h),λ _=>aSP⟩
   exact (xg ho).trans rfl
 ·obtain ⟨acc,x⟩:=s
  obtain ⟨rfl,hlen,adr⟩:=hI
  simp only at hlen adr
  have atd:=(hv.dv hi).rL
  simp only [dec_lt hi,cV,fJ,df hi,Option.bind_some]
  by_cases hgt:(nth b.av i).ax > (b.ax.length:Int)
  ·right
   rw [decide_eq_true hgt,cV]
   exact ⟨_,rfl,.inr ⟨rfl,i,hi,hgt⟩⟩
  ·left
   rw [decide_eq_false hgt,b8]
   obtain ⟨z,hz⟩:=aU8 l (i:=i) (by omega)
   simp only [hz,Option.bind_some]
   obtain ⟨o,ho,h1,h2,h3⟩:=aGa (O:=List Int) (body:=λ (iF:((List Int) × Int × Int)) =>
 aa (decide (iF.2.2 < (b.ax.length:Int)))
 ((((aa (decide (iF.2.1 > 0))
 (aa (decide (i64 ((b.ax.length:Int) - iF.2.2)≤iF.2.1))
 (some true)
 ((kU .i64 z iF.2.2).bind λ xw =>
 (fH .and .i64 xw 1).bind λ Rj =>
 some (Rj == 1)))
 (some false)):Option Bool)).bind (λ (HN:Bool) =>
 aa HN
 ((eW iF.1 [iF.2.2]).bind λ Qe =>
 some (.inl (Qe,i64 (iF.2.1 - 1),i64 (iF.2.2+1))))
 (some (.inl (iF.1,iF.2.1,i64 (iF.2.2+1))))))
 (some (.inr iF.1))) b.ax.length (aHK b (nth b.av i).ax) (λ o=>(o.length:Int)=(nth b.av i).ax∧o.Pairwise (· < ·)∧∀ k∈o,0≤k∧k < (b.ax.length:Int)) (λ k s hk hI=>by
    obtain ⟨row,left,x⟩:=s
    obtain ⟨rfl,ha,lS,Zp,aIb⟩:=hI
    simp only at ha lS Zp aIb
    left
    have go:(∃ s',((eW row [(k:Int)]).bind λ Qe=>some (.inl (Qe,i64 (left - 1),i64 ((k:Int)+1))):Option ((List Int × Int × Int) ⊕ List Int))=some (.inl s')∧(0 < left→aHK b (nth b.av i).ax (k+1) s')):=by
     rw [Ho (by simp only [List.length_cons,List.length_nil]; omega)]
     refine ⟨_,rfl,λ iN=>⟨fY (by omega),?_,λ x hx=>?_,?_,?_⟩⟩
     ·rw [List.pairwise_append]
      exact ⟨ha,by simp,λ x hx y hy=>by simp at hy; have:=lS x hx; omega⟩
     ·rw [List.mem_append,List.mem_singleton] at hx
      rcases hx with hx | rfl
      ·have:=lS x hx; omega
      ·omega
     ·simp only [oq (z:=left - 1) (by omega) (by omega),List.length_append,List.length_cons,List.length_nil]
      omega
     ·simp only [oq (z:=left - 1) (by omega) (by omega)]
      omega
    have stay:left≤(b.ax.length:Int) - (k:Int) - 1→aHK b (nth b.av i).ax (k+1) (row,left,i64 ((k:Int)+1)):=λ h=>⟨fY (by omega),ha,λ x hx=>by have:=lS x hx; omega,Zp,by simp only; omega⟩
    simp only [dec_lt hk,cV]
    by_cases iN:left > 0
    ·rw [decide_eq_true iN,cV,oq (by omega) (by omega)]
     by_cases hle:(b.ax.length:Int) - (k:Int)≤left
     ·rw [decide_eq_true hle,cV,Option.bind_some,cV]
      obtain ⟨s',h1,h2⟩:=go
      exact ⟨s',h1,h2 iN⟩
     ·rw [decide_eq_false hle,b8]
      obtain ⟨y,hy⟩:=aTN z k
      rw [hy,Option.bind_some]
      cases y with
      | true =>
       rw [cV]
       obtain ⟨s',h1,h2⟩:=go
       exact ⟨s',h1,h2 iN⟩
      | false=>exact ⟨_,rfl,stay (by omega)⟩
    ·rw [decide_eq_false iN,b8]
     exact ⟨_,rfl,stay (by omega)⟩) (λ s hI=>by
    obtain ⟨row,left,x⟩:=s
    obtain ⟨rfl,ha,lS,Zp,aIb⟩:=hI
    simp only at ha lS Zp aIb
    refine ⟨row,by simp only [ja,b8],by omega,ha,lS⟩) b.ax.length 0 ([],(nth b.av i).ax,0) (by omega) ⟨rfl,.nil,by simp,by simp,by simp only; omega⟩
   refine ⟨(acc++[o],((i+1:Nat):Int)),?_,rfl,by simp [hlen],λ j hj=>?_⟩
   ·refine (xg ho).trans ?_
    rw [Ho (by simp only [List.length_cons,List.length_nil]; omega),Option.bind_some,fY (by omega)]
   ·by_cases e:j=i
    ·subst e
     have:nth (acc++[o]) j=o:=by rw [← hlen]; exact zn
     simp only [this]
     exact ⟨h1,h2,h3⟩
    ·simp only [zc (show j < acc.length by omega)]
     exact adr j (by omega)
 ·obtain ⟨acc,x⟩:=s
  obtain ⟨rfl,hlen,adr⟩:=hI
  exact ⟨.inl acc,by simp only [ja,b8],.inl ⟨acc,rfl,hlen,adr⟩⟩
theorem aVc{b:ao}(hv:Valid b){r:List (List Int)}(h:YO b r):Lz b r=some 0:=by
 have hm4:=hv.m4
 have Y7:=hv.d4
 have hl:=h.len
 unfold Lz
 rw [show ((r.length:Int) != (b.av.length:Int))=false by simp [hl],b8]
 rw [LP (n:=r.length) (λ _=>true) (0:Int) (λ i hi=>?_) (by simp only [ja,b8])]
 ·rw [show ((List.range r.length).all λ _=>true)=true by simp]; rfl
 ·have Hp:i < b.av.length:=by omega
  obtain ⟨h1,h2,h3⟩:=h.row i Hp
  have atd:=(hv.dv Hp).rL
  simp only [dec_lt hi,cV,fJ,df hi,df Hp,Option.bind_some,show (((nth r i).length:Int) != (nth b.av i).ax)=false by simp [h1],b8,aGL (l:=nth r i) (below:=(b.ax.length:Int)) (by omega) (by omega) (by omega),aGn h2 h3,bne_self_eq_false,fY (i:=i) (by omega),if_true]
abbrev aTe:List Bool:=[false,false,false,false,false,false,false,false,false,false,false,false,false,false,false,false]
theorem aU5{b:ao}(hv:Valid b){r:List (List Int)}(h:YO b r):He b r=some (fK r,0):=by
 have hm4:=hv.m4
 have Y7:=hv.d4
 have hl:=h.len
 unfold He
 rw [show ((r.length:Int) != (b.av.length:Int))=false by simp [hl],b8]
 refine (xg (o:=Sum.inl (fK r)) ?_).trans rfl
 have e0:((0:Int),aTe)=(λ i:Nat=>((i:Int),fK (r.take i))) 0:=rfl
 rw [e0]
 refine CK (λ i:Nat=>((i:Int),fK (r.take i))) r.length (λ i hi=>?_) (by simp only [ja,b8,List.take_length])
 have Hp:i < b.av.length:=by omega
 obtain ⟨h1,h2,h3⟩:=h.row i Hp
 have atd:=(hv.dv Hp).rL
 simp only [dec_lt hi,cV,fJ,df hi,df Hp,Option.bind_some,show (((nth r i).length:Int) != (nth b.av i).ax)=false by simp [h1],b8]
 rw [LP (n:=(nth r i).length) (λ _=>true) (aTe,(0:Int)) (λ k hk=>?_) (by simp only [ja,b8])]
 ·rw [show ((List.range (nth r i).length).all λ _=>true)=true by simp]
  simp only [if_true,Option.bind_some,Sum.elim_inl,aIp (c:=nth r i) (by omega) (λ k hk=>by have:=h3 k hk; omega),LC _ (show i < 4 by omega),fY (i:=i) (by omega)]
  congr 3
  refine List.ext_getElem? λ p=>?_
  unfold Ej
  rw [Int.toNat_natCast]
  have hg:=LG (nth r i)
  have hrl:=Rd (r.take i)
  have nt:∀ j,nth (r.take (i+1)) j=if j < i then nth r j else if j=i then nth r i else []:=λ j=>by
   by_cases hj:j < i+1
   ·rw [qP hj]
    by_cases h5:j < i
    ·rw [if_pos h5]
    ·rw [if_neg h5,if_pos (by omega),show j=i by omega]
   ·rw [if_neg (by omega),if_neg (by omega)]
    unfold nth
    rw [List.getD_eq_getElem?_getD,List.getElem?_eq_none (by rw [List.length_take]; omega)]
    rfl
  have nt0:∀ j,nth (r.take i) j=if j < i then nth r j else []:=λ j=>by
   by_cases hj:j < i
   ·rw [qP hj,if_pos hj]
   ·rw [if_neg hj]
    unfold nth
    rw [List.getD_eq_getElem?_getD,List.getElem?_eq_none (by rw [List.length_take]; omega)]
    rfl
  by_cases hp:p < 16
  ·rw [Zi _ hp,nt]
   by_cases c1:p < i * 4
   ·rw [List.getElem?_append_left (by rw [List.length_take]; omega),List.getElem?_take_of_lt c1,Zi _ hp,nt0,if_pos (by omega),if_pos (by omega)]
   ·have bK:((fK (r.take i)).take (i * 4)).length=i * 4:=by rw [List.length_take]; omega
    rw [List.getElem?_append_right (by omega),bK]
    by_cases c2:p < i * 4+4
    ·rw [List.getElem?_append_left (by omega)]
     have:=D1 (nth r i) (k:=p - i * 4) (by omega)
     rw [fJ] at this
     rw [this,if_neg (by omega),if_pos (by omega),show p % 4=p - i * 4 by omega]
    ·rw [List.getElem?_append_right (by omega),List.getElem?_drop,hg,show i * 4+4+(p - i * 4 - 4)=p by omega,Zi _ hp,nt0,if_neg (by omega),if_neg (by omega),if_neg (by omega)]
  ·rw [List.getElem?_eq_none (by rw [List.length_append,List.length_append,List.length_take,List.length_drop]; omega),List.getElem?_eq_none (by rw [Rd]; omega)]
 ·have hx:=h3 _ (ko hk)
  have hb:cL (nth (nth r i) k) 0 ((b.ax.length:Int) - 1)=true:=jN.2 (by omega)
  simp only [dec_lt hk,cV,fJ,df hk,Option.bind_some,W5 (m:=b.ax.length) (by omega),hb,Bool.true_eq_false,if_false,bne_self_eq_false,b8,if_true]
  by_cases Lw:0 < k
  ·have:=Qz h2 (i:=k - 1) (j:=k) (by omega) hk
   rw [YT Lw,cV,Qx (i:=k) (by omega) Lw,fJ,df (show k - 1 < (nth r i).length by omega),Option.bind_some,show decide (nth (nth r i) k≤nth (nth r i) (k - 1))=false by simp; omega,Option.bind_some,b8,fY (i:=k) (by omega)]
  ·rw [YS Lw,b8,Option.bind_some,b8,fY (i:=k) (by omega)]
end Go.Proofs.YtihapemckcdicaaGreatDoor
namespace Go.Proofs.YtihapemckcdicaaGreatDoor
open Go.Lg Go.Proofs
set_option maxRecDepth 10000
def ail(b:ao)(r:List (List Int))(i:Nat):Bool:=(List.range i).all λ j=>sB b j i || !meet (nth r i) (nth r j)
def ajM(b:ao)(r:List (List Int)):Bool:=(List.range b.av.length).all (ail b r)
theorem aU6{b:ao}(hv:Valid b){r:List (List Int)}{i:Nat}(hi:i < b.av.length)(hc:∀ k∈nth r i,0≤k∧k < (b.ax.length:Int)):xp b (fK r) (i:Int)=some (ail b r i):=by
 have hd:=hv.d4
 have hm:=hv.m4
 unfold xp ail
 rw [LP (n:=i) (λ j=>sB b j i || !meet (nth r i) (nth r j)) false (λ j hj=>?_) (by simp only [ja,b8])]
 ·cases (List.range i).all λ j=>sB b j i || !meet (nth r i) (nth r j) <;> rfl
 ·simp only [dec_lt hj,cV,ajl hv (show j < b.av.length by omega) hi,Option.bind_some]
  cases sB b j i with
  | true=>simp only [cV,Bool.true_or,if_true,fY (i:=j) (by omega)]
  | false =>
   simp only [b8,Bool.false_or]
   rw [LP (n:=b.ax.length) (λ k=>!((nth r j).contains (k:Int) && (nth r i).contains (k:Int))) false (λ k hk=>?_) (by simp only [ja,b8])]
   ·have e:((List.range b.ax.length).all λ k=>!((nth r j).contains (k:Int) && (nth r i).contains (k:Int)))=!meet (nth r i) (nth r j):=by
     rw [Bool.eq_iff_iff,Bool.not_eq_true',Ei,List.all_eq_true]
     constructor
     ·intro h k hk hk2
      have hb:=hc k hk
      have:=h k.toNat (by rw [List.mem_range]; omega)
      rw [Int.toNat_of_nonneg hb.1] at this
      simp [hk,hk2] at this
     ·intro h k _
      rw [Bool.not_eq_true',Bool.and_eq_false_iff]
      by_cases hk:(k:Int)∈nth r i
      ·exact .inl (by have:=h _ hk; simpa using this)
      ·exact .inr (by simpa using hk)
    rw [e]
    cases meet (nth r i) (nth r j) with
    | true=>rfl
    | false=>simp only [Bool.not_false,if_true,Option.bind_some,Sum.elim_inl,fY (i:=j) (by omega)]
   ·simp only [dec_lt hk,cV,LC _ (show j < 4 by omega),LC _ (show i < 4 by omega),Option.bind_some,D1 _ (show k < 4 by omega),fY (i:=k) (by omega)]
    cases (nth r j).contains (k:Int) <;> cases (nth r i).contains (k:Int) <;> rfl
def ag2(b:ao)(c:List Int)(r:List (List Int)):Bool:=(List.range b.av.length).all λ i=>(nth r i).all λ k=>xh b c k.toNat i
theorem aU7{b:ao}(hv:Valid b){r:List (List Int)}(hr:Zv b r){c:List Int}(hc:c.length=b.aM.length):Ba (oK c) b (fK r) (jQ b)=some (ag2 b c r):=by
 have hd:=hv.d4
 have hm:=hv.m4
 unfold Ba ag2
 rw [LP (n:=b.av.length) (λ i=>(nth r i).all λ k=>xh b c k.toNat i) false (λ i hi=>?_) (by simp only [ja,b8])]
 ·cases (List.range b.av.length).all λ i=>(nth r i).all λ k=>xh b c k.toNat i <;> rfl
 ·simp only [dec_lt hi,cV,LC _ (show i < 4 by omega),Option.bind_some]
  rw [LP (n:=4) (λ k=>!(nth r i).contains (k:Int) || xh b c k i) false (λ k hk=>?_) (by rw [show decide (((4:Nat):Int) < 4)=false from rfl,b8])]
  ·have e:((List.range 4).all λ k=>!(nth r i).contains ((k:Nat):Int) || xh b c k i)=(nth r i).all λ k=>xh b c k.toNat i:=by
    rw [Bool.eq_iff_iff,List.all_eq_true,List.all_eq_true]
    constructor
    ·intro h k hk
     have hb:=(hr.row i hi).2 k hk
     have:=h k.toNat (by rw [List.mem_range]; omega)
     rw [Int.toNat_of_nonneg hb.1] at this
     simpa [hk] using this
    ·intro h k _
     cases hk:(nth r i).contains (k:Int) with
     | false=>rfl
     | true =>
      rw [List.contains_iff_mem] at hk
      simpa using h _ hk
   rw [e]
   cases (nth r i).all λ k=>xh b c k.toNat i with
   | true=>simp only [if_true,Option.bind_some,Sum.elim_inl,fY (i:=i) (by omega)]
   | false=>rfl
  ·simp only [show decide ((k:Int) < 4)=true by simp; omega,cV,D1 _ hk,Option.bind_some]
   cases hkc:(nth r i).contains (k:Int) with
   | false=>simp only [b8,Bool.not_false,Bool.true_or,if_true,fY (i:=k) (by omega)]
   | true =>
    rw [List.contains_iff_mem] at hkc
    have hb:=(hr.row i hi).2 _ hkc
    rw [cV,show (jQ b).book=b from rfl,ahZ hv hc (show k < b.ax.length by omega) hi,Option.bind_some]
    cases xh b c k i with
    | true=>simp only [Bool.not_true,b8,Bool.or_true,if_true,fY (i:=k) (by omega)]
    | false=>rfl
def agT(b:ao)(r:List (List Int)):Int:=if ajM b r=true then G2 ((gA b).filter λ c=>ag2 b c r).length (gA b).length else 2
theorem aU9{b:ao}(hv:Valid b){r:List (List Int)}(h:YO b r):m32 b r=some (if gA b=[] then (0,9) else (agT b r,0)):=by
 have hd:=hv.d4
 unfold m32
 rw [aU4 hv.sm (g':=fK r) (own:=0) (λ _=>by unfold Hd; rw [aU5 hv h]; rfl),Option.bind_some,if_neg (show ¬ lR b≠0 by simp [D5.2 hv])]
 by_cases hc:gA b=[]
 ·rw [if_pos hc]
  unfold GX
  rw [ag4 hv,if_pos hc]
  rfl
 ·rw [if_neg hc]
  unfold GX agT ajM
  rw [aGp hv rfl hc]
  simp only [ne_eq,not_true_eq_false,if_false,bne_self_eq_false,b8]
  rw [LP (n:=b.av.length) (ail b r) (2,0) (λ i hi=>?_) (by simp only [ja,b8])]
  ·cases (List.range b.av.length).all (ail b r) with
   | false=>rfl
   | true =>
    simp only [if_true,Option.bind_some,Sum.elim_inl]
    rw [ahY hv (p:=λ c=>ag2 b c r) (λ c hc=>aU7 hv h.rows (ah3.1 hc).1.1),Option.bind_some,aOA]
    rfl
  ·simp only [dec_lt hi,cV,show (jQ b).book=b from rfl,aU6 hv hi (h.rows.row i hi).2,Option.bind_some,fY (i:=i) (by omega)]
   cases ail b r i <;> rfl
theorem aSN{b:ao}(hv:Valid b)(hc:gA b≠[]){r:List (List Int)}(h:YO b r):(agT b r == 1)=true↔r∈vD b:=by
 rw [aFK hv]
 unfold agT
 have rest:ajM b r=true↔∀ i j,i < b.av.length→j < i→sB b j i=true∨meet (nth r i) (nth r j)=false:=by
  unfold ajM ail
  simp only [List.all_eq_true,List.mem_range,Bool.or_eq_true,Bool.not_eq_true']
  exact ⟨λ h i j hi hj=>h i hi j hj,λ h i hi j hj=>h i j hi hj⟩
 have allow:(∀ c∈gA b,ag2 b c r=true)↔∀ i,i < b.av.length→∀ k∈nth r i,re b i k.toNat=true:=by
  unfold ag2 re
  simp only [List.all_eq_true,List.mem_range]
  exact ⟨λ h i hi k hk c hcc=>h c hcc i hi k hk,λ h c hcc i hi k hk=>h i hi k hk c hcc⟩
 constructor
 ·intro hg
  by_cases hr:ajM b r=true
  ·rw [if_pos hr,aFF hc,decide_eq_true_eq] at hg
   refine ⟨h.len,λ i _ ho=>(by cases ho),λ i hi _=>qX.2 ⟨?_,(h.row i hi).2.1,λ k hk=>⟨((h.row i hi).2.2 k hk).1,((h.row i hi).2.2 k hk).2,(allow.1 hg) i hi k hk⟩⟩,λ i j hi hj=>rest.1 hr i j hi hj⟩
   have h1:=(h.row i hi).1
   show (nth r i).length=(nth b.av i).ax.toNat
   omega
  ·rw [if_neg hr] at hg
   cases hg
 ·intro hi
  rw [if_pos (rest.2 λ i j Hp hj=>hi.rest i j Hp hj),aFF hc,decide_eq_true_eq]
  exact allow.2 λ i Hp k hk=>((qX.1 (hi.vB i Hp rfl)).2.2 k hk).2.2
end Go.Proofs.YtihapemckcdicaaGreatDoor
namespace Go.Proofs.YtihapemckcdicaaGreatDoor
open Go.Lg Go.Proofs
set_option maxRecDepth 10000
theorem aTw{a c:List Int}(ha:a.length≤1000)(_:c.length≤1000):zw a c=some (ajB a c):=by
 unfold zw ajB
 refine (vK (agK a c) c.length (d:=false) (λ i hi=>?_) (by simp only [ja,b8]) rfl)
 simp only [dec_lt hi,cV,fJ,df hi]
 unfold agK
 by_cases h1:a.length≤i
 ·rw [show decide ((i:Int) ≥ (a.length:Int))=true by simp; omega,cV,if_pos h1]
  rfl
 ·rw [show decide ((i:Int) ≥ (a.length:Int))=false by simp; omega,b8,if_neg h1]
  simp only [df (show i < a.length by omega),Option.bind_some]
  by_cases h2:nth a i < nth c i
  ·rw [decide_eq_true h2,if_pos h2]; rfl
  ·rw [decide_eq_false h2,if_neg h2,b8]
   by_cases h3:nth a i > nth c i
   ·rw [decide_eq_true h3,if_pos h3]; rfl
   ·rw [decide_eq_false h3,if_neg h3,b8,fY (i:=i) (by omega)]
theorem aVS{α:Type}[Inhabited α]{a c:List α}{k:Nat}(ha:k≤a.length)(hc:k≤c.length)(h:∀ m,m < k→nth a m=nth c m):a.take k=c.take k :=
 ZH (by rw [List.length_take,List.length_take]; omega) λ i hi=>by
  rw [List.length_take] at hi
  rw [qP (by omega),qP (by omega)]
  exact h i (by omega)
theorem aTR{a c:List Int}(h:a.length=c.length):(ajB a c=true∧D4 a c)∨(ajB a c=false∧D4 c a)∨(ajB a c=false∧a=c):=by
 unfold ajB
 cases he:eI (agK a c) 0 c.length with
 | none =>
  rw [se] at he
  refine .inr (.inr ⟨rfl,ZH h λ i hi=>?_⟩)
  have:=he i (by omega) (by omega)
  unfold agK at this
  rw [if_neg (by omega)] at this
  split at this
  ·cases this
  ·split at this
   ·cases this
   ·omega
 | some o =>
  obtain ⟨j,_,hj,hej,hb⟩:=zv he
  have heq:∀ m,m < j→nth a m=nth c m:=λ m hm=>by
   have:=hb m (by omega) hm
   unfold agK at this
   rw [if_neg (by omega)] at this
   split at this
   ·cases this
   ·split at this
    ·cases this
    ·omega
  have ht:=aVS (a:=a) (c:=c) (k:=j) (by omega) (by omega) heq
  unfold agK at hej
  rw [if_neg (by omega)] at hej
  split at hej
  ·rename_i bK
   cases hej
   exact .inl ⟨rfl,j,by omega,by omega,ht,bK⟩
  ·split at hej
   ·rename_i hgt
    cases hej
    exact .inr (.inl ⟨rfl,j,by omega,by omega,ht.symm,hgt⟩)
   ·cases hej
theorem aZS{a c:List Int}(h:a.length=c.length)(ha:a.length≤1000):zy a c=some (decide (a=c)):=by
 unfold zy
 rw [aTw ha (by omega),Option.bind_some]
 rcases aTR h with ⟨e,hl⟩ | ⟨e,hl⟩ | ⟨e,rfl⟩
 ·rw [e]
  have:a≠c:=λ hh=>Re a (by rw [← hh] at hl; exact hl)
  rw [decide_eq_false this]
  rfl
 ·rw [e,Bool.not_false,cV,aTw (by omega) ha,Option.bind_some]
  have dU:a≠c:=λ hh=>Re a (by rw [← hh] at hl; exact hl)
  rw [decide_eq_false dU]
  rcases aTR h.symm with ⟨e2,_⟩ | ⟨_,hl2⟩ | ⟨_,e3⟩
  ·rw [e2]; rfl
  ·exact absurd hl2 (ajS _ _ hl)
  ·exact absurd e3.symm dU
 ·rw [e,Bool.not_false,cV,aTw ha ha,e,decide_eq_true rfl]
  rfl
def aH3(x y:List (List Int))(i:Nat):Option Bool:=if nth x i=nth y i then none else some (ajB (nth x i) (nth y i))
def aFs(x y:List (List Int)):Bool:=(eI (aH3 x y) 0 x.length).getD false
structure Alike (x y:List (List Int)):Prop where
 len:x.length=y.length
 row:∀ i,i < x.length→(nth x i).length=(nth y i).length∧(nth x i).length≤1000
 small:x.length≤1000
theorem aVe{x y:List (List Int)}(h:Alike x y):HI x y=some (aFs x y):=by
 have hs:=h.small
 have hl:=h.len
 unfold HI aFs
 refine (vK (aH3 x y) x.length (d:=false) (λ i hi=>?_) ?_ rfl)
 ·have hr:=h.row i hi
  simp only [dec_lt hi,dec_lt (show i < y.length by omega),cV,Option.bind_some,fJ,df hi,df (show i < y.length by omega),aZS hr.1 hr.2,aTw hr.2 (show (nth y i).length≤1000 by omega),fY (i:=i) (by omega)]
  unfold aH3
  by_cases e:nth x i=nth y i
  ·rw [if_pos e,decide_eq_true e]; rfl
  ·rw [if_neg e,decide_eq_false e]; rfl
 ·simp only [ja,b8,Option.bind_some]
theorem aTM{x y:List (List Int)}(h:Alike x y)(hb:aFs x y=true):D9 x y:=by
 have hl:=h.len
 unfold aFs at hb
 cases he:eI (aH3 x y) 0 x.length with
 | none=>rw [he] at hb; cases hb
 | some o =>
  rw [he] at hb
  obtain rfl:o=true:=by simpa using hb
  obtain ⟨j,_,hj,hej,Qi⟩:=zv he
  have heq:∀ m,m < j→nth x m=nth y m:=λ m hm=>by
   have:=Qi m (by omega) hm
   unfold aH3 at this
   split at this
   ·assumption
   ·cases this
  refine ⟨j,by omega,by omega,aVS (by omega) (by omega) heq,?_⟩
  unfold aH3 at hej
  split at hej
  ·cases hej
  ·have hej:ajB (nth x j) (nth y j)=true:=by simpa using hej
   rcases aTR (h.row j (by omega)).1 with ⟨_,h5⟩ | ⟨e,_⟩ | ⟨e,_⟩
   ·exact h5
   ·rw [hej] at e; cases e
   ·rw [hej] at e; cases e
theorem aWk(x:List (List Int)):aFs x x=false:=by
 unfold aFs
 rw [se.2 λ i _ _=>by unfold aH3; rw [if_pos rfl]]
 rfl
theorem aPC{b:ao}(hv:Valid b){x y:List (List Int)}(hx:YO b x)(hy:YO b y):Alike x y:=by
 have hd:=hv.d4
 refine ⟨hx.len.trans hy.len.symm,λ i hi=>?_,by rw [hx.len]; omega⟩
 have hi:i < b.av.length:=by rw [← hx.len]; exact hi
 have h1:=(hx.row i hi).1
 have h2:=(hy.row i hi).1
 have h3:=(hv.dv hi).rL
 omega
theorem aZP{b:ao}(hv:Valid b){r:List (List Int)}(hl:r.length=b.av.length)(hr:∀ i,i < b.av.length→(nth r i).length≤1000)(k:Int):Q3 b r k=some (ib (kR b) r k b.av.length):=by
 have hd:=hv.d4
 unfold Q3
 refine (xg (o:=ib (kR b) r k b.av.length) ?_).trans rfl
 have e0:((0:Int),(0:Int))=(λ i:Nat=>(ib (kR b) r k i,(i:Int))) 0:=rfl
 rw [e0,hl]
 refine CK (λ i:Nat=>(ib (kR b) r k i,(i:Int))) b.av.length (λ i hi=>?_) (by simp only [ja,b8])
 have hb:=aGX hv r k i (by omega)
 have ht:=(hv.dv hi).Hv
 have e1:kR b i=(nth b.av i).gR:=rfl
 simp only [dec_lt hi,cV,fJ,df (show i < r.length by omega),df hi,Option.bind_some,aS0 (hr i hi),fY (i:=i) (by omega),ib]
 cases hc:(nth r i).contains k with
 | true =>
  rw [List.contains_iff_mem] at hc
  rw [cV,if_pos hc,oq (by omega) (by omega)]
  rfl
 | false =>
  have:¬ k∈nth r i:=λ h=>by rw [← List.contains_iff_mem,hc] at h; cases h
  rw [b8,if_neg this,Int.add_zero]
theorem aVd{b:ao}(hv:Valid b){r:List (List Int)}(hl:r.length=b.av.length)(hr:∀ i,i < b.av.length→(nth r i).length≤1000):m64 b r=some (Av b r):=by
 have hm:=hv.m4
 unfold m64
 refine (xg (o:=Av b r) ?_).trans rfl
 have e0:((0:Int),(0:Int))=(λ k:Nat=>(r6 (kR b) r b.av.length k,(k:Int))) 0:=rfl
 rw [e0]
 refine CK (λ k:Nat=>(r6 (kR b) r b.av.length k,(k:Int))) b.ax.length (λ k hk=>?_) (by simp only [ja,b8])
 simp only [dec_lt hk,cV,aZP hv hl hr,Option.bind_some,aFJ,fY (i:=k) (by omega),r6]
theorem YO.rl{b:ao}(hv:Valid b){r:List (List Int)}(h:YO b r):∀ i,i < b.av.length→(nth r i).length≤1000:=λ i hi=>by
 have h1:=(h.row i hi).1
 have h3:=(hv.dv hi).rL
 omega
theorem aVl{b:ao}(hv:Valid b){r:List (List Int)}(h:r∈vD b):YO b r:=aZ9 hv ((aFK hv).1 h)
theorem a0a(x y z:List Int)(h1:D4 x y)(h2:D4 y z):D4 x z:=by
 obtain ⟨i,hi1,Hp,hi3,hi4⟩:=h1
 obtain ⟨j,hj1,hj2,hj3,hj4⟩:=h2
 have tk:∀ {p q:List Int} {k m:Nat},p.take k=q.take k→m < k→m < p.length→m < q.length→nth p m=nth q m:=λ h hm _ _=>by
  rw [← qP hm,h,qP hm]
 rcases Nat.lt_trichotomy i j with h | h | h
 ·refine ⟨i,hi1,by omega,?_,?_⟩
  ·rw [hi3]; have:=congrArg (List.take i) hj3; rwa [List.take_take,List.take_take,Nat.min_eq_left (by omega)] at this
  ·rw [← tk hj3 h (by omega) (by omega)]; exact hi4
 ·subst h
  exact ⟨i,hi1,hj2,hi3.trans hj3,by omega⟩
 ·refine ⟨j,by omega,hj2,?_,?_⟩
  ·rw [← hj3]; have:=congrArg (List.take j) hi3; rwa [List.take_take,List.take_take,Nat.min_eq_left (by omega)] at this
  ·rw [tk hi3 h (by omega) (by omega)]; exact hj4
theorem aZ8(x y z:List (List Int))(h1:D9 x y)(h2:D9 y z):D9 x z:=by
 obtain ⟨i,hi1,Hp,hi3,hi4⟩:=h1
 obtain ⟨j,hj1,hj2,hj3,hj4⟩:=h2
 have tk:∀ {p q:List (List Int)} {k m:Nat},p.take k=q.take k→m < k→m < p.length→m < q.length→nth p m=nth q m:=λ h hm _ _=>by
  rw [← qP hm,h,qP hm]
 rcases Nat.lt_trichotomy i j with h | h | h
 ·refine ⟨i,hi1,by omega,?_,?_⟩
  ·rw [hi3]; have:=congrArg (List.take i) hj3; rwa [List.take_take,List.take_take,Nat.min_eq_left (by omega)] at this
  ·rw [← tk hj3 h (by omega) (by omega)]; exact hi4
 ·subst h
  exact ⟨i,hi1,hj2,hi3.trans hj3,a0a _ _ _ hi4 hj4⟩
 ·refine ⟨j,by omega,hj2,?_,?_⟩
  ·rw [← hj3]; have:=congrArg (List.take j) hi3; rwa [List.take_take,List.take_take,Nat.min_eq_left (by omega)] at this
  ·rw [tk hi3 h (by omega) (by omega)]; exact hj4
theorem aZ7{b:ao}(hv:Valid b){i:Nat}(hi:i < b.av.length)(h:(b.ax.length:Int) < (nth b.av i).ax):vD b=[]:=by
 cases hr:vD b with
 | nil=>rfl
 | cons r l =>
  have hp:=aVl hv (show r∈vD b by rw [hr]; simp)
  obtain ⟨h1,h2,h3⟩:=hp.row i hi
  have:=ajx (nth r i) 0 ((b.ax.length:Int) - 1) h2 (λ x hx=>by have:=h3 x hx; omega)
  omega
theorem aZC(b:ao)(l:List Int):m10 b l=some true:=by
 unfold m10
 rw [aBe,aDa,Option.bind_some]
 cases hg:Bp b with
 | true=>rfl
 | false =>
 by_cases h1:lR b=0
 case neg =>
  have:(lR b == 0)=false:=by simpa using h1
  rw [this]
  rfl
 have hs:=ZT hg
 have hv:=D5.1 h1
 have Y7:=hv.d4
 simp only [h1,Bool.not_false,beq_self_eq_true,Bool.and_true,Bool.not_true,b8]
 obtain ⟨r,ok,hr,hp,aSP⟩:=aVb hv l
 rw [ah0 hs,aZT hs,aIq hs,hr]
 simp only [Option.bind_some]
 by_cases hc:gA b=[]
 ·have e9:nz b 0=9:=by rw [ag4 hv,if_pos hc]
  unfold QI aTm ajF
  rw [e9]
  rfl
 have e0:nz b 0=0:=aGp hv rfl hc
 unfold QI aTm ajF
 rw [e0]
 simp only [ne_eq,not_true_eq_false,if_false]
 cases ok with
 | false =>
  obtain ⟨i,hi,bK⟩:=aSP rfl
  rw [aZ7 hv hi bK]
  rfl
 | true =>
 have hP:=hp rfl
 have aTn:∀ {q:List (List Int)},YO b q→m32 b q=some (agT b q,0):=λ hq=>by rw [aU9 hv hq,if_neg hc]
 cases hb:vD b with
 | nil =>
  have hng:(agT b r == 1)=false:=by
   cases h:agT b r == 1 with
   | false=>rfl
   | true=>have:=(aSN hv hc hP).1 h; rw [hb] at this; cases this
  simp only [aTn hP,Option.bind_some,bne_self_eq_false,b8,hng]
  rfl
 | cons p t =>
  have hpm:p∈vD b:=by rw [hb]; simp
  have hfm:nK (Av b) p t∈vD b:=by rw [hb]; exact aFQ _ _ _
  have pp:=aVl hv hpm
  have pf:=aVl hv hfm
  have aTs:=ajR (gv b (oJ b) 0)
  rw [show r7 (gv b (oJ b) 0)=p::t from hb] at aTs
  obtain ⟨_,aVA⟩:=ZN (Av b) aZ8 t p aTs
  have gp:agT b p=1:=by have:=(aSN hv hc pp).2 hpm; simpa using this
  have gf:agT b (nK (Av b) p t)=1:=by have:=(aSN hv hc pf).2 hfm; simpa using this
  have nb1:aFs (nK (Av b) p t) p=false:=by
   cases h:aFs (nK (Av b) p t) p with
   | false=>rfl
   | true=>exact absurd (aTM (aPC hv pf pp) h) (aHg aTs (by rw [← hb]; exact hfm))
  have w1:=aVA p (by simp)
  simp only [aTn hP,aTn pp,aTn pf,gp,gf,aVc hv pp,aVc hv pf,aVd hv pf.len (pf.rl hv),aVd hv pp.len (pp.rl hv),aVd hv hP.len (hP.rl hv),aVe (aPC hv pf pp),aVe (aPC hv hP pp),aVe (aPC hv hP pf),nb1,Option.bind_some,bne_self_eq_false,b8,cV,beq_self_eq_true,Bool.not_true,show decide ((((p::t).length:Nat):Int) > 0)=true by simp,show decide (Av b (nK (Av b) p t) > Av b p)=false by simp; omega]
  cases hgr:agT b r == 1 with
  | false =>
   have dU:(agT b r != 1)=true:=by simp [bne,hgr]
   rw [dU]
   rfl
  | true =>
   have hrm:=(aSN hv hc hP).1 hgr
   have dU:(agT b r != 1)=false:=by simp [bne,hgr]
   have nb2:aFs r p=false:=by
    cases h:aFs r p with
    | false=>rfl
    | true=>exact absurd (aTM (aPC hv hP pp) h) (aHg aTs (by rw [← hb]; exact hrm))
   have w2:=aVA r (by rw [← hb]; exact hrm)
   rw [dU,nb2]
   simp only [b8,cV,Bool.not_false,Option.bind_some,show decide (Av b r ≥ Av b (nK (Av b) p t))=true by simp; omega]
   by_cases hgt:Av b r > Av b (nK (Av b) p t)
   ·rw [decide_eq_true hgt]; rfl
   ·rw [decide_eq_false hgt,b8]
    have nb3:aFs r (nK (Av b) p t)=false:=by
     cases h:aFs r (nK (Av b) p t) with
     | false=>rfl
     | true =>
      have bK:=aTM (aPC hv hP pf) h
      rcases w2.2 (by omega) with e | e
      ·rw [e] at h; rw [aWk] at h; cases h
      ·exact absurd bK (ajQ e)
    rw [nb3]
    rfl
end Go.Proofs.YtihapemckcdicaaGreatDoor
