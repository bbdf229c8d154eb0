/- Plain laws of chapter 5, the rest. Conditions: none. -/
import Derived.Test.YtihapemckcdicaaGreatDoorR7StL
import Derived.Test.YtihapemckcdicaaGreatDoorQEStP
import Derived.Test.YtihapemckcdicaaGreatDoorQEStC
namespace Go.Proofs.YtihapemckcdicaaGreatDoor
open Go.Lg Go.Proofs
set_option maxRecDepth 10000
def lW(c:List Int):List Bool:=(List.range 4).map λ (k:Nat)=>c.contains (k:Int)
def fK(r:List (List Int)):List Bool:=(List.range 16).map λ p=>(nth r (p / 4)).contains ((p % 4:Nat):Int)
theorem Rd(r:List (List Int)):(fK r).length=16:=by simp [fK]
theorem Zi(r:List (List Int)){p:Nat}(hp:p < 16):(fK r)[p]? = some ((nth r (p / 4)).contains ((p % 4:Nat):Int)):=by
 unfold fK
 rw [List.getElem?_map,List.getElem?_range hp]
 rfl
theorem D1(c:List Int){k:Nat}(hk:k < 4):idx (lW c) (k:Int)=some (c.contains (k:Int)):=by
 unfold lW
 rw [fJ,List.getElem?_map,List.getElem?_range hk]
 rfl
theorem LC(r:List (List Int)){i:Nat}(hi:i < 4):gI 4 (fK r) (i:Int)=some (lW (nth r i)):=by
 match i,hi with
 | 0,_=>rfl
 | 1,_=>rfl
 | 2,_=>rfl
 | 3,_=>rfl
theorem aGj{r r':List (List Int)}(h:∀ i k:Nat,i < 4→k < 4→(nth r i).contains (k:Int)=(nth r' i).contains (k:Int)):fK r=fK r':=by
 unfold fK
 refine List.map_congr_left λ p hp=>?_
 rw [List.mem_range] at hp
 exact h (p / 4) (p % 4) (by omega) (by omega)
theorem ahF{r r':List (List Int)}{i k:Nat}(_:i < 4)(hk:k < 4){x:Bool}(h:∀ j m:Nat,j < 4→m < 4→(nth r' j).contains (m:Int)=if j=i∧m=k then x else (nth r j).contains (m:Int)):lM 4 (fK r) (i:Int) (k:Int) x=fK r':=by
 unfold lM
 rw [Int.toNat_natCast,Int.toNat_natCast]
 refine List.ext_getElem? λ p=>?_
 by_cases hp:p < 16
 ·rw [List.getElem?_set,Zi r' hp,Zi r hp,Rd,h (p / 4) (p % 4) (by omega) (by omega)]
  by_cases e:i * 4+k=p
  ·rw [if_pos e,if_pos (by omega),if_pos ⟨by omega,by omega⟩]
  ·rw [if_neg e,if_neg (λ hc=>e (by omega))]
 ·rw [List.getElem?_eq_none (by rw [List.length_set,Rd]; omega),List.getElem?_eq_none (by rw [Rd]; omega)]
theorem ahE(p:List (List Int)):fK (p++[[]])=fK p:=aGj λ i k _ _=>by
 by_cases h:i < p.length
 ·rw [zc h]
 ·have e1:nth p i=[]:=by unfold nth; rw [List.getD_eq_getElem?_getD,List.getElem?_eq_none (by omega)]; rfl
  have e2:nth (p++[[]]) i=[]:=by
   by_cases h2:i=p.length
   ·subst h2; exact zn
   ·unfold nth; rw [List.getD_eq_getElem?_getD,List.getElem?_eq_none (by simp; omega)]; rfl
  rw [e1,e2]
def xh(b:ao)(c:List Int)(k i:Nat):Bool:=decide (nth c (nth b.av i).Place.toNat≤(nth b.ax k).mg) && decide ((nth b.av i).gR≤xj b (nth c (nth b.av i).Place.toNat))
theorem ahZ{b:ao}(hv:Valid b){c:List Int}(hc:c.length=b.aM.length){k i:Nat}(hk:k < b.ax.length)(hi:i < b.av.length):yq b (oK c) (k:Int) (i:Int)=some (xh b c k i):=by
 have hp:=(hv.dv hi).place
 unfold yq xh
 have e:idx (oK c).deep (nth b.av i).Place=some (nth c (nth b.av i).Place.toNat):=by
  have:=aE4 hv hc (i:=(nth b.av i).Place.toNat) (by omega)
  rwa [Int.toNat_of_nonneg hp.1] at this
 simp only [fJ,df hi,df hk,Option.bind_some,e,ajk (show b.Rows.length≤20 by have:=hv.r4; omega)]
 cases decide (nth c (nth b.av i).Place.toNat≤(nth b.ax k).mg) <;> rfl
def re(b:ao)(i k:Nat):Bool:=(gA b).all λ c=>xh b c k i
def sj(b:ao):List Bool:=(List.range 16).map λ p=>if p / 4 < b.av.length∧p % 4 < b.ax.length then re b (p / 4) (p % 4) else false
theorem aF8{b:ao}(hv:Valid b){i k:Nat}(hi:i < b.av.length)(hk:k < b.ax.length):qR (jQ b) i k=some (re b i k):=by
 unfold qR
 rw [ahY hv (p:=λ c=>xh b c k i) (λ c hc=>by unfold zb; rw [show (jQ b).book=b from rfl,ahZ hv (ah3.1 hc).1.1 hk hi]; rfl),Option.bind_some]
 congr 1
 rw [show ((jQ b).fi.length:Int)=((gA b).length:Int) by simp [jQ],Bool.eq_iff_iff,beq_iff_eq]
 unfold re
 rw [List.all_eq_true]
 constructor
 ·intro h
  have h:((gA b).filter λ c=>xh b c k i).length=(gA b).length:=by omega
  rw [List.length_filter_eq_length_iff] at h
  exact h
 ·intro h
  have:((gA b).filter λ c=>xh b c k i).length=(gA b).length:=List.length_filter_eq_length_iff.2 h
  omega
theorem mapM_some{α β:Type}{f:α→Option β}{g:α→β}:∀ {l:List α},(∀ x∈l,f x=some (g x))→l.mapM f=some (l.map g)
 | [],_=>rfl
 | a::l,h=>by
  rw [List.mapM_cons,h a (by simp),mapM_some λ x hx=>h x (by simp [hx])]
  rfl
theorem Z1{b:ao}(hv:Valid b):tB (jQ b)=some (sj b):=by
 unfold tB sj
 rw [show (jQ b).book=b from rfl,if_pos ⟨⟨hv.d1,hv.d4⟩,hv.m1,hv.m4⟩]
 refine mapM_some λ p _=>?_
 by_cases h:p / 4 < b.av.length∧p % 4 < b.ax.length
 ·rw [if_pos h,if_pos h,aF8 hv h.1 h.2]
 ·rw [if_neg h,if_neg h]
theorem aFO{b:ao}{i:Nat}(hi:i < 4):∃ g,gI 4 (sj b) (i:Int)=some g∧∀ k:Nat,k < 4→idx g (k:Int)=some (if i < b.av.length∧k < b.ax.length then re b i k else false):=by
 have e:gI 4 (sj b) (i:Int)=some ((List.range 4).map λ k=>if i < b.av.length∧k < b.ax.length then re b i k else false):=by
  match i,hi with
  | 0,_=>rfl
  | 1,_=>rfl
  | 2,_=>rfl
  | 3,_=>rfl
 refine ⟨_,e,λ k hk=>?_⟩
 rw [fJ,List.getElem?_map,List.getElem?_range hk]
 rfl
def gv(b:ao)(g:List Bool)(o:Nat):RB:=⟨b.ax.length,b.av.length,λ i=>(nth b.av i).ax.toNat,λ i k=>nth g k && re b i k,sB b,λ i=>o.testBit i⟩
set_option maxRecDepth 1000000 in
theorem aFS:((List.range 16).all λ x=>(List.range 5).all λ i=>((kU .i64 x i).bind λ y=>fH .and .i64 y 1) == some (if x.testBit i then 1 else 0))=true:=by decide +kernel
theorem aFR{x i:Nat}(h:x < 16)(hi:i < 5):(kU .i64 (x:Int) (i:Int)).bind (λ y=>fH .and .i64 y 1)=some (if x.testBit i then 1 else 0):=by
 have:=aFS
 simp only [List.all_eq_true,List.mem_range,beq_iff_eq] at this
 exact this x h i hi
theorem aGb{b:ao}(hv:Valid b){pre:List (List Int)}{c:List Int}(hi:pre.length < b.av.length)(hc:∀ k∈c,0≤k∧k < (b.ax.length:Int))(g:List Bool)(o:Nat):xp b (fK (pre++[c])) (pre.length:Int)=some (Bi (gv b g o) pre pre.length c):=by
 have hd:=hv.d4
 have hm:=hv.m4
 unfold xp Bi
 rw [LP (n:=pre.length) (λ j=>(gv b g o).ap j pre.length || !meet c (nth pre j)) false (λ j hj=>?_) (by simp only [ja,b8])]
 ·cases (List.range pre.length).all λ j=>(gv b g o).ap j pre.length || !meet c (nth pre j) <;> rfl
 ·simp only [dec_lt hj,cV,ajl hv (show j < b.av.length by omega) hi,Option.bind_some,show (gv b g o).ap j pre.length=sB b j pre.length from rfl]
  cases sB b j pre.length with
  | true=>simp only [cV,Bool.true_or,if_true,fY (i:=j) (by omega)]
  | false =>
   simp only [b8,Bool.false_or]
   rw [LP (n:=b.ax.length) (λ k=>!((nth pre j).contains (k:Int) && c.contains (k:Int))) false (λ k hk=>?_) (by simp only [ja,b8])]
   ·have e:((List.range b.ax.length).all λ k=>!((nth pre j).contains (k:Int) && c.contains (k:Int)))=!meet c (nth pre j):=by
     rw [Bool.eq_iff_iff,Bool.not_eq_true',Ei,List.all_eq_true]
     constructor
     ·intro h k hk hk2
      have hb:=hc k hk
      have:=h k.toNat (by rw [List.mem_range]; omega)
      rw [Int.toNat_of_nonneg hb.1] at this
      simp [hk,hk2] at this
     ·intro h k _
      rw [Bool.not_eq_true',Bool.and_eq_false_iff]
      by_cases hk:(k:Int)∈c
      ·exact .inl (by have:=h _ hk; simpa using this)
      ·exact .inr (by simpa using hk)
    rw [e]
    cases meet c (nth pre j) with
    | true=>rfl
    | false=>simp only [Bool.not_false,if_true,Option.bind_some,Sum.elim_inl,fY (i:=j) (by omega)]
   ·simp only [dec_lt hk,cV,LC _ (show j < 4 by omega),LC _ (show pre.length < 4 by omega),Option.bind_some,D1 _ (show k < 4 by omega),zc hj,zn,fY (i:=k) (by omega)]
    cases (nth pre j).contains (k:Int) <;> cases c.contains (k:Int) <;> rfl
theorem aGi{β:Type}(n k0:Nat)(h:k0≤n)(p:Nat→Bool)(f:Nat→List β):((List.range n).filter λ m=>p m && decide (k0≤m)).flatMap f=(List.range (n - k0)).flatMap λ j=>if p (k0+j)=true then f (k0+j) else []:=by
 obtain ⟨d,rfl⟩:∃ d,n=k0+d:=⟨n - k0,by omega⟩
 rw [List.range_add,List.filter_append,List.flatMap_append]
 have e1:((List.range k0).filter λ m=>p m && decide (k0≤m))=[]:=by
  rw [List.filter_eq_nil_iff]
  intro m hm
  rw [List.mem_range] at hm
  simp only [Bool.and_eq_true,decide_eq_true_eq,not_and]
  omega
 rw [e1,List.flatMap_nil,List.nil_append,Nat.add_sub_cancel_left,List.filter_map,List.flatMap_map,← aFw]
 rw [List.flatMap_assoc]
 congr 1
 funext j
 simp only [Function.comp_apply,Nat.le_add_right,decide_true,Bool.and_true]
 cases p (k0+j) <;> simp
def DZ(c:List Int)(k0:Nat):Prop:=∀ m:Nat,(c.all λ x=>decide (x < (m:Int)))=decide (k0≤m)
theorem aFX:DZ [] 0:=λ m=>by simp
theorem DZ.snoc{c:List Int}{k0 k:Nat}(h:DZ c k0)(hk:k0≤k):DZ (c++[(k:Int)]) (k+1):=λ m=>by
 rw [List.all_append,h m,Bool.eq_iff_iff]
 simp only [List.all_cons,List.all_nil,Bool.and_true,Bool.and_eq_true,decide_eq_true_eq]
 omega
abbrev aFT(A:RB)(i:Nat):Nat→List Int→List Int:=λ _ p=>G0 A.n (A.ok i) p
theorem aFU{A:RB}{i:Nat}{c:List Int}{k0:Nat}(hf:DZ c k0)(h:k0≤A.n){β:Type}(f:Int→List β):(G0 A.n (A.ok i) c).flatMap f=(List.range (A.n - k0)).flatMap λ j=>if A.ok i (k0+j)=true then f ((k0+j:Nat):Int) else []:=by
 unfold G0 ny
 rw [List.filter_map,List.flatMap_map,← aGi A.n k0 h (A.ok i) λ m=>f (m:Int)]
 congr 1
 refine List.filter_congr λ m _=>?_
 simp only [Function.comp_apply,Int.toNat_natCast,hf m]
def zt(A:RB)(d:Nat)(pre:List (List Int))(left:Nat)(c:List Int):List (List Bool) :=
 (((tree (aFT A pre.length) left c.length c).filter (Bi A pre pre.length)).flatMap λ c'=>tree (sw A) d (pre.length+1) (pre++[c'])).map fK
def uj(A:RB)(d:Nat)(pre:List (List Int)):List (List Bool):=(tree (sw A) d pre.length pre).map fK
theorem aFZ{A:RB}{d:Nat}{pre:List (List Int)}(h:A.out pre.length=true):uj A (d+1) pre=uj A d (pre++[[]]):=by
 unfold uj
 simp only [tree,sw,h,if_true,List.flatMap_cons,List.flatMap_nil,List.append_nil,List.length_append,List.length_cons,List.length_nil]
theorem aFY{A:RB}{d:Nat}{pre:List (List Int)}(h:A.out pre.length=false):uj A (d+1) pre=zt A d pre (A.need pre.length) []:=by
 unfold uj zt
 simp only [tree,sw,h,Bool.false_eq_true,if_false,List.length_nil]
 rw [Y2]
 rfl
theorem aGg{A:RB}{d:Nat}{pre:List (List Int)}{c:List Int}:zt A d pre 0 c=if Bi A pre pre.length c=true then uj A d (pre++[c]) else []:=by
 unfold zt uj
 simp only [tree,List.filter_cons,List.filter_nil,List.length_append,List.length_cons,List.length_nil]
 split <;> simp
theorem aGh{A:RB}{d:Nat}{pre:List (List Int)}{c:List Int}{left k0:Nat}(hf:DZ c k0)(h:k0≤A.n):zt A d pre (left+1) c=(List.range (A.n - k0)).flatMap λ j=>if A.ok pre.length (k0+j)=true then zt A d pre left (c++[((k0+j:Nat):Int)]) else []:=by
 unfold zt
 simp only [tree]
 rw [aFU (A:=A) (i:=pre.length) hf h]
 simp only [List.filter_flatMap,List.flatMap_assoc,List.map_flatMap]
 congr 1
 funext j
 split <;> simp
theorem aGd{b:ao}(hv:Valid b){g:List Bool}(hg:g.length=4){o:Nat}(ho:o < 16){S:Type}(ys:List Bool→S→Option (S × Bool)):∀ d:Nat,
  (∀ (pre:List (List Int)) (f:Nat) (s:S) (r:S × Bool),pre.length+d=b.av.length→5 * d < f→kQ ys (uj (gv b g o) d pre) s=some r→(kT ys f).1 (fK pre) (pre.length:Int) (jQ b) (o:Int) g (sj b) s=some r) ∧
  (∀ (left:Nat) (pre:List (List Int)) (c:List Int) (k0 f:Nat) (s:S) (r:S × Bool),pre.length+d+1=b.av.length→5 * d+left+1 < f→DZ c k0→k0≤b.ax.length→(∀ k∈c,0≤k∧k < (b.ax.length:Int))→left≤3→kQ ys (zt (gv b g o) d pre left c) s=some r →
   (kT ys f).2 (fK (pre++[c])) (pre.length:Int) (k0:Int) (left:Int) (jQ b) (o:Int) g (sj b) s=some r):=by
 have hd:=hv.d4
 have hm:=hv.m4
 have two:∀ d:Nat,(∀ (pre:List (List Int)) (f:Nat) (s:S) (r:S × Bool),pre.length+d=b.av.length→5 * d < f→kQ ys (uj (gv b g o) d pre) s=some r→(kT ys f).1 (fK pre) (pre.length:Int) (jQ b) (o:Int) g (sj b) s=some r) →
   (∀ (left:Nat) (pre:List (List Int)) (c:List Int) (k0 f:Nat) (s:S) (r:S × Bool),pre.length+d+1=b.av.length→5 * d+left+1 < f→DZ c k0→k0≤b.ax.length→(∀ k∈c,0≤k∧k < (b.ax.length:Int))→left≤3→kQ ys (zt (gv b g o) d pre left c) s=some r →
   (kT ys f).2 (fK (pre++[c])) (pre.length:Int) (k0:Int) (left:Int) (jQ b) (o:Int) g (sj b) s=some r):=by
  intro d one left
  induction left with
  | zero =>
   intro pre c k0 f s r hl hf sf Lw hc _ hr
   obtain ⟨f,rfl⟩:∃ f',f=f'+1:=⟨f - 1,by omega⟩
   unfold kT
   simp only [Int.natCast_zero,beq_self_eq_true,cV]
   rw [show (jQ b).book=b from rfl,aGb hv (by omega) hc g o,Option.bind_some]
   rw [aGg] at hr
   cases ahg:Bi (gv b g o) pre pre.length c with
   | false =>
    rw [ahg] at hr
    simp only [Bool.false_eq_true,if_false,kQ,Option.some.injEq] at hr
    subst hr
    rfl
   | true =>
    rw [ahg,if_pos rfl] at hr
    have:=one (pre++[c]) f s r (by simp; omega) (by omega) hr
    rw [show (((pre++[c]).length:Nat):Int)=((pre.length+1:Nat):Int) by simp] at this
    simp only [Bool.not_true,b8,fY (i:=pre.length) (by omega),this,Option.bind_some]
  | succ left ih =>
   intro pre c k0 f s r hl hf sf Lw hc h3 hr
   obtain ⟨f,rfl⟩:∃ f',f=f'+1:=⟨f - 1,by omega⟩
   unfold kT
   simp only [show (((left+1:Nat):Int) == 0)=false by simp; omega,b8,show (jQ b).book=b from rfl]
   rw [aGh (A:=gv b g o) sf Lw,List.range_eq_range'] at hr
   obtain ⟨gr,hgr,hgk⟩:=aFO (b:=b) (i:=pre.length) (by omega)
   refine Exists.elim (YK (ys:=ys) (S:=S) (X:=Int × List Bool) (O:=S ⊕ (S × Bool)) (λ j=>if (gv b g o).ok pre.length (k0+j)=true then zt (gv b g o) d pre left (c++[((k0+j:Nat):Int)]) else []) ((gv b g o).n - k0)
    (λ j x=>x=(((k0+j:Nat):Int),fK (pre++[c]))) (λ s o=>o = .inl s) (λ s o=>o = .inr (s,false)) (body:=λ (bF:(S × Int × (List Bool))) =>
  aa (decide (bF.2.1 < (b.ax.length:Int)))
  (((((idx g bF.2.1).bind λ zi =>
  aa (!zi)
  (some true)
  ((gI 4 (sj b) (pre.length:Int)).bind λ tF =>
  (idx tF bF.2.1).bind λ zj =>
  some (!zj))):Option Bool)).bind (λ (A8:Bool) =>
  aa A8
  (some (.inl (bF.1,i64 (bF.2.1+1),bF.2.2)))
  ((gI 4 bF.2.2 (pre.length:Int)).bind λ GZ =>
  (idx GZ bF.2.1).bind λ gZ =>
  ((kT ys f).2 (lM 4 bF.2.2 (pre.length:Int) bF.2.1 true) (pre.length:Int) (i64 (bF.2.1+1)) (i64 (((left+1:Nat):Int) - 1)) (jQ b) (o:Int) g (sj b) bF.1).bind λ lQ =>
  aa (!lQ.2)
  (some (.inr (.inr (lQ.1,false))))
  ((gI 4 (lM 4 bF.2.2 (pre.length:Int) bF.2.1 true) (pre.length:Int)).bind λ vE =>
  (idx vE bF.2.1).bind λ YM =>
  some (.inl (lQ.1,i64 (bF.2.1+1),lM 4 (lM 4 bF.2.2 (pre.length:Int) bF.2.1 true) (pre.length:Int) bF.2.1 false))))))
  (some (.inr (.inl bF.1)))) (λ j s x r hj hI hr=>?_) (λ s x hI=>?_) ((gv b g o).n - k0) 0 s ((k0:Int),fK (pre++[c])) r (by omega) rfl hr) ?_
   ·subst hI
    have iO:k0+j < b.ax.length:=by have:(gv b g o).n=b.ax.length:=rfl; omega
    have YW:idx g ((k0+j:Nat):Int)=some (nth g (k0+j)):=by rw [fJ]; exact df (by omega)
    have hai:=hgk (k0+j) (by omega)
    rw [if_pos ⟨by omega,iO⟩] at hai
    have gJ:(gv b g o).ok pre.length (k0+j)=(nth g (k0+j) && re b pre.length (k0+j)):=rfl
    simp only [dec_lt iO,cV,YW,Option.bind_some,hgr,hai,fY (i:=k0+j) (by omega)]
    cases GM:(nth g (k0+j) && re b pre.length (k0+j)) with
    | false =>
     rw [gJ,GM] at hr
     simp only [Bool.false_eq_true,if_false,kQ,Option.some.injEq] at hr
     subst hr
     simp only [if_true]
     refine ⟨_,?_,rfl⟩
     rw [Bool.and_eq_false_iff] at GM
     rcases GM with h | h
     ·rw [h]; rfl
     ·rw [h]
      cases nth g (k0+j) <;> rfl
    | true =>
     rw [gJ,GM,if_pos rfl] at hr
     rw [Bool.and_eq_true] at GM
     have hnc:¬ ((k0+j:Nat):Int)∈c:=λ mE=>by
      have:=sf (k0+j)
      rw [decide_eq_true (by omega:k0≤k0+j),List.all_eq_true] at this
      have:=this _ mE
      simp at this
     have cont:∀ j' m:Nat,(nth (pre++[c++[((k0+j:Nat):Int)]]) j').contains (m:Int)=if j'=pre.length∧m=k0+j then true else (nth (pre++[c]) j').contains (m:Int):=by
      intro j' m
      by_cases e:j'=pre.length
      ·subst e
       rw [zn,zn]
       by_cases em:m=k0+j
       ·rw [if_pos ⟨rfl,em⟩,em]; simp
       ·rw [if_neg (λ h=>em h.2),Bool.eq_iff_iff,List.contains_iff_mem,List.contains_iff_mem,List.mem_append,List.mem_singleton]
        exact ⟨λ h=>h.resolve_right (by omega),.inl⟩
      ·rw [if_neg (λ h=>e h.1)]
       by_cases e2:j' < pre.length
       ·rw [zc e2,zc e2]
       ·have q:∀ z:List Int,nth (pre++[z]) j'=[]:=λ z=>by unfold nth; rw [List.getD_eq_getElem?_getD,List.getElem?_eq_none (by simp; omega)]; rfl
        rw [q,q]
     have s1:lM 4 (fK (pre++[c])) (pre.length:Int) ((k0+j:Nat):Int) true=fK (pre++[c++[((k0+j:Nat):Int)]]):=ahF (by omega) (by omega) λ j' m _ _=>cont j' m
     have s2:lM 4 (fK (pre++[c++[((k0+j:Nat):Int)]])) (pre.length:Int) ((k0+j:Nat):Int) false=fK (pre++[c]):=ahF (by omega) (by omega) λ j' m _ _=>by
      rw [cont j' m]
      by_cases e:j'=pre.length∧m=k0+j
      ·rw [if_pos e,e.1,e.2,zn]
       simpa using hnc
      ·rw [if_neg e,if_neg e]
     have aF4:=ih pre (c++[((k0+j:Nat):Int)]) (k0+j+1) f s r hl (by omega) (sf.snoc (by omega)) (by omega) (λ k hk=>by
      rw [List.mem_append,List.mem_singleton] at hk
      rcases hk with hk | rfl
      ·exact hc k hk
      ·omega) (by omega) hr
     simp only [GM.1,GM.2,Bool.not_true,b8,Option.bind_some,LC _ (show pre.length < 4 by omega),D1 _ (show k0+j < 4 by omega),s1,Qx (i:=left+1) (by omega) (by omega),Nat.add_sub_cancel,aF4,s2]
     cases hr2:r.2 with
     | true=>exact ⟨(((k0+(j+1):Nat):Int),fK (pre++[c])),by simp only [Bool.not_true,b8,Nat.add_assoc],rfl⟩
     | false=>exact ⟨.inr (r.1,false),by simp only [Bool.not_false,cV],rfl⟩
   ·subst hI
    refine ⟨.inl s,?_,rfl⟩
    rw [show k0+((gv b g o).n - k0)=b.ax.length from by have:(gv b g o).n=b.ax.length:=rfl; omega]
    simp only [ja,b8]
   ·rintro q ⟨hq,eR⟩
    have YX:=hq
    refine (xg YX).trans ?_
    split at eR
    ·rename_i h2; subst eR
     obtain ⟨r1,r2⟩:=r
     simp only at h2
     subst h2
     rfl
    ·rename_i h2; subst eR
     obtain ⟨r1,r2⟩:=r
     simp only [Bool.not_eq_true] at h2
     subst h2
     rfl
 intro d
 induction d with
 | zero =>
  have one:∀ (pre:List (List Int)) (f:Nat) (s:S) (r:S × Bool),pre.length+0=b.av.length→5 * 0 < f→kQ ys (uj (gv b g o) 0 pre) s=some r→(kT ys f).1 (fK pre) (pre.length:Int) (jQ b) (o:Int) g (sj b) s=some r:=by
   intro pre f s r hl hf hr
   obtain ⟨f,rfl⟩:∃ f',f=f'+1:=⟨f - 1,by omega⟩
   simp only [uj,tree,List.map_cons,List.map_nil,kQ] at hr
   obtain ⟨q,hq,hr⟩:=aj hr
   unfold kT
   simp only
   rw [show (jQ b).book=b from rfl,show ((pre.length:Int) == (b.av.length:Int))=true by simp; omega,cV,hq,Option.bind_some]
   obtain ⟨q1,q2⟩:=q
   cases q2 <;> simpa using hr
  exact ⟨one,two 0 one⟩
 | succ d ih =>
  have one:∀ (pre:List (List Int)) (f:Nat) (s:S) (r:S × Bool),pre.length+(d+1)=b.av.length→5 * (d+1) < f→kQ ys (uj (gv b g o) (d+1) pre) s=some r→(kT ys f).1 (fK pre) (pre.length:Int) (jQ b) (o:Int) g (sj b) s=some r:=by
   intro pre f s r hl hf hr
   obtain ⟨f,rfl⟩:∃ f',f=f'+1:=⟨f - 1,by omega⟩
   have hi:pre.length < b.av.length:=by omega
   have hb:=aFR (x:=o) (i:=pre.length) ho (by omega)
   obtain ⟨y,hy,hb⟩:=aj hb
   unfold kT
   simp only
   rw [show (jQ b).book=b from rfl,show ((pre.length:Int) == (b.av.length:Int))=false by simp; omega,b8,hy,Option.bind_some,hb,Option.bind_some]
   cases rZ:o.testBit pre.length with
   | true =>
    rw [aFZ (A:=gv b g o) rZ] at hr
    have:=ih.1 (pre++[[]]) f s r (by simp; omega) (by omega) hr
    rw [ahE,show (pre++[([]:List Int)]).length=pre.length+1 by simp] at this
    simp only [if_true,beq_self_eq_true,cV,fY (i:=pre.length) (by omega),this,Option.bind_some]
   | false =>
    rw [aFY (A:=gv b g o) rZ] at hr
    have atd:=(hv.dv hi).rL
    have:=ih.2 (nth b.av pre.length).ax.toNat pre [] 0 f s r (by omega) (by omega) aFX (by omega) (by simp) (by omega) hr
    rw [ahE,Int.toNat_of_nonneg (by omega)] at this
    simp only [Bool.false_eq_true,if_false,show ((0:Int) == 1)=false from rfl,b8,fJ,df hi,Option.bind_some]
    rw [show ((0:Nat):Int)=0 from rfl] at this
    rw [this]
    rfl
  exact ⟨one,two (d+1) one⟩
end Go.Proofs.YtihapemckcdicaaGreatDoor
namespace Go.Proofs.YtihapemckcdicaaGreatDoor
open Go.Lg Go.Proofs
set_option maxRecDepth 10000
theorem aFV{n need:Nat}{ok:Nat→Bool}(hn:n≤4):(A6 n need ok).length≤16:=by
 have h:=ajj (l:=A6 n need ok) (m:=(List.range (2 ^ n)).map (cJ n)) id (agS Re (agJ n need ok)) (λ x _ y _ h=>h) (λ c hc=>by
  have h1:=qX.1 hc
  obtain ⟨a,ha,e⟩:=aBs h1.2.1 (λ k hk=>⟨(h1.2.2 k hk).1,(h1.2.2 k hk).2.1⟩)
  exact List.mem_map.2 ⟨a,List.mem_range.2 ha,e.symm⟩)
 rw [List.length_map,List.length_range] at h
 exact Nat.le_trans h (Z6 (by omega))
theorem ahC{α:Type}{ext:Nat→List α→List α}{m:Nat}(h:∀ i p,(ext i p).length≤m):∀ n,(lvl ext n).length≤m ^ n
 | 0=>by simp [lvl]
 | n+1=>by
  have ih:=ahC h n
  simp only [lvl]
  refine Nat.le_trans (YH _ m (λ a=>by rw [List.length_map]; exact h _ _) _) ?_
  rw [Nat.pow_succ]
  exact Nat.mul_le_mul_right m ih
theorem aGk{A:RB}(hn:A.n≤4)(hd:A.D≤4):(r7 A).length≤65536:=by
 refine Nat.le_trans (ahC (m:=16) (λ i p=>?_) A.D) ?_
 ·unfold sw
  split
  ·simp
  ·exact Nat.le_trans (List.length_filter_le _ _) (aFV hn)
 ·calc 16 ^ A.D≤16 ^ 4:=Nat.pow_le_pow_right (by omega) hd
   _=65536:=by decide
theorem YL{b:ao}(hv:Valid b){g:List Bool}(hg:g.length=4){o:Nat}(ho:o < 16){S:Type}(ys:List Bool→S→Option (S × Bool)){s:S}{r:S × Bool}(hr:kQ ys ((r7 (gv b g o)).map fK) s=some r) :
  qk ys (jQ b) (o:Int) g (sj b) s=some r.1:=by
 unfold qk
 have h:=(aGd hv hg ho ys b.av.length).1 [] 40 s r (by simp) (by have:=hv.d4; omega) (by
  unfold uj
  rw [List.length_nil,show tree (sw (gv b g o)) b.av.length 0 []=r7 (gv b g o) from Y2 _ _]
  exact hr)
 have e:fK []=[false,false,false,false,false,false,false,false,false,false,false,false,false,false,false,false]:=rfl
 rw [List.length_nil,Int.natCast_zero,e] at h
 rw [h]
 rfl
def oJ(b:ao):List Bool:=lW (ny b.ax.length)
theorem Zw(b:ao):(oJ b).length=4:=by simp [oJ,lW]
theorem LG(c:List Int):(lW c).length=4:=by simp [lW]
theorem apS(c:List Int){k:Nat}(hk:k < 4):nth (lW c) k=c.contains (k:Int):=by
 have h:=D1 c hk
 rw [fJ] at h
 rw [df (by rw [LG]; exact hk)] at h
 exact Option.some.inj h
theorem ahP{c:List Int}{k:Nat}(hk:k < 4):(lW c).set k true=lW (c++[(k:Int)]):=by
 refine List.ext_getElem? λ p=>?_
 by_cases hp:p < 4
 ·rw [List.getElem?_set,LG]
  have e:∀ d:List Int,(lW d)[p]? = some (d.contains (p:Int)):=λ d=>by have:=D1 d hp; rwa [fJ] at this
  rw [e,e]
  by_cases h:k=p
  ·subst h
   rw [if_pos rfl,if_pos hk]
   simp
  ·rw [if_neg h]
   congr 1
   rw [Bool.eq_iff_iff,List.contains_iff_mem,List.contains_iff_mem,List.mem_append,List.mem_singleton]
   exact ⟨.inl,λ h2=>h2.resolve_right (by omega)⟩
 ·rw [List.getElem?_eq_none (by rw [List.length_set,LG]; omega),List.getElem?_eq_none (by rw [LG]; omega)]
theorem Z2{b:ao}(hv:Valid b):vC b=some (oJ b):=by
 have hm:=hv.m4
 unfold vC oJ
 refine (xg (o:=lW (ny b.ax.length)) ?_).trans rfl
 have e0:((0:Int),[false,false,false,false])=(λ i:Nat=>((i:Int),lW (ny i))) 0:=rfl
 rw [e0]
 refine CK (λ i:Nat=>((i:Int),lW (ny i))) b.ax.length (λ i hi=>?_) (by simp only [ja,b8])
 have:=D1 (ny i) (show i < 4 by omega)
 simp only [dec_lt hi,cV,this,Option.bind_some,fY (i:=i) (by omega),Int.toNat_natCast,ahP (show i < 4 by omega),aEh]
abbrev vD(b:ao):List (List (List Int)):=r7 (gv b (oJ b) 0)
theorem ahD{b:ao}(hv:Valid b)(g:List Bool)(o:Nat):(r7 (gv b g o)).length≤65536:=aGk hv.m4 hv.d4
def QI(b:ao):Int × Int:=if nz b 0≠0 then (0,nz b 0) else ((vD b).length,0)
theorem ah0{b:ao}(hs:Small b):np b=some (QI b):=by
 unfold np QI
 rw [Zg hs (own:=0) (λ _=>rfl),Option.bind_some]
 unfold GX
 by_cases h:nz b 0=0
 ·obtain ⟨hv,_,_⟩:=ZS h
  have hl:=ahD hv (oJ b) 0
  simp only [h,ne_eq,not_true_eq_false,if_false,bne_self_eq_false,b8,Z1 hv,show (jQ b).book=b from rfl,Z2 hv,vJ,Option.bind_some]
  rw [show (0:Int)=((0:Nat):Int) from rfl,YL hv (Zw b) (by omega) _ (r:=(.inl ((((vD b).map fK).foldl (λ (s:Int) _=>s+1) 0)),true)) (QN (λ k s=>s=(k:Int)) (λ _ s=>s+1) _ 0 _ rfl (λ j s a hj hs _=>by
   subst hs
   simp only [List.length_map] at hj
   rw [fY (i:=j) (by omega)]
   exact ⟨rfl,rfl⟩))]
  have key:∀ (l:List (List Bool)) (s:Int),l.foldl (λ s _=>s+1) s=s+l.length:=by
   intro l
   induction l with
   | nil=>simp
   | cons a l ih=>intro s; rw [List.foldl_cons,ih]; simp; omega
  rw [Option.bind_some,Sum.elim_inl,key,List.length_map]
  simp
 ·simp only [h,ne_eq,not_false_eq_true,if_true,D3 h,cV]
def tL(b:ao)(g:List Bool)(o:Nat):Bool:=!(r7 (gv b g o)).isEmpty
theorem aFH{b:ao}(hv:Valid b){g:List Bool}(hg:g.length=4){o:Nat}(ho:o < 16):zq (jQ b) (sj b) g (o:Int)=some (tL b g o):=by
 unfold zq tL
 simp only [vJ,Option.bind_some]
 cases hc:r7 (gv b g o) with
 | nil =>
  rw [YL hv hg ho _ (r:=(.inl (),true)) (by rw [hc]; rfl)]
  rfl
 | cons r l =>
  rw [YL hv hg ho _ (r:=(.inr (),false)) (by rw [hc]; rfl)]
  rfl
def abZ(b:ao):List Int × Int:=if nz b 0≠0 then ([],nz b 0) else ((gS b.av.length (λ a=>tL b (oJ b) a) (2 ^ b.av.length)).1,0)
theorem aGw{b:ao}(hs:Small b):pC b=some (abZ b):=by
 unfold pC abZ
 rw [Zg hs (own:=0) (λ _=>rfl),Option.bind_some]
 unfold GX
 by_cases h:nz b 0=0
 ·obtain ⟨hv,_,_⟩:=ZS h
  have hd:=hv.d4
  have hp:=Z6 (n:=b.av.length) (by omega)
  simp only [h,ne_eq,not_true_eq_false,if_false,bne_self_eq_false,b8,Z1 hv,show (jQ b).book=b from rfl,Z2 hv,Option.bind_some]
  rw [aGv (P:=λ a=>tL b (oJ b) a) (by omega) (λ a ha=>?_),Option.bind_some]
  unfold D7
  rw [aFH hv (Zw b) (by omega)]
  rfl
 ·simp only [h,ne_eq,not_false_eq_true,if_true,D3 h,cV]
end Go.Proofs.YtihapemckcdicaaGreatDoor
namespace Go.Proofs.YtihapemckcdicaaGreatDoor
open Go.Lg Go.Proofs
set_option maxRecDepth 10000
def vI(b:ao):RB:=⟨b.ax.length,b.av.length,λ i=>(nth b.av i).ax.toNat,re b,sB b,λ _=>false⟩
theorem gi.same{A C:RB}(hn:A.n=C.n)(hD:A.D=C.D)(Qj:∀ i,i < A.D→A.need i=C.need i)(gJ:∀ i k,i < A.D→k < A.n→A.ok i k=C.ok i k)(kA:∀ i j,i < A.D→j < i→A.ap j i=C.ap j i∧A.ap i j=C.ap i j)(rZ:∀ i,i < A.D→A.out i=C.out i){r:List (List Int)}:gi A r↔gi C r:=by
 constructor
 ·intro h
  exact gi.le ⟨by omega,hD,Qj,λ i k hi hk h=>by rw [← gJ i k hi hk]; exact h,λ i j hi hj h=>by rw [← (kA i j hi hj).1]; exact h,λ i hi h=>by rw [← rZ i hi]; exact h,λ i hi h=>by rw [rZ i hi]; exact h⟩ h
 ·intro h
  exact gi.le ⟨by omega,hD.symm,λ i hi=>(Qj i (by omega)).symm,λ i k hi hk h=>by rw [gJ i k (by omega) (by omega)]; exact h,λ i j hi hj h=>by rw [(kA i j (by omega) hj).1]; exact h,λ i hi h=>by rw [rZ i (by omega)]; exact h,λ i hi h=>by rw [← rZ i (by omega)]; exact h⟩ h
theorem agL{b:ao}{g:List Bool}{o:Nat}:tL b g o=true↔∃ r,gi (gv b g o) r:=by
 unfold tL
 rw [Bool.not_eq_true',List.isEmpty_eq_false_iff_exists_mem]
 exact ⟨λ ⟨r,h⟩=>⟨r,Zs.1 h⟩,λ ⟨r,h⟩=>⟨r,Zs.2 h⟩⟩
theorem ZI{b:ao}(hm:b.ax.length≤4){o:Nat}{r:List (List Int)}:gi (gv b (oJ b) o) r↔gi { vI b with out:=λ i=>o.testBit i } r:=by
 refine gi.same (A:=gv b (oJ b) o) (C:={ vI b with out:=λ i=>o.testBit i }) rfl rfl (λ _ _=>rfl) (λ i k _ hk=>?_) (λ _ _ _ _=>⟨rfl,rfl⟩) (λ i _=>rfl)
 show (nth (lW (ny b.ax.length)) k && re b i k)=re b i k
 have cR:k < b.ax.length:=hk
 rw [apS _ (by omega),show (ny b.ax.length).contains (k:Int)=true by rw [List.contains_iff_mem,ZG]; omega,Bool.true_and]
theorem aCH{b:ao}(hm:b.ax.length≤4){r:List (List Int)}:gi (gv b (oJ b) 0) r↔gi (vI b) r:=by
 rw [ZI hm]
 exact gi.same (A:={ vI b with out:=λ i=>(0:Nat).testBit i }) (C:=vI b) rfl rfl (λ _ _=>rfl) (λ _ _ _ _=>rfl) (λ _ _ _ _=>⟨rfl,rfl⟩) (λ i _=>by simp [vI])
theorem ag4{b:ao}(hv:Valid b):nz b 0=if gA b=[] then 9 else 0:=by unfold nz; simp [D5.2 hv]
end Go.Proofs.YtihapemckcdicaaGreatDoor
namespace Go.Proofs.YtihapemckcdicaaGreatDoor
open Go.Lg Go.Proofs
set_option maxRecDepth 10000
abbrev QM(b:ao)(a:Nat):Bool:=tL b (oJ b) a
theorem aH5{b:ao}(hv:Valid b):QM b (2 ^ b.av.length - 1)=true:=by
 rw [agL]
 refine ⟨List.replicate b.av.length [],?_⟩
 rw [ZI hv.m4]
 have e:∀ i,i < b.av.length→nth (List.replicate b.av.length ([]:List Int)) i=[]:=λ i hi=>by
  have:=df (l:=List.replicate b.av.length ([]:List Int)) (i:=i) (by simpa using hi)
  rw [List.getElem?_replicate,if_pos hi] at this
  exact (Option.some.inj this).symm
 refine ⟨by simp [vI],λ i hi _=>e i hi,λ i hi ho=>?_,λ i j hi hj=>.inr ?_⟩
 ·have:(2 ^ b.av.length - 1).testBit i=true:=aFx i hi
  have ho:(2 ^ b.av.length - 1).testBit i=false:=ho
  rw [this] at ho
  cases ho
 ·rw [e i hi]; rfl
theorem aGo{b:ao}(hv:Valid b):cI b.av.length (QM b) (gS b.av.length (QM b) (2 ^ b.av.length)).1 :=
 (aFL (a:=2 ^ b.av.length - 1) (by have:=Nat.two_pow_pos b.av.length; omega) (aH5 hv)).2
end Go.Proofs.YtihapemckcdicaaGreatDoor
namespace Go.Proofs.YtihapemckcdicaaGreatDoor
open Go.Lg Go.Proofs
set_option maxRecDepth 10000
def kR(b:ao)(i:Nat):Int:=(nth b.av i).gR
end Go.Proofs.YtihapemckcdicaaGreatDoor
namespace Go.Proofs.YtihapemckcdicaaGreatDoor
open Go.Lg Go.Proofs
set_option maxRecDepth 10000
theorem aFK{b:ao}(hv:Valid b){r:List (List Int)}:r∈vD b↔gi (vI b) r:=by
 rw [show vD b=r7 (gv b (oJ b) 0) from rfl,Zs,aCH hv.m4]
structure YN (a c:ao):Prop where
 va:Valid a
 vc:Valid c
 case:gA a=[]↔gA c=[]
 le:ahJ (vI a) (vI c)
 Hv:∀ i,i < a.av.length→kR a i=kR c i
theorem YN.err{a c:ao}(h:YN a c):nz a 0=nz c 0:=by
 rw [ag4 h.va,ag4 h.vc]
 by_cases hc:gA a=[]
 ·rw [if_pos hc,if_pos (h.case.1 hc)]
 ·rw [if_neg hc,if_neg λ e=>hc (h.case.2 e)]
theorem YN.aHx{a c:ao}(h:YN a c){r:List (List Int)}(hr:r∈vD a):r∈vD c:=(aFK h.vc).2 (gi.le h.le ((aFK h.va).1 hr))
theorem YN.many{a c:ao}(h:YN a c):(vD a).length≤(vD c).length :=
 ajj id (aGT _) (λ _ _ _ _ e=>e) λ _ hr=>h.aHx hr
theorem YN.drop{a c:ao}(h:YN a c):(gS c.av.length (QM c) (2 ^ c.av.length)).1.length≤(gS a.av.length (QM a) (2 ^ a.av.length)).1.length:=by
 obtain ⟨x,hx,hP,e⟩:=(aGo h.va).ex
 have hD:a.av.length=c.av.length:=h.le.D
 rw [e]
 have:QM c x=true:=by
  rw [agL] at hP ⊢
  obtain ⟨r,hr⟩:=hP
  refine ⟨r,(ZI h.vc.m4).2 (gi.le ?_ ((ZI h.va.m4).1 hr))⟩
  exact ⟨h.le.n,h.le.D,h.le.need,h.le.ok,h.le.ap,λ _ _ h=>h,λ _ _ h=>h⟩
 have:=(aGo h.vc).len (by rw [← hD]; exact hx) this
 rwa [hD]
end Go.Proofs.YtihapemckcdicaaGreatDoor
namespace Go.Proofs.YtihapemckcdicaaGreatDoor
open Go.Lg Go.Proofs
set_option maxRecDepth 10000
theorem aGa{S O:Type}{body:S→Option (S ⊕ O)}(n:Nat)(I:Nat→S→Prop)(Q:O→Prop)(h:∀ i s,i < n→I i s→(∃ s',body s=some (.inl s')∧I (i+1) s')∨∃ o,body s=some (.inr o)∧Q o)(hn:∀ s,I n s→∃ o,body s=some (.inr o)∧Q o) :
  ∀ (k i:Nat) (s:S),i+k=n→I i s→∃ o,bC body s=some o∧Q o
 | 0,i,s,hi,hI=>by
  obtain rfl:i=n:=by omega
  obtain ⟨o,h1,h2⟩:=hn s hI
  exact ⟨o,za h1,h2⟩
 | k+1,i,s,hi,hI=>by
  rcases h i s (by omega) hI with ⟨s',h1,h2⟩ | ⟨o,h1,h2⟩
  ·obtain ⟨o,h3,h4⟩:=aGa n I Q h hn k (i+1) s' (by omega) h2
   exact ⟨o,by rw [Hq h1,h3],h4⟩
  ·exact ⟨o,za h1,h2⟩
end Go.Proofs.YtihapemckcdicaaGreatDoor
namespace Go.Proofs.YtihapemckcdicaaGreatDoor
open Go.Lg Go.Proofs
set_option maxRecDepth 10000
def Q8(l:List dJ)(n:Int):Int:=match l.find? (λ r=>decide (n≤r.dh)) with | some r=>r.eE | none=>0
theorem aGW(r:dJ)(l:List dJ)(n:Int):Q8 (r::l) n=if n≤r.dh then r.eE else Q8 l n:=by
 unfold Q8
 by_cases h:n≤r.dh
 ·rw [if_pos h,List.find?_cons_of_pos (by simpa using h)]
 ·rw [if_neg h,List.find?_cons_of_neg (by simpa using h)]
def G9(d t:Int):Bool→List dJ→List dJ
 | _,[]=>[]
 | cut,r::l=>if r.dh < d then r::G9 d t cut l else (if cut=false∧r.dh > d then [⟨d,t⟩] else [])++⟨r.dh,min r.eE t⟩::G9 d t true l
def aGx(r q:dJ):Prop:=r.dh < q.dh∧q.eE≤r.eE
theorem aUR{d t:Int}:∀ {l:List dJ},(∀ r∈l,d≤r.dh)→G9 d t true l=l.map λ r=>⟨r.dh,min r.eE t⟩
 | [],_=>rfl
 | r::l,h=>by
  have hr:=h r (by simp)
  simp only [G9]
  rw [if_neg (by omega),if_neg (by simp),aUR λ q hq=>h q (by simp [hq])]
  rfl
theorem aVR{t:Int}(ht:0≤t)(n:Int):∀ l:List dJ,Q8 (l.map λ r=>(⟨r.dh,min r.eE t⟩:dJ)) n=min (Q8 l n) t
 | []=>by simp [Q8]; omega
 | r::l=>by
  rw [List.map_cons,aGW,aGW,aVR ht n l]
  simp only
  split <;> rfl
theorem aTu{d t:Int}(ht:1≤t):∀ {l:List dJ},l.Pairwise aGx→t≤Q8 l d→∀ n,(d≤n→Q8 (G9 d t false l) n=min (Q8 l n) t)∧(n < d→(Q8 (G9 d t false l) n=Q8 l n∨(Q8 (G9 d t false l) n=t∧t≤Q8 l n))∧((∃ r∈l,n≤r.dh∧r.dh < d)→Q8 (G9 d t false l) n=Q8 l n))
 | [],_,h,n=>by simp [Q8] at h; omega
 | r::l,hp,h,n=>by
  rw [List.pairwise_cons] at hp
  rw [aGW] at h
  by_cases hr:r.dh < d
  ·rw [if_neg (by omega)] at h
   obtain ⟨g1,g2⟩:=aTu ht hp.2 h n
   simp only [G9]
   rw [if_pos hr,aGW,aGW]
   refine ⟨λ hn=>?_,λ hn=>?_⟩
   ·rw [if_neg (by omega),if_neg (by omega)]; exact g1 hn
   ·by_cases hnr:n≤r.dh
    ·rw [if_pos hnr,if_pos hnr]
     exact ⟨.inl rfl,λ _=>rfl⟩
    ·rw [if_neg hnr,if_neg hnr]
     refine ⟨(g2 hn).1,λ ⟨q,hq,h1,h2⟩=>(g2 hn).2 ?_⟩
     rcases List.mem_cons.1 hq with rfl | hq
     ·omega
     ·exact ⟨q,hq,h1,h2⟩
  ·rw [if_pos (by omega)] at h
   have aTq:∀ q∈l,d≤q.dh:=λ q hq=>by have:=(hp.1 q hq).1; omega
   simp only [G9]
   rw [if_neg hr,aUR aTq]
   have tail:Q8 ((⟨r.dh,min r.eE t⟩:dJ)::l.map λ r=>(⟨r.dh,min r.eE t⟩:dJ)) n=min (Q8 (r::l) n) t:=aVR (by omega) n (r::l)
   have none:¬ ∃ q∈r::l,n≤q.dh∧q.dh < d:=λ ⟨q,hq,h1,h2⟩=>by
    rcases List.mem_cons.1 hq with rfl | hq
    ·omega
    ·have:=aTq q hq; omega
   have Eb:n < d→Q8 (r::l) n=r.eE:=λ hn=>by rw [aGW,if_pos (by omega)]
   by_cases hgt:r.dh > d
   ·rw [if_pos ⟨trivial,hgt⟩,List.singleton_append,aGW,tail]
    simp only
    refine ⟨λ hn=>?_,λ hn=>⟨.inr ?_,λ h=>absurd h none⟩⟩
    ·by_cases e:n≤d
     ·rw [if_pos e]
      rw [aGW,if_pos (by omega)]
      omega
     ·rw [if_neg e]
    ·rw [if_pos (by omega),Eb hn]
     exact ⟨rfl,h⟩
   ·rw [if_neg (λ h=>hgt h.2),List.nil_append,tail]
    refine ⟨λ _=>rfl,λ hn=>⟨.inr ?_,λ h=>absurd h none⟩⟩
    rw [Eb hn]
    omega
theorem aTt{d t:Int}:∀ {cut:Bool} {l:List dJ} {q:dJ},q∈G9 d t cut l→(q.dh=d∧q.eE=t)∨∃ r∈l,q.dh=r.dh∧(q.eE=r.eE∨q.eE=min r.eE t)
 | _,[],q,h=>by simp [G9] at h
 | cut,r::l,q,h=>by
  simp only [G9] at h
  split at h
  ·rcases List.mem_cons.1 h with rfl | h
   ·exact .inr ⟨q,by simp,rfl,.inl rfl⟩
   ·rcases aTt h with h | ⟨r',h1,h2⟩
    ·exact .inl h
    ·exact .inr ⟨r',by simp [h1],h2⟩
  ·rw [List.mem_append,List.mem_cons] at h
   rcases h with h | rfl | h
   ·split at h
    ·rw [List.mem_singleton] at h; subst h; exact .inl ⟨rfl,rfl⟩
    ·cases h
   ·exact .inr ⟨r,by simp,rfl,.inr rfl⟩
   ·rcases aTt h with h | ⟨r',h1,h2⟩
    ·exact .inl h
    ·exact .inr ⟨r',by simp [h1],h2⟩
theorem aUS{d t:Int}:∀ {l:List dJ} ,l.length≤(G9 d t false l).length∧(G9 d t false l).length≤l.length+1∧(G9 d t true l).length=l.length
 | []=>by simp [G9]
 | r::l=>by
  have ih:=aUS (d:=d) (t:=t) (l:=l)
  simp only [G9]
  by_cases h:r.dh < d
  ·rw [if_pos h,if_pos h]
   simp only [List.length_cons]
   omega
  ·rw [if_neg h,if_neg h]
   simp only [List.length_append,List.length_cons]
   split <;> split <;> simp_all <;> omega
theorem aVI{d t:Int}(ht:1≤t):∀ {l:List dJ},l.Pairwise aGx→t≤Q8 l d→(G9 d t false l).Pairwise aGx
 | [],_,_=>.nil
 | r::l,hp,h=>by
  rw [List.pairwise_cons] at hp
  have h0:=h
  rw [aGW] at h
  by_cases hr:r.dh < d
  ·rw [if_neg (by omega)] at h
   simp only [G9]
   rw [if_pos hr,List.pairwise_cons]
   refine ⟨λ q hq=>?_,aVI ht hp.2 h⟩
   rcases aTt hq with ⟨h1,h2⟩ | ⟨r',h1,h2,h3⟩
   ·have:Q8 l d≤r.eE:=by
     unfold Q8 at h ⊢
     cases he:l.find? (λ r=>decide (d≤r.dh)) with
     | none=>rw [he] at h; simp only at h; omega
     | some x=>exact (hp.1 x (List.mem_of_find?_eq_some he)).2
    exact ⟨by omega,by omega⟩
   ·have:=hp.1 r' h1
    unfold aGx at this ⊢
    omega
  ·rw [if_pos (by omega)] at h
   have aTq:∀ q∈l,d≤q.dh:=λ q hq=>by have:=(hp.1 q hq).1; omega
   simp only [G9]
   rw [if_neg hr,aUR aTq]
   have tail:((⟨r.dh,min r.eE t⟩:dJ)::l.map λ r=>(⟨r.dh,min r.eE t⟩:dJ)).Pairwise aGx:=by
    have:=(List.pairwise_cons.2 hp:(r::l).Pairwise aGx)
    rw [← List.map_cons (f:=λ r:dJ=>(⟨r.dh,min r.eE t⟩:dJ)),List.pairwise_map]
    exact this.imp λ {x y} LI=>⟨LI.1,by have:=LI.2; simp only; omega⟩
   split
   ·rename_i hc
    rw [List.singleton_append,List.pairwise_cons]
    refine ⟨λ q hq=>?_,tail⟩
    rw [← List.map_cons (f:=λ r:dJ=>(⟨r.dh,min r.eE t⟩:dJ))] at hq
    obtain ⟨x,hx,rfl⟩:=List.mem_map.1 hq
    refine ⟨?_,by simp only; omega⟩
    rcases List.mem_cons.1 hx with rfl | hx
    ·exact hc.2
    ·have:=(hp.1 x hx).1
     simp only
     omega
   ·exact tail
theorem aTh{l:List dJ}:(∀ i,0 < i→i < l.length→(nth l (i - 1)).dh < (nth l i).dh∧(nth l i).eE≤(nth l (i - 1)).eE)↔l.Pairwise aGx:=by
 constructor
 ·intro h
  have key:∀ d i,i+d+1 < l.length→aGx (nth l i) (nth l (i+d+1)):=by
   intro d
   induction d with
   | zero=>intro i hi; have:=h (i+1) (by omega) hi; exact this
   | succ d ih =>
    intro i hi
    have h1:=ih i (by omega)
    have h2:=h (i+(d+1)+1) (by omega) hi
    rw [show i+(d+1)+1 - 1=i+d+1 by omega] at h2
    unfold aGx at h1 ⊢
    omega
  rw [List.pairwise_iff_getElem]
  intro i j hi hj pn
  have e:∀ k (hk:k < l.length),l[k]=nth l k:=λ k hk=>by
   have:=df hk
   rw [List.getElem?_eq_getElem hk] at this
   exact Option.some.inj this
  rw [e i hi,e j hj]
  have:=key (j - i - 1) i (by omega)
  rwa [show i+(j - i - 1)+1=j by omega] at this
 ·intro h i h0 hi
  rw [List.pairwise_iff_getElem] at h
  have:=h (i - 1) i (by omega) hi (by omega)
  have e:∀ k (hk:k < l.length),l[k]=nth l k:=λ k hk=>by
   have:=df hk
   rw [List.getElem?_eq_getElem hk] at this
   exact Option.some.inj this
  rwa [e,e] at this
def YY(b:ao)(d t:Int):ao:=⟨b.Rest,G9 d t false b.Rows,b.aM,b.ax,b.av,b.ba⟩
theorem Valid.aX7{b:ao}(hv:Valid b){d t:Int}(hd:1≤d∧d≤30)(ht:1≤t∧t≤60)(hs:t≤Q8 b.Rows d)(h4:(G9 d t false b.Rows).length≤4):Valid (YY b d t):=by
 have hl:=aUS (d:=d) (t:=t) (l:=b.Rows)
 have h1:=hv.r1
 refine ⟨hv.rest,?_,h4,λ q hq=>?_,aTh.2 (aVI ht.1 (aTh.1 hv.abO) hs),hv.p1,hv.p3,hv.place,hv.m1,hv.m4,hv.Y0,hv.names,hv.d1,hv.d4,hv.YU,hv.s3,hv.sound⟩
 ·show 1≤(G9 d t false b.Rows).length
  omega
 ·rcases aTt hq with ⟨e1,e2⟩ | ⟨r,hr,e1,e2⟩
  ·exact ⟨by omega,by omega⟩
  ·have:=hv.row r hr
   have g1:=this.depth
   have g2:=this.stay
   exact ⟨by omega,by omega⟩
end Go.Proofs.YtihapemckcdicaaGreatDoor
namespace Go.Proofs.YtihapemckcdicaaGreatDoor
open Go.Lg Go.Proofs
set_option maxRecDepth 10000
theorem aVt{l:List dJ}{i:Nat}(h:i < l.length):l.drop i=nth l i::l.drop (i+1):=ajA h
theorem aSM{α:Type}{l:List α}(hl:l.length≤1000):(eW [] l).bind (λ x=>some x)=some l:=by
 rw [Ho (by simp; omega)]
 rfl
theorem aZO{b:ao}(hs:Small b)(hr:b.Rows.length≤1000):HH b=some b:=by
 have h1:=hs.places
 have h2:=hs.rL
 have h3:=hs.PZ
 have h4:=hs.aim
 unfold HH En Eo Ep Er Em
 rw [aSM hr,aSM (show b.aM.length≤1000 by omega),aSM (show b.ax.length≤1000 by omega),aSM (show b.av.length≤1000 by omega),aSM (show b.ba.length≤1000 by omega)]
 rfl
theorem aS6{α:Type}[Inhabited α]{l:List α}{eq:α→α→Bool}(hl:l.length≤1000)(he:∀ x,eq x x=true):bC (O:=(Unit ⊕ Bool)) (λ (s:Int)=>aa (decide (s < (l.length:Int))) ((idx l s).bind λ x=>(idx l s).bind λ y=>aa (!(eq x y == true)) (some (.inr (.inr false))) (some (.inl (i64 (s+1))))) (some (.inr (.inl ())))) 0=some (.inl ()):=by
 rw [LP (n:=l.length) (λ _=>true) false (λ i hi=>?_) (by simp only [ja,b8])]
 ·simp
 ·simp only [dec_lt hi,cV,fJ,df hi,Option.bind_some,he,beq_self_eq_true,Bool.not_true,b8,if_true,fY (i:=i) (by omega)]
theorem aWj(s:ByteArray):(s == s)=true:=by
 obtain ⟨d⟩:=s
 show ByteArray.beq ⟨d⟩ ⟨d⟩=true
 unfold ByteArray.beq
 simp
theorem aVa{b:ao}(h1:b.Rows.length≤1000)(h2:b.aM.length≤1000)(h3:b.ax.length≤1000)(h4:b.av.length≤1000)(h5:b.ba.length≤1000):Hg b b=some true:=by
 unfold Hg
 simp only [bne_self_eq_false,b8,Option.bind_some]
 rw [aS6 h1 (λ x=>by simp [El]),Option.bind_some,Sum.elim_inl,aS6 h2 (λ x=>by simp [LZ]),Option.bind_some,Sum.elim_inl,aS6 h3 (λ x=>by simp [ZQ,aWj]),Option.bind_some,Sum.elim_inl,aS6 h4 (λ x=>by simp [ZP]),Option.bind_some,Sum.elim_inl,aS6 h5 (λ x=>by simp [ZR])]
 rfl
def ah5:ao:=⟨0,[],[],[],[],[]⟩
def aTJ(b:ao)(d t:Int):ao × Int:=if t > xj b d then (ah5,7) else if 4 < (G9 d t false b.Rows).length then (ah5,2) else (YY b d t,0)
theorem aZV{b:ao}(hv:Valid b){d t:Int}(hd:1≤d∧d≤30)(ht:1≤t∧t≤60):Bf b d t=some (aTJ b d t):=by
 have hr4:=hv.r4
 have hs:=hv.sm
 unfold Bf aTJ
 rw [agR hs,D5.2 hv,Option.bind_some]
 simp only [bne_self_eq_false,b8,vH,jN.2 hd,jN.2 ht,Option.bind_some,Bool.not_true]
 rw [show (⟨b.Rest,b.Rows,b.aM,b.ax,b.av,b.ba⟩:ao)=b from rfl,ajk (by omega),Option.bind_some]
 by_cases bK:t > xj b d
 ·rw [decide_eq_true bK,cV,if_pos bK]; rfl
 rw [decide_eq_false bK,b8,if_neg bK]
 have main:=aGa (O:=List dJ) (body:=λ (nv:((List dJ) × Bool × Int)) =>
 aa (decide (nv.2.2 < (b.Rows.length:Int)))
 ((idx b.Rows nv.2.2).bind λ kS =>
 (((aa (decide (kS.dh > d))
 (some (!nv.2.1))
 (some false)):Option Bool)).bind (λ (LU:Bool) =>
 (((aa LU
 ((eW nv.1 [(⟨d,t⟩:dJ)]).bind λ zu =>
 some (zu,true))
 (some (nv.1,nv.2.1))):Option ((List dJ) × Bool))).bind (λ (zd:((List dJ) × Bool)) =>
 (((aa (decide (kS.dh ≥ d))
 (some (true,xq kS.eE [t]))
 (some (zd.2,kS.eE))):Option (Bool × Int))).bind (λ (Bc:(Bool × Int)) =>
 (eW zd.1 [(⟨kS.dh,Bc.2⟩:dJ)]).bind λ LM =>
 some (.inl (LM,Bc.1,i64 (nv.2.2+1)))))))
 (some (.inr nv.1))) b.Rows.length (λ i s=>s.2.2=(i:Int)∧s.1++G9 d t s.2.1 (b.Rows.drop i)=G9 d t false b.Rows∧s.1.length≤2 * i) (λ o=>o=G9 d t false b.Rows) (λ i s hi hI=>?_) (λ s hI=>?_) b.Rows.length 0 ([],false,0) (by omega) ⟨rfl,rfl,by simp⟩
 ·obtain ⟨o,ho,rfl⟩:=main
  rw [xg ho]
  have e:decide (((G9 d t false b.Rows).length:Int) > 4)=decide (4 < (G9 d t false b.Rows).length):=zC (m:=4)
  rw [e]
  by_cases h4:4 < (G9 d t false b.Rows).length
  ·rw [decide_eq_true h4,cV,if_pos h4]; rfl
  ·rw [decide_eq_false h4,b8,if_neg h4,aZO (b:=⟨b.Rest,G9 d t false b.Rows,b.aM,b.ax,b.av,b.ba⟩) ⟨by show (G9 d t false b.Rows).length≤20; omega,hs.places,hs.rL,hs.PZ,hs.aim,hs.each⟩ (by show (G9 d t false b.Rows).length≤1000; omega)]
   rfl
 ·left
  obtain ⟨acc,cut,x⟩:=s
  obtain ⟨rfl,hI,hl⟩:=hI
  simp only at hI hl
  rw [aVt hi] at hI
  simp only [G9] at hI
  simp only [dec_lt hi,cV,fJ,df hi,Option.bind_some,fY (i:=i) (by omega)]
  by_cases h1:(nth b.Rows i).dh < d
  ·rw [if_pos h1] at hI
   rw [show decide ((nth b.Rows i).dh > d)=false by simp; omega,b8,Option.bind_some,b8,Option.bind_some,show decide ((nth b.Rows i).dh ≥ d)=false by simp; omega,b8,Option.bind_some]
   simp only
   rw [Ho (by simp only [List.length_cons,List.length_nil]; omega),Option.bind_some]
   exact ⟨_,rfl,rfl,by rw [← hI]; simp,by simp only [List.length_append,List.length_cons,List.length_nil]; omega⟩
  ·rw [if_neg h1] at hI
   rw [show decide ((nth b.Rows i).dh ≥ d)=true by simp; omega]
   by_cases h2:(nth b.Rows i).dh > d
   ·rw [decide_eq_true h2,cV,Option.bind_some]
    cases cut with
    | false =>
     rw [if_pos ⟨rfl,h2⟩] at hI
     rw [Bool.not_false,cV,Ho (by simp only [List.length_cons,List.length_nil]; omega)]
     simp only [Option.bind_some,cV,aBv]
     rw [Ho (by simp only [List.length_append,List.length_cons,List.length_nil]; omega),Option.bind_some]
     exact ⟨_,rfl,rfl,by rw [← hI]; simp,by simp only [List.length_append,List.length_cons,List.length_nil]; omega⟩
    | true =>
     rw [if_neg (by simp)] at hI
     simp only [Bool.not_true,b8,Option.bind_some,cV,aBv]
     rw [Ho (by simp only [List.length_cons,List.length_nil]; omega),Option.bind_some]
     exact ⟨_,rfl,rfl,by rw [← hI]; simp,by simp only [List.length_append,List.length_cons,List.length_nil]; omega⟩
   ·rw [if_neg (λ h=>h2 h.2)] at hI
    rw [decide_eq_false h2,b8]
    simp only [Option.bind_some,b8,cV,aBv]
    rw [Ho (by simp only [List.length_cons,List.length_nil]; omega),Option.bind_some]
    exact ⟨_,rfl,rfl,by rw [← hI]; simp,by simp only [List.length_append,List.length_cons,List.length_nil]; omega⟩
 ·obtain ⟨acc,cut,x⟩:=s
  obtain ⟨rfl,hI,hl⟩:=hI
  rw [List.drop_length] at hI
  simp only [G9,List.append_nil] at hI
  exact ⟨acc,by simp only [ja,b8],hI⟩
theorem aZW{b:ao}(hr:b.Rows.length≤1000)(d t:Int):Q4 b d t=some (YY b d t):=by
 unfold Q4
 have main:=aGa (O:=List dJ) (body:=λ (ns:(Bool × Int × (List dJ))) =>
 aa (decide (ns.2.1 < (b.Rows.length:Int)))
 ((idx b.Rows ns.2.1).bind λ qh =>
 aa (decide (qh.dh < d))
 ((eW ns.2.2 [qh]).bind λ nO =>
 some (.inl (ns.1,i64 (ns.2.1+1),nO)))
 ((((aa (!ns.1)
 (some (decide (qh.dh > d)))
 (some false)):Option Bool)).bind (λ (LR:Bool) =>
 (((aa LR
 ((eW ns.2.2 [(⟨d,t⟩:dJ)]).bind λ Hn =>
 some Hn)
 (some ns.2.2)):Option (List dJ))).bind (λ (LS:(List dJ)) =>
 (eW LS ([(⟨qh.dh,xq qh.eE [t]⟩:dJ)])).bind λ LD =>
 some (.inl (true,i64 (ns.2.1+1),LD))))))
 (some (.inr ns.2.2))) b.Rows.length (λ i s=>s.2.1=(i:Int)∧s.2.2++G9 d t s.1 (b.Rows.drop i)=G9 d t false b.Rows∧s.2.2.length≤2 * i) (λ o=>o=G9 d t false b.Rows) (λ i s hi hI=>?_) (λ s hI=>?_) b.Rows.length 0 (false,0,[]) (by omega) ⟨rfl,rfl,by simp⟩
 ·obtain ⟨o,ho,rfl⟩:=main
  exact (xg ho).trans rfl
 ·left
  obtain ⟨cut,x,acc⟩:=s
  obtain ⟨rfl,hI,hl⟩:=hI
  simp only at hI hl
  rw [aVt hi] at hI
  simp only [G9] at hI
  simp only [dec_lt hi,cV,fJ,df hi,Option.bind_some,fY (i:=i) (by omega)]
  by_cases h1:(nth b.Rows i).dh < d
  ·rw [if_pos h1] at hI
   rw [decide_eq_true h1,cV,Ho (by simp only [List.length_cons,List.length_nil]; omega),Option.bind_some]
   exact ⟨_,rfl,rfl,by rw [← hI]; simp,by simp only [List.length_append,List.length_cons,List.length_nil]; omega⟩
  ·rw [if_neg h1] at hI
   rw [decide_eq_false h1,b8]
   cases cut with
   | false =>
    by_cases h2:(nth b.Rows i).dh > d
    ·rw [if_pos ⟨rfl,h2⟩] at hI
     rw [Bool.not_false,cV,decide_eq_true h2,Option.bind_some,cV,Ho (by simp only [List.length_cons,List.length_nil]; omega)]
     simp only [Option.bind_some,aBv]
     rw [Ho (by simp only [List.length_append,List.length_cons,List.length_nil]; omega),Option.bind_some]
     exact ⟨_,rfl,rfl,by rw [← hI]; simp,by simp only [List.length_append,List.length_cons,List.length_nil]; omega⟩
    ·rw [if_neg (λ h=>h2 h.2)] at hI
     rw [Bool.not_false,cV,decide_eq_false h2,Option.bind_some,b8]
     simp only [Option.bind_some,aBv]
     rw [Ho (by simp only [List.length_cons,List.length_nil]; omega),Option.bind_some]
     exact ⟨_,rfl,rfl,by rw [← hI]; simp,by simp only [List.length_append,List.length_cons,List.length_nil]; omega⟩
   | true =>
    rw [if_neg (by simp)] at hI
    simp only [Bool.not_true,b8,Option.bind_some,aBv]
    rw [Ho (by simp only [List.length_cons,List.length_nil]; omega),Option.bind_some]
    exact ⟨_,rfl,rfl,by rw [← hI]; simp,by simp only [List.length_append,List.length_cons,List.length_nil]; omega⟩
 ·obtain ⟨cut,x,acc⟩:=s
  obtain ⟨rfl,hI,hl⟩:=hI
  rw [List.drop_length] at hI
  simp only [G9,List.append_nil] at hI
  exact ⟨acc,by simp only [ja,b8],hI⟩
theorem aWb{b c:ao}(hm:c.ax=b.ax)(hd:c.av=b.av)(hc:gA c=gA b)(hs:∀ n,xj c n≤xj b n){i k:Nat}(h:re c i k=true):re b i k=true:=by
 unfold re at h ⊢
 rw [hc,List.all_eq_true] at h
 rw [List.all_eq_true]
 intro w hw
 have:=h w hw
 unfold xh at this ⊢
 rw [hm,hd] at this
 simp only [Bool.and_eq_true,decide_eq_true_eq] at this ⊢
 exact ⟨this.1,Int.le_trans this.2 (hs _)⟩
theorem aX8{b:ao}(hv:Valid b){d t:Int}(ht:1≤t)(hs:t≤xj b d)(hvh:Valid (YY b d t)):YN (YY b d t) b:=by
 have hp:=aTh.1 hv.abO
 refine ⟨hvh,hv,Iff.rfl,⟨Nat.le_refl _,rfl,λ _ _=>rfl,λ i k _ _ h=>aWb (b:=b) (c:=YY b d t) rfl rfl rfl (λ n=>?_) h,λ _ _ _ _ h=>h,λ _ _ h=>h,λ _ _ h=>h⟩,λ _ _=>rfl⟩
 obtain ⟨g1,g2⟩:=aTu ht hp hs n
 show Q8 (G9 d t false b.Rows) n≤Q8 b.Rows n
 by_cases hn:d≤n
 ·rw [g1 hn]; omega
 ·rcases (g2 (by omega)).1 with e | ⟨e,h⟩
  ·rw [e]; exact Int.le_refl _
  ·rw [e]; exact h
theorem aZI(b:ao)(x y z:Int)(hx:0≤x∧x < 256)(hy:0≤y∧y < 256)(hz:0≤z∧z < 256):m7 b x y z=some true:=by
 unfold m7
 rw [aBe,aDa,Option.bind_some]
 cases hg:Bp b with
 | true=>rfl
 | false =>
 by_cases h1:lR b=0
 case neg =>
  have:(lR b == 0)=false:=by simpa using h1
  rw [this]
  rfl
 have hs:=ZT hg
 have hv:=D5.1 h1
 have hr4:=hv.r4
 simp only [h1,Bool.not_false,beq_self_eq_true,Bool.and_true,Bool.not_true,b8]
 rw [show (30:Int)=((30:Nat):Int) from rfl,show (60:Int)=((60:Nat):Int) from rfl,aHt hx.1 hx.2 (by omega),aHt hy.1 hy.2 (by omega),aHt hz.1 hz.2 (by omega)]
 have px:x.toNat % 30 < 30:=Nat.mod_lt _ (by omega)
 have py:y.toNat % 60 < 60:=Nat.mod_lt _ (by omega)
 have pz:z.toNat % 30 < 30:=Nat.mod_lt _ (by omega)
 simp only [Option.bind_some]
 generalize x.toNat % 30=x' at px ⊢
 generalize y.toNat % 60=y' at py ⊢
 generalize z.toNat % 30=z' at pz ⊢
 rw [oq (z:=1+(x':Int)) (by omega) (by omega),oq (z:=1+(y':Int)) (by omega) (by omega),oq (z:=1+(z':Int)) (by omega) (by omega)]
 generalize hd:1+(x':Int)=d
 generalize ht:1+(y':Int)=t
 generalize he:1+(z':Int)=e
 have hd':1≤d∧d≤30:=by omega
 have bc:1≤t∧t≤60:=by omega
 have LH:1≤e∧e≤30:=by omega
 have stay:∀ {c:ao} {n:Int},Valid c→1≤n∧n≤30→tK c n=some (xj c n,0):=λ {c n} hc hn=>by
  rw [aZU hc.sm]
  unfold aVm
  rw [D5.2 hc,jN.2 hn]
  simp
 rw [stay hv hd',Option.bind_some,aZV hv hd' bc,Option.bind_some]
 unfold aTJ
 by_cases bK:t > xj b d
 ·rw [if_pos bK]
  simp only [bne_self_eq_false,b8,decide_eq_true bK,beq_self_eq_true,Bool.not_true,Option.bind_some]
  rw [show Hg ah5 (⟨0,[],[],[],[],[]⟩:ao)=some true from aVa (b:=ah5) (by simp [ah5]) (by simp [ah5]) (by simp [ah5]) (by simp [ah5]) (by simp [ah5])]
  rfl
 rw [if_neg bK]
 by_cases h4:4 < (G9 d t false b.Rows).length
 ·rw [if_pos h4]
  have hl:=aUS (d:=d) (t:=t) (l:=b.Rows)
  have e4:((b.Rows.length:Int) == 4)=true:=by simp; omega
  simp only [bne_self_eq_false,b8,decide_eq_false bK,show ((2:Int) == 7)=false from rfl,beq_self_eq_true,Bool.not_true,Option.bind_some,e4]
  rw [show Hg ah5 (⟨0,[],[],[],[],[]⟩:ao)=some true from aVa (b:=ah5) (by simp [ah5]) (by simp [ah5]) (by simp [ah5]) (by simp [ah5]) (by simp [ah5])]
  rfl
 rw [if_neg h4]
 have hsl:t≤xj b d:=by omega
 have vh:=hv.aX7 hd' bc hsl (by omega)
 have hsm:=vh.sm
 have hp:=aTh.1 hv.abO
 have M:=aX8 hv bc.1 hsl vh
 have s1:=aTu bc.1 hp hsl e
 have s2:=(aTu bc.1 hp hsl d).1 (Int.le_refl _)
 have es2:xj (YY b d t) d=t:=by
  show Q8 (G9 d t false b.Rows) d=t
  rw [s2]
  have:t≤Q8 b.Rows d:=hsl
  omega
 simp only [bne_self_eq_false,b8,decide_eq_false bK,show ((0:Int) == 7)=false from rfl,beq_self_eq_true,Bool.not_true,Option.bind_some,ajn hsm,D5.2 vh,aZW (show b.Rows.length≤1000 by omega)]
 rw [aVa (b:=YY b d t) (by have:=hsm.rows; omega) (by have:=hsm.places; omega) (by have:=hsm.rL; omega) (by have:=hsm.PZ; omega) (by have:=hsm.aim; omega)]
 simp only [Option.bind_some,Bool.not_true,b8,stay hv LH,stay vh LH,stay vh hd',es2,bne_self_eq_false,aBv]
 have eH:xj (YY b d t) e=Q8 (G9 d t false b.Rows) e:=rfl
 have eB:xj b e=Q8 b.Rows e:=rfl
 have hle:xj (YY b d t) e≤xj b e:=by
  rw [eH,eB]
  by_cases hn:d≤e
  ·rw [s1.1 hn]; omega
  ·rcases (s1.2 (by omega)).1 with h | ⟨h,h'⟩
   ·rw [h]; exact Int.le_refl _
   ·rw [h]; exact h'
 rw [show decide (xj (YY b d t) e > xj b e)=false by simp; omega,b8]
 have key:aa (decide (e ≥ d)) (aa (xj (YY b d t) e != min (xj b e) t) (some true) (aa (decide (e < d)) (aa (xj (YY b d t) e != xj b e) (some (xj (YY b d t) e != t)) (some false)) (some false)))
   (aa (decide (e < d)) (aa (xj (YY b d t) e != xj b e) (some (xj (YY b d t) e != t)) (some false)) (some false))=some false:=by
  by_cases hn:d≤e
  ·have h5:xj (YY b d t) e=min (xj b e) t:=by rw [eH,eB]; exact s1.1 hn
   rw [show decide (e ≥ d)=true by simpa using hn,cV,h5]
   simp only [bne_self_eq_false,b8]
   rw [show decide (e < d)=false by simpa using hn,b8]
  ·rw [show decide (e ≥ d)=false by simp; omega,b8,show decide (e < d)=true by simp; omega,cV]
   rcases (s1.2 (by omega)).1 with h | ⟨h,_⟩
   ·rw [show xj (YY b d t) e=xj b e by rw [eH,eB]; exact h,bne_self_eq_false,b8]
   ·rw [show xj (YY b d t) e=t by rw [eH]; exact h]
    simp only [bne_self_eq_false]
    cases (t != xj b e) <;> rfl
 rw [key,Option.bind_some,b8]
 rw [LP (n:=b.Rows.length) (λ _=>true) false (λ i hi=>?_) (by simp only [ja,b8])]
 ·rw [show ((List.range b.Rows.length).all λ _=>true)=true by simp]
  simp only [if_true,Option.bind_some,Sum.elim_inl,ah0 hs,ah0 hsm,aGw hs,aGw hsm]
  have he2:=M.err
  unfold QI abZ
  rw [he2]
  by_cases h0:nz b 0=0
  ·rw [h0]
   have a1:=M.many
   have a2:=M.drop
   simp only [ne_eq,not_true_eq_false,if_false,beq_self_eq_true,cV,show decide (((vD (YY b d t)).length:Int)≤((vD b).length:Int))=true by simpa using a1]
   rw [show decide (((gS b.av.length (λ a=>tL b (oJ b) a) (2 ^ b.av.length)).1.length:Int)≤((gS (YY b d t).av.length (λ a=>tL (YY b d t) (oJ (YY b d t)) a) (2 ^ (YY b d t).av.length)).1.length:Int))=true by simpa using a2]
   rfl
  ·simp only [ne_eq,h0,not_false_eq_true,if_true,beq_self_eq_true,cV]
   rfl
 ·simp only [dec_lt hi,cV,fJ,df hi,Option.bind_some,fY (i:=i) (by omega),if_true]
  by_cases c1:(nth b.Rows i).dh < d
  ·rw [decide_eq_true c1,cV]
   by_cases c2:e≤(nth b.Rows i).dh
   ·rw [decide_eq_true c2,cV]
    have h5:xj (YY b d t) e=xj b e:=by
     rw [eH,eB]
     exact (s1.2 (by omega)).2 ⟨_,ko hi,c2,c1⟩
    rw [h5,bne_self_eq_false,b8]
   ·rw [decide_eq_false c2,b8]
  ·rw [decide_eq_false c1,b8]
end Go.Proofs.YtihapemckcdicaaGreatDoor
