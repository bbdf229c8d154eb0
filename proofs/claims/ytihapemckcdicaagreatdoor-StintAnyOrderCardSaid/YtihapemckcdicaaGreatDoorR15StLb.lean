/- Plain laws of chapter 5, the rest. Conditions: none. -/
import Derived.Test.YtihapemckcdicaaGreatDoorR15StL
import Derived.Test.YtihapemckcdicaaGreatDoorQEStP
import Derived.Test.YtihapemckcdicaaGreatDoorQEStC
namespace Go.Proofs.YtihapemckcdicaaGreatDoor
open Go.Lg Go.Proofs
set_option maxRecDepth 10000
def lW(c:List Int):List Bool:=(List.range 4).map λ (k:Nat)=>c.contains (k:Int)
def fK(r:List (List Int)):List Bool:=(List.range 16).map λ p=>(nth r (p / 4)).contains ((p % 4:Nat):Int)
theorem Rd(r:List (List Int)):(fK r).length=16:=by simp [fK]
theorem Zi(r:List (List Int)){p:Nat}(hp:p < 16):(fK r)[p]? = some ((nth r (p / 4)).contains ((p % 4:Nat):Int)):=by
 unfold fK
 rw [List.getElem?_map,List.getElem?_range hp]
 rfl
theorem D1(c:List Int){k:Nat}(hk:k < 4):idx (lW c) (k:Int)=some (c.contains (k:Int)):=by
 unfold lW
 rw [fJ,List.getElem?_map,List.getElem?_range hk]
 rfl
theorem LC(r:List (List Int)){i:Nat}(hi:i < 4):gI 4 (fK r) (i:Int)=some (lW (nth r i)):=by
 match i,hi with
 | 0,_=>rfl
 | 1,_=>rfl
 | 2,_=>rfl
 | 3,_=>rfl
theorem aGj{r r':List (List Int)}(h:∀ i k:Nat,i < 4→k < 4→(nth r i).contains (k:Int)=(nth r' i).contains (k:Int)):fK r=fK r':=by
 unfold fK
 refine List.map_congr_left λ p hp=>?_
 rw [List.mem_range] at hp
 exact h (p / 4) (p % 4) (by omega) (by omega)
theorem ahF{r r':List (List Int)}{i k:Nat}(_:i < 4)(hk:k < 4){x:Bool}(h:∀ j m:Nat,j < 4→m < 4→(nth r' j).contains (m:Int)=if j=i∧m=k then x else (nth r j).contains (m:Int)):lM 4 (fK r) (i:Int) (k:Int) x=fK r':=by
 unfold lM
 rw [Int.toNat_natCast,Int.toNat_natCast]
 refine List.ext_getElem? λ p=>?_
 by_cases hp:p < 16
 ·rw [List.getElem?_set,Zi r' hp,Zi r hp,Rd,h (p / 4) (p % 4) (by omega) (by omega)]
  by_cases e:i * 4+k=p
  ·rw [if_pos e,if_pos (by omega),if_pos ⟨by omega,by omega⟩]
  ·rw [if_neg e,if_neg (λ hc=>e (by omega))]
 ·rw [List.getElem?_eq_none (by rw [List.length_set,Rd]; omega),List.getElem?_eq_none (by rw [Rd]; omega)]
theorem ahE(p:List (List Int)):fK (p++[[]])=fK p:=aGj λ i k _ _=>by
 by_cases h:i < p.length
 ·rw [zc h]
 ·have e1:nth p i=[]:=by unfold nth; rw [List.getD_eq_getElem?_getD,List.getElem?_eq_none (by omega)]; rfl
  have e2:nth (p++[[]]) i=[]:=by
   by_cases h2:i=p.length
   ·subst h2; exact zn
   ·unfold nth; rw [List.getD_eq_getElem?_getD,List.getElem?_eq_none (by simp; omega)]; rfl
  rw [e1,e2]
def xh(b:ao)(c:List Int)(k i:Nat):Bool:=decide (nth c (nth b.av i).Place.toNat≤(nth b.ax k).mg) && decide ((nth b.av i).gR≤xj b (nth c (nth b.av i).Place.toNat))
theorem ahZ{b:ao}(hv:Valid b){c:List Int}(hc:c.length=b.aM.length){k i:Nat}(hk:k < b.ax.length)(hi:i < b.av.length):yq b (oK c) (k:Int) (i:Int)=some (xh b c k i):=by
 have hp:=(hv.dv hi).place
 unfold yq xh
 have e:idx (oK c).deep (nth b.av i).Place=some (nth c (nth b.av i).Place.toNat):=by
  have:=aE4 hv hc (i:=(nth b.av i).Place.toNat) (by omega)
  rwa [Int.toNat_of_nonneg hp.1] at this
 simp only [fJ,df hi,df hk,Option.bind_some,e,ajk (show b.Rows.length≤20 by have:=hv.r4; omega)]
 cases decide (nth c (nth b.av i).Place.toNat≤(nth b.ax k).mg) <;> rfl
def re(b:ao)(i k:Nat):Bool:=(gA b).all λ c=>xh b c k i
def sj(b:ao):List Bool:=(List.range 16).map λ p=>if p / 4 < b.av.length∧p % 4 < b.ax.length then re b (p / 4) (p % 4) else false
theorem aF8{b:ao}(hv:Valid b){i k:Nat}(hi:i < b.av.length)(hk:k < b.ax.length):qR (jQ b) i k=some (re b i k):=by
 unfold qR
 rw [ahY hv (p:=λ c=>xh b c k i) (λ c hc=>by unfold zb; rw [show (jQ b).book=b from rfl,ahZ hv (ah3.1 hc).1.1 hk hi]; rfl),Option.bind_some]
 congr 1
 rw [show ((jQ b).fi.length:Int)=((gA b).length:Int) by simp [jQ],Bool.eq_iff_iff,beq_iff_eq]
 unfold re
 rw [List.all_eq_true]
 constructor
 ·intro h
  have h:((gA b).filter λ c=>xh b c k i).length=(gA b).length:=by omega
  rw [List.length_filter_eq_length_iff] at h
  exact h
 ·intro h
  have:((gA b).filter λ c=>xh b c k i).length=(gA b).length:=List.length_filter_eq_length_iff.2 h
  omega
theorem mapM_some{α β:Type}{f:α→Option β}{g:α→β}:∀ {l:List α},(∀ x∈l,f x=some (g x))→l.mapM f=some (l.map g)
 | [],_=>rfl
 | a::l,h=>by
  rw [List.mapM_cons,h a (by simp),mapM_some λ x hx=>h x (by simp [hx])]
  rfl
theorem Z1{b:ao}(hv:Valid b):tB (jQ b)=some (sj b):=by
 unfold tB sj
 rw [show (jQ b).book=b from rfl,if_pos ⟨⟨hv.d1,hv.d4⟩,hv.m1,hv.m4⟩]
 refine mapM_some λ p _=>?_
 by_cases h:p / 4 < b.av.length∧p % 4 < b.ax.length
 ·rw [if_pos h,if_pos h,aF8 hv h.1 h.2]
 ·rw [if_neg h,if_neg h]
theorem aFO{b:ao}{i:Nat}(hi:i < 4):∃ g,gI 4 (sj b) (i:Int)=some g∧∀ k:Nat,k < 4→idx g (k:Int)=some (if i < b.av.length∧k < b.ax.length then re b i k else false):=by
 have e:gI 4 (sj b) (i:Int)=some ((List.range 4).map λ k=>if i < b.av.length∧k < b.ax.length then re b i k else false):=by
  match i,hi with
  | 0,_=>rfl
  | 1,_=>rfl
  | 2,_=>rfl
  | 3,_=>rfl
 refine ⟨_,e,λ k hk=>?_⟩
 rw [fJ,List.getElem?_map,List.getElem?_range hk]
 rfl
def gv(b:ao)(g:List Bool)(o:Nat):RB:=⟨b.ax.length,b.av.length,λ i=>(nth b.av i).ax.toNat,λ i k=>nth g k && re b i k,sB b,λ i=>o.testBit i⟩
set_option maxRecDepth 1000000 in
theorem aFS:((List.range 16).all λ x=>(List.range 5).all λ i=>((kU .i64 x i).bind λ y=>fH .and .i64 y 1) == some (if x.testBit i then 1 else 0))=true:=by decide +kernel
theorem aFR{x i:Nat}(h:x < 16)(hi:i < 5):(kU .i64 (x:Int) (i:Int)).bind (λ y=>fH .and .i64 y 1)=some (if x.testBit i then 1 else 0):=by
 have:=aFS
 simp only [List.all_eq_true,List.mem_range,beq_iff_eq] at this
 exact this x h i hi
theorem aGb{b:ao}(hv:Valid b){pre:List (List Int)}{c:List Int}(hi:pre.length < b.av.length)(hc:∀ k∈c,0≤k∧k < (b.ax.length:Int))(g:List Bool)(o:Nat):xp b (fK (pre++[c])) (pre.length:Int)=some (Bi (gv b g o) pre pre.length c):=by
 have hd:=hv.d4
 have hm:=hv.m4
 unfold xp Bi
 rw [LP (n:=pre.length) (λ j=>(gv b g o).ap j pre.length || !meet c (nth pre j)) false (λ j hj=>?_) (by simp only [ja,b8])]
 ·cases (List.range pre.length).all λ j=>(gv b g o).ap j pre.length || !meet c (nth pre j) <;> rfl
 ·simp only [dec_lt hj,cV,ajl hv (show j < b.av.length by omega) hi,Option.bind_some,show (gv b g o).ap j pre.length=sB b j pre.length from rfl]
  cases sB b j pre.length with
  | true=>simp only [cV,Bool.true_or,if_true,fY (i:=j) (by omega)]
  | false =>
   simp only [b8,Bool.false_or]
   rw [LP (n:=b.ax.length) (λ k=>!((nth pre j).contains (k:Int) && c.contains (k:Int))) false (λ k hk=>?_) (by simp only [ja,b8])]
   ·have e:((List.range b.ax.length).all λ k=>!((nth pre j).contains (k:Int) && c.contains (k:Int)))=!meet c (nth pre j):=by
     rw [Bool.eq_iff_iff,Bool.not_eq_true',Ei,List.all_eq_true]
     constructor
     ·intro h k hk hk2
      have hb:=hc k hk
      have:=h k.toNat (by rw [List.mem_range]; omega)
      rw [Int.toNat_of_nonneg hb.1] at this
      simp [hk,hk2] at this
     ·intro h k _
      rw [Bool.not_eq_true',Bool.and_eq_false_iff]
      by_cases hk:(k:Int)∈c
      ·exact .inl (by have:=h _ hk; simpa using this)
      ·exact .inr (by simpa using hk)
    rw [e]
    cases meet c (nth pre j) with
    | true=>rfl
    | false=>simp only [Bool.not_false,if_true,Option.bind_some,Sum.elim_inl,fY (i:=j) (by omega)]
   ·simp only [dec_lt hk,cV,LC _ (show j < 4 by omega),LC _ (show pre.length < 4 by omega),Option.bind_some,D1 _ (show k < 4 by omega),zc hj,zn,fY (i:=k) (by omega)]
    cases (nth pre j).contains (k:Int) <;> cases c.contains (k:Int) <;> rfl
theorem aGi{β:Type}(n k0:Nat)(h:k0≤n)(p:Nat→Bool)(f:Nat→List β):((List.range n).filter λ m=>p m && decide (k0≤m)).flatMap f=(List.range (n - k0)).flatMap λ j=>if p (k0+j)=true then f (k0+j) else []:=by
 obtain ⟨d,rfl⟩:∃ d,n=k0+d:=⟨n - k0,by omega⟩
 rw [List.range_add,List.filter_append,List.flatMap_append]
 have e1:((List.range k0).filter λ m=>p m && decide (k0≤m))=[]:=by
  rw [List.filter_eq_nil_iff]
  intro m hm
  rw [List.mem_range] at hm
  simp only [Bool.and_eq_true,decide_eq_true_eq,not_and]
  omega
 rw [e1,List.flatMap_nil,List.nil_append,Nat.add_sub_cancel_left,List.filter_map,List.flatMap_map,← aFw]
 rw [List.flatMap_assoc]
 congr 1
 funext j
 simp only [Function.comp_apply,Nat.le_add_right,decide_true,Bool.and_true]
 cases p (k0+j) <;> simp
def DZ(c:List Int)(k0:Nat):Prop:=∀ m:Nat,(c.all λ x=>decide (x < (m:Int)))=decide (k0≤m)
theorem aFX:DZ [] 0:=λ m=>by simp
theorem DZ.snoc{c:List Int}{k0 k:Nat}(h:DZ c k0)(hk:k0≤k):DZ (c++[(k:Int)]) (k+1):=λ m=>by
 rw [List.all_append,h m,Bool.eq_iff_iff]
 simp only [List.all_cons,List.all_nil,Bool.and_true,Bool.and_eq_true,decide_eq_true_eq]
 omega
abbrev aFT(A:RB)(i:Nat):Nat→List Int→List Int:=λ _ p=>G0 A.n (A.ok i) p
theorem aFU{A:RB}{i:Nat}{c:List Int}{k0:Nat}(hf:DZ c k0)(h:k0≤A.n){β:Type}(f:Int→List β):(G0 A.n (A.ok i) c).flatMap f=(List.range (A.n - k0)).flatMap λ j=>if A.ok i (k0+j)=true then f ((k0+j:Nat):Int) else []:=by
 unfold G0 ny
 rw [List.filter_map,List.flatMap_map,← aGi A.n k0 h (A.ok i) λ m=>f (m:Int)]
 congr 1
 refine List.filter_congr λ m _=>?_
 simp only [Function.comp_apply,Int.toNat_natCast,hf m]
def zt(A:RB)(d:Nat)(pre:List (List Int))(left:Nat)(c:List Int):List (List Bool) :=
 (((tree (aFT A pre.length) left c.length c).filter (Bi A pre pre.length)).flatMap λ c'=>tree (sw A) d (pre.length+1) (pre++[c'])).map fK
def uj(A:RB)(d:Nat)(pre:List (List Int)):List (List Bool):=(tree (sw A) d pre.length pre).map fK
theorem aFZ{A:RB}{d:Nat}{pre:List (List Int)}(h:A.out pre.length=true):uj A (d+1) pre=uj A d (pre++[[]]):=by
 unfold uj
 simp only [tree,sw,h,if_true,List.flatMap_cons,List.flatMap_nil,List.append_nil,List.length_append,List.length_cons,List.length_nil]
theorem aFY{A:RB}{d:Nat}{pre:List (List Int)}(h:A.out pre.length=false):uj A (d+1) pre=zt A d pre (A.need pre.length) []:=by
 unfold uj zt
 simp only [tree,sw,h,Bool.false_eq_true,if_false,List.length_nil]
 rw [Y2]
 rfl
theorem aGg{A:RB}{d:Nat}{pre:List (List Int)}{c:List Int}:zt A d pre 0 c=if Bi A pre pre.length c=true then uj A d (pre++[c]) else []:=by
 unfold zt uj
 simp only [tree,List.filter_cons,List.filter_nil,List.length_append,List.length_cons,List.length_nil]
 split <;> simp
theorem aGh{A:RB}{d:Nat}{pre:List (List Int)}{c:List Int}{left k0:Nat}(hf:DZ c k0)(h:k0≤A.n):zt A d pre (left+1) c=(List.range (A.n - k0)).flatMap λ j=>if A.ok pre.length (k0+j)=true then zt A d pre left (c++[((k0+j:Nat):Int)]) else []:=by
 unfold zt
 simp only [tree]
 rw [aFU (A:=A) (i:=pre.length) hf h]
 simp only [List.filter_flatMap,List.flatMap_assoc,List.map_flatMap]
 congr 1
 funext j
 split <;> simp
theorem aGd{b:ao}(hv:Valid b){g:List Bool}(hg:g.length=4){o:Nat}(ho:o < 16){S:Type}(ys:List Bool→S→Option (S × Bool)):∀ d:Nat,
  (∀ (pre:List (List Int)) (f:Nat) (s:S) (r:S × Bool),pre.length+d=b.av.length→5 * d < f→kQ ys (uj (gv b g o) d pre) s=some r→(kT ys f).1 (fK pre) (pre.length:Int) (jQ b) (o:Int) g (sj b) s=some r) ∧
  (∀ (left:Nat) (pre:List (List Int)) (c:List Int) (k0 f:Nat) (s:S) (r:S × Bool),pre.length+d+1=b.av.length→5 * d+left+1 < f→DZ c k0→k0≤b.ax.length→(∀ k∈c,0≤k∧k < (b.ax.length:Int))→left≤3→kQ ys (zt (gv b g o) d pre left c) s=some r →
   (kT ys f).2 (fK (pre++[c])) (pre.length:Int) (k0:Int) (left:Int) (jQ b) (o:Int) g (sj b) s=some r):=by
 have hd:=hv.d4
 have hm:=hv.m4
 have two:∀ d:Nat,(∀ (pre:List (List Int)) (f:Nat) (s:S) (r:S × Bool),pre.length+d=b.av.length→5 * d < f→kQ ys (uj (gv b g o) d pre) s=some r→(kT ys f).1 (fK pre) (pre.length:Int) (jQ b) (o:Int) g (sj b) s=some r) →
   (∀ (left:Nat) (pre:List (List Int)) (c:List Int) (k0 f:Nat) (s:S) (r:S × Bool),pre.length+d+1=b.av.length→5 * d+left+1 < f→DZ c k0→k0≤b.ax.length→(∀ k∈c,0≤k∧k < (b.ax.length:Int))→left≤3→kQ ys (zt (gv b g o) d pre left c) s=some r →
   (kT ys f).2 (fK (pre++[c])) (pre.length:Int) (k0:Int) (left:Int) (jQ b) (o:Int) g (sj b) s=some r):=by
  intro d one left
  induction left with
  | zero =>
   intro pre c k0 f s r hl hf sf Lw hc _ hr
   obtain ⟨f,rfl⟩:∃ f',f=f'+1:=⟨f - 1,by omega⟩
   unfold kT
   simp only [Int.natCast_zero,beq_self_eq_true,cV]
   rw [show (jQ b).book=b from rfl,aGb hv (by omega) hc g o,Option.bind_some]
   rw [aGg] at hr
   cases ahg:Bi (gv b g o) pre pre.length c with
   | false =>
    rw [ahg] at hr
    simp only [Bool.false_eq_true,if_false,kQ,Option.some.injEq] at hr
    subst hr
    rfl
   | true =>
    rw [ahg,if_pos rfl] at hr
    have:=one (pre++[c]) f s r (by simp; omega) (by omega) hr
    rw [show (((pre++[c]).length:Nat):Int)=((pre.length+1:Nat):Int) by simp] at this
    simp only [Bool.not_true,b8,fY (i:=pre.length) (by omega),this,Option.bind_some]
  | succ left ih =>
   intro pre c k0 f s r hl hf sf Lw hc h3 hr
   obtain ⟨f,rfl⟩:∃ f',f=f'+1:=⟨f - 1,by omega⟩
   unfold kT
   simp only [show (((left+1:Nat):Int) == 0)=false by simp; omega,b8,show (jQ b).book=b from rfl]
   rw [aGh (A:=gv b g o) sf Lw,List.range_eq_range'] at hr
   obtain ⟨gr,hgr,hgk⟩:=aFO (b:=b) (i:=pre.length) (by omega)
   refine Exists.elim (YK (ys:=ys) (S:=S) (X:=Int × List Bool) (O:=S ⊕ (S × Bool)) (λ j=>if (gv b g o).ok pre.length (k0+j)=true then zt (gv b g o) d pre left (c++[((k0+j:Nat):Int)]) else []) ((gv b g o).n - k0)
    (λ j x=>x=(((k0+j:Nat):Int),fK (pre++[c]))) (λ s o=>o = .inl s) (λ s o=>o = .inr (s,false)) (body:=λ (bF:(S × Int × (List Bool))) =>
  aa (decide (bF.2.1 < (b.ax.length:Int)))
  (((((idx g bF.2.1).bind λ zi =>
  aa (!zi)
  (some true)
  ((gI 4 (sj b) (pre.length:Int)).bind λ tF =>
  (idx tF bF.2.1).bind λ zj =>
  some (!zj))):Option Bool)).bind (λ (A8:Bool) =>
  aa A8
  (some (.inl (bF.1,i64 (bF.2.1+1),bF.2.2)))
  ((gI 4 bF.2.2 (pre.length:Int)).bind λ GZ =>
  (idx GZ bF.2.1).bind λ gZ =>
  ((kT ys f).2 (lM 4 bF.2.2 (pre.length:Int) bF.2.1 true) (pre.length:Int) (i64 (bF.2.1+1)) (i64 (((left+1:Nat):Int) - 1)) (jQ b) (o:Int) g (sj b) bF.1).bind λ lQ =>
  aa (!lQ.2)
  (some (.inr (.inr (lQ.1,false))))
  ((gI 4 (lM 4 bF.2.2 (pre.length:Int) bF.2.1 true) (pre.length:Int)).bind λ vE =>
  (idx vE bF.2.1).bind λ YM =>
  some (.inl (lQ.1,i64 (bF.2.1+1),lM 4 (lM 4 bF.2.2 (pre.length:Int) bF.2.1 true) (pre.length:Int) bF.2.1 false))))))
  (some (.inr (.inl bF.1)))) (λ j s x r hj hI hr=>?_) (λ s x hI=>?_) ((gv b g o).n - k0) 0 s ((k0:Int),fK (pre++[c])) r (by omega) rfl hr) ?_
   ·subst hI
    have iO:k0+j < b.ax.length:=by have:(gv b g o).n=b.ax.length:=rfl; omega
    have YW:idx g ((k0+j:Nat):Int)=some (nth g (k0+j)):=by rw [fJ]; exact df (by omega)
    have hai:=hgk (k0+j) (by omega)
    rw [if_pos ⟨by omega,iO⟩] at hai
    have gJ:(gv b g o).ok pre.length (k0+j)=(nth g (k0+j) && re b pre.length (k0+j)):=rfl
    simp only [dec_lt iO,cV,YW,Option.bind_some,hgr,hai,fY (i:=k0+j) (by omega)]
    cases GM:(nth g (k0+j) && re b pre.length (k0+j)) with
    | false =>
     rw [gJ,GM] at hr
     simp only [Bool.false_eq_true,if_false,kQ,Option.some.injEq] at hr
     subst hr
     simp only [if_true]
     refine ⟨_,?_,rfl⟩
     rw [Bool.and_eq_false_iff] at GM
     rcases GM with h | h
     ·rw [h]; rfl
     ·rw [h]
      cases nth g (k0+j) <;> rfl
    | true =>
     rw [gJ,GM,if_pos rfl] at hr
     rw [Bool.and_eq_true] at GM
     have hnc:¬ ((k0+j:Nat):Int)∈c:=λ mE=>by
      have:=sf (k0+j)
      rw [decide_eq_true (by omega:k0≤k0+j),List.all_eq_true] at this
      have:=this _ mE
      simp at this
     have cont:∀ j' m:Nat,(nth (pre++[c++[((k0+j:Nat):Int)]]) j').contains (m:Int)=if j'=pre.length∧m=k0+j then true else (nth (pre++[c]) j').contains (m:Int):=by
      intro j' m
      by_cases e:j'=pre.length
      ·subst e
       rw [zn,zn]
       by_cases em:m=k0+j
       ·rw [if_pos ⟨rfl,em⟩,em]; simp
       ·rw [if_neg (λ h=>em h.2),Bool.eq_iff_iff,List.contains_iff_mem,List.contains_iff_mem,List.mem_append,List.mem_singleton]
        exact ⟨λ h=>h.resolve_right (by omega),.inl⟩
      ·rw [if_neg (λ h=>e h.1)]
       by_cases e2:j' < pre.length
       ·rw [zc e2,zc e2]
       ·have q:∀ z:List Int,nth (pre++[z]) j'=[]:=λ z=>by unfold nth; rw [List.getD_eq_getElem?_getD,List.getElem?_eq_none (by simp; omega)]; rfl
        rw [q,q]
     have s1:lM 4 (fK (pre++[c])) (pre.length:Int) ((k0+j:Nat):Int) true=fK (pre++[c++[((k0+j:Nat):Int)]]):=ahF (by omega) (by omega) λ j' m _ _=>cont j' m
     have s2:lM 4 (fK (pre++[c++[((k0+j:Nat):Int)]])) (pre.length:Int) ((k0+j:Nat):Int) false=fK (pre++[c]):=ahF (by omega) (by omega) λ j' m _ _=>by
      rw [cont j' m]
      by_cases e:j'=pre.length∧m=k0+j
      ·rw [if_pos e,e.1,e.2,zn]
       simpa using hnc
      ·rw [if_neg e,if_neg e]
     have aF4:=ih pre (c++[((k0+j:Nat):Int)]) (k0+j+1) f s r hl (by omega) (sf.snoc (by omega)) (by omega) (λ k hk=>by
      rw [List.mem_append,List.mem_singleton] at hk
      rcases hk with hk | rfl
      ·exact hc k hk
      ·omega) (by omega) hr
     simp only [GM.1,GM.2,Bool.not_true,b8,Option.bind_some,LC _ (show pre.length < 4 by omega),D1 _ (show k0+j < 4 by omega),s1,Qx (i:=left+1) (by omega) (by omega),Nat.add_sub_cancel,aF4,s2]
     cases hr2:r.2 with
     | true=>exact ⟨(((k0+(j+1):Nat):Int),fK (pre++[c])),by simp only [Bool.not_true,b8,Nat.add_assoc],rfl⟩
     | false=>exact ⟨.inr (r.1,false),by simp only [Bool.not_false,cV],rfl⟩
   ·subst hI
    refine ⟨.inl s,?_,rfl⟩
    rw [show k0+((gv b g o).n - k0)=b.ax.length from by have:(gv b g o).n=b.ax.length:=rfl; omega]
    simp only [ja,b8]
   ·rintro q ⟨hq,eR⟩
    have YX:=hq
    refine (xg YX).trans ?_
    split at eR
    ·rename_i h2; subst eR
     obtain ⟨r1,r2⟩:=r
     simp only at h2
     subst h2
     rfl
    ·rename_i h2; subst eR
     obtain ⟨r1,r2⟩:=r
     simp only [Bool.not_eq_true] at h2
     subst h2
     rfl
 intro d
 induction d with
 | zero =>
  have one:∀ (pre:List (List Int)) (f:Nat) (s:S) (r:S × Bool),pre.length+0=b.av.length→5 * 0 < f→kQ ys (uj (gv b g o) 0 pre) s=some r→(kT ys f).1 (fK pre) (pre.length:Int) (jQ b) (o:Int) g (sj b) s=some r:=by
   intro pre f s r hl hf hr
   obtain ⟨f,rfl⟩:∃ f',f=f'+1:=⟨f - 1,by omega⟩
   simp only [uj,tree,List.map_cons,List.map_nil,kQ] at hr
   obtain ⟨q,hq,hr⟩:=aj hr
   unfold kT
   simp only
   rw [show (jQ b).book=b from rfl,show ((pre.length:Int) == (b.av.length:Int))=true by simp; omega,cV,hq,Option.bind_some]
   obtain ⟨q1,q2⟩:=q
   cases q2 <;> simpa using hr
  exact ⟨one,two 0 one⟩
 | succ d ih =>
  have one:∀ (pre:List (List Int)) (f:Nat) (s:S) (r:S × Bool),pre.length+(d+1)=b.av.length→5 * (d+1) < f→kQ ys (uj (gv b g o) (d+1) pre) s=some r→(kT ys f).1 (fK pre) (pre.length:Int) (jQ b) (o:Int) g (sj b) s=some r:=by
   intro pre f s r hl hf hr
   obtain ⟨f,rfl⟩:∃ f',f=f'+1:=⟨f - 1,by omega⟩
   have hi:pre.length < b.av.length:=by omega
   have hb:=aFR (x:=o) (i:=pre.length) ho (by omega)
   obtain ⟨y,hy,hb⟩:=aj hb
   unfold kT
   simp only
   rw [show (jQ b).book=b from rfl,show ((pre.length:Int) == (b.av.length:Int))=false by simp; omega,b8,hy,Option.bind_some,hb,Option.bind_some]
   cases rZ:o.testBit pre.length with
   | true =>
    rw [aFZ (A:=gv b g o) rZ] at hr
    have:=ih.1 (pre++[[]]) f s r (by simp; omega) (by omega) hr
    rw [ahE,show (pre++[([]:List Int)]).length=pre.length+1 by simp] at this
    simp only [if_true,beq_self_eq_true,cV,fY (i:=pre.length) (by omega),this,Option.bind_some]
   | false =>
    rw [aFY (A:=gv b g o) rZ] at hr
    have atd:=(hv.dv hi).rL
    have:=ih.2 (nth b.av pre.length).ax.toNat pre [] 0 f s r (by omega) (by omega) aFX (by omega) (by simp) (by omega) hr
    rw [ahE,Int.toNat_of_nonneg (by omega)] at this
    simp only [Bool.false_eq_true,if_false,show ((0:Int) == 1)=false from rfl,b8,fJ,df hi,Option.bind_some]
    rw [show ((0:Nat):Int)=0 from rfl] at this
    rw [this]
    rfl
  exact ⟨one,two (d+1) one⟩
end Go.Proofs.YtihapemckcdicaaGreatDoor
namespace Go.Proofs.YtihapemckcdicaaGreatDoor
open Go.Lg Go.Proofs
set_option maxRecDepth 10000
theorem aFV{n need:Nat}{ok:Nat→Bool}(hn:n≤4):(A6 n need ok).length≤16:=by
 have h:=ajj (l:=A6 n need ok) (m:=(List.range (2 ^ n)).map (cJ n)) id (agS Re (agJ n need ok)) (λ x _ y _ h=>h) (λ c hc=>by
  have h1:=qX.1 hc
  obtain ⟨a,ha,e⟩:=aBs h1.2.1 (λ k hk=>⟨(h1.2.2 k hk).1,(h1.2.2 k hk).2.1⟩)
  exact List.mem_map.2 ⟨a,List.mem_range.2 ha,e.symm⟩)
 rw [List.length_map,List.length_range] at h
 exact Nat.le_trans h (Z6 (by omega))
theorem ahC{α:Type}{ext:Nat→List α→List α}{m:Nat}(h:∀ i p,(ext i p).length≤m):∀ n,(lvl ext n).length≤m ^ n
 | 0=>by simp [lvl]
 | n+1=>by
  have ih:=ahC h n
  simp only [lvl]
  refine Nat.le_trans (YH _ m (λ a=>by rw [List.length_map]; exact h _ _) _) ?_
  rw [Nat.pow_succ]
  exact Nat.mul_le_mul_right m ih
theorem aGk{A:RB}(hn:A.n≤4)(hd:A.D≤4):(r7 A).length≤65536:=by
 refine Nat.le_trans (ahC (m:=16) (λ i p=>?_) A.D) ?_
 ·unfold sw
  split
  ·simp
  ·exact Nat.le_trans (List.length_filter_le _ _) (aFV hn)
 ·calc 16 ^ A.D≤16 ^ 4:=Nat.pow_le_pow_right (by omega) hd
   _=65536:=by decide
theorem YL{b:ao}(hv:Valid b){g:List Bool}(hg:g.length=4){o:Nat}(ho:o < 16){S:Type}(ys:List Bool→S→Option (S × Bool)){s:S}{r:S × Bool}(hr:kQ ys ((r7 (gv b g o)).map fK) s=some r) :
  qk ys (jQ b) (o:Int) g (sj b) s=some r.1:=by
 unfold qk
 have h:=(aGd hv hg ho ys b.av.length).1 [] 40 s r (by simp) (by have:=hv.d4; omega) (by
  unfold uj
  rw [List.length_nil,show tree (sw (gv b g o)) b.av.length 0 []=r7 (gv b g o) from Y2 _ _]
  exact hr)
 have e:fK []=[false,false,false,false,false,false,false,false,false,false,false,false,false,false,false,false]:=rfl
 rw [List.length_nil,Int.natCast_zero,e] at h
 rw [h]
 rfl
def oJ(b:ao):List Bool:=lW (ny b.ax.length)
theorem Zw(b:ao):(oJ b).length=4:=by simp [oJ,lW]
theorem LG(c:List Int):(lW c).length=4:=by simp [lW]
theorem apS(c:List Int){k:Nat}(hk:k < 4):nth (lW c) k=c.contains (k:Int):=by
 have h:=D1 c hk
 rw [fJ] at h
 rw [df (by rw [LG]; exact hk)] at h
 exact Option.some.inj h
theorem ahP{c:List Int}{k:Nat}(hk:k < 4):(lW c).set k true=lW (c++[(k:Int)]):=by
 refine List.ext_getElem? λ p=>?_
 by_cases hp:p < 4
 ·rw [List.getElem?_set,LG]
  have e:∀ d:List Int,(lW d)[p]? = some (d.contains (p:Int)):=λ d=>by have:=D1 d hp; rwa [fJ] at this
  rw [e,e]
  by_cases h:k=p
  ·subst h
   rw [if_pos rfl,if_pos hk]
   simp
  ·rw [if_neg h]
   congr 1
   rw [Bool.eq_iff_iff,List.contains_iff_mem,List.contains_iff_mem,List.mem_append,List.mem_singleton]
   exact ⟨.inl,λ h2=>h2.resolve_right (by omega)⟩
 ·rw [List.getElem?_eq_none (by rw [List.length_set,LG]; omega),List.getElem?_eq_none (by rw [LG]; omega)]
theorem aIp{c:List Int}(hl:c.length≤100)(hc:∀ k∈c,0≤k∧k < 4):zD c=some (lW c):=by
 unfold zD
 refine (xg (o:=lW c) ?_).trans rfl
 have e0:((0:Int),[false,false,false,false])=(λ i:Nat=>((i:Int),lW (c.take i))) 0:=rfl
 rw [e0]
 refine CK (λ i:Nat=>((i:Int),lW (c.take i))) c.length (λ i hi=>?_) (by simp only [ja,b8,List.take_length])
 have hm:=hc _ (ko hi)
 have e:c.take (i+1)=c.take i++[nth c i]:=by rw [List.take_add_one,df hi]; rfl
 generalize nth c i=x at hm e
 obtain ⟨k,rfl⟩:=Int.eq_ofNat_of_zero_le hm.1
 have hx:c[i]? = some (k:Int):=by
  have h2:=congrArg List.getLast? e
  rw [List.getLast?_append] at h2
  rw [List.take_add_one] at e
  have:=List.append_cancel_left e
  cases h3:c[i]? with
  | none=>rw [h3] at this; cases this
  | some y=>rw [h3] at this; simpa using this
 simp only [dec_lt hi,cV,fJ,hx,Option.bind_some,fY (i:=i) (by omega),Int.toNat_natCast]
 have hk:k < 4:=by omega
 have:=D1 (c.take i) hk
 rw [fJ] at this
 rw [this,Option.bind_some,ahP hk,← e]
theorem Z2{b:ao}(hv:Valid b):vC b=some (oJ b):=by
 have hm:=hv.m4
 unfold vC oJ
 refine (xg (o:=lW (ny b.ax.length)) ?_).trans rfl
 have e0:((0:Int),[false,false,false,false])=(λ i:Nat=>((i:Int),lW (ny i))) 0:=rfl
 rw [e0]
 refine CK (λ i:Nat=>((i:Int),lW (ny i))) b.ax.length (λ i hi=>?_) (by simp only [ja,b8])
 have:=D1 (ny i) (show i < 4 by omega)
 simp only [dec_lt hi,cV,this,Option.bind_some,fY (i:=i) (by omega),Int.toNat_natCast,ahP (show i < 4 by omega),aEh]
theorem aS5{c:List Int}{n:Nat}(hn:n≤4)(ha:c.Pairwise (· < ·))(hc:∀ k∈c,0≤k∧k < (n:Int)):((List.range 4).filter λ k=>c.contains ((k:Nat):Int)).map (λ (k:Nat)=>(k:Int))=c:=by
 refine YP _ _ ?_ ha λ x=>?_
 ·rw [List.pairwise_map]
  exact (List.pairwise_lt_range.filter _).imp λ h=>by omega
 ·simp only [List.mem_map,List.mem_filter,List.mem_range,List.contains_iff_mem]
  constructor
  ·rintro ⟨k,⟨_,h⟩,rfl⟩; exact h
  ·intro h; have:=hc x h; exact ⟨x.toNat,⟨by omega,by rwa [Int.toNat_of_nonneg this.1]⟩,Int.toNat_of_nonneg this.1⟩
structure Zv (b:ao) (r:List (List Int)):Prop where
 len:r.length=b.av.length
 row:∀ i,i < b.av.length→(nth r i).Pairwise (· < ·)∧∀ k∈nth r i,0≤k∧k < (b.ax.length:Int)
theorem gi.rows{b:ao}{g:List Bool}{o:Nat}{r:List (List Int)}(h:gi (gv b g o) r):Zv b r:=⟨h.len,λ i hi=>by
 cases ho:(gv b g o).out i with
 | true=>rw [h.out i hi ho]; exact ⟨.nil,by simp⟩
 | false =>
  have:=qX.1 (h.vB i hi ho)
  exact ⟨this.2.1,λ k hk=>⟨(this.2.2 k hk).1,(this.2.2 k hk).2.1⟩⟩⟩
theorem aOB{b:ao}(hv:Valid b){r:List (List Int)}(hr:Zv b r):Bq b (fK r)=some r:=by
 have hd:=hv.d4
 have hm:=hv.m4
 unfold Bq
 refine (xg (o:=r) ?_).trans rfl
 have e0:(([]:List (List Int)),(0:Int))=(λ i:Nat=>(r.take i,(i:Int))) 0:=rfl
 rw [e0]
 refine CK (λ i:Nat=>(r.take i,(i:Int))) b.av.length (λ i hi=>?_) (by simp only [ja,b8,← hr.len,List.take_length])
 have adr:=hr.row i hi
 have hl:=hr.len
 simp only [dec_lt hi,cV,LC _ (show i < 4 by omega),Option.bind_some,fY (i:=i) (by omega)]
 rw [xg (o:=nth r i) ?_]
 ·rw [Ho (by rw [List.length_take]; simp only [List.length_cons,List.length_nil]; omega),Option.bind_some,List.take_add_one,df (by omega)]
  rfl
 ·have q0:(([]:List Int),(0:Int))=(λ k:Nat=>(((List.range k).filter λ k=>(nth r i).contains ((k:Nat):Int)).map (λ (k:Nat)=>(k:Int)),(k:Int))) 0:=rfl
  rw [q0]
  refine CK (λ k:Nat=>(((List.range k).filter λ k=>(nth r i).contains ((k:Nat):Int)).map (λ (k:Nat)=>(k:Int)),(k:Int))) 4 (λ k hk=>?_) ?_
  ·have hfl:((List.range k).filter λ k=>(nth r i).contains ((k:Nat):Int)).length≤k:=Nat.le_trans (List.length_filter_le _ _) (by simp)
   simp only [show decide ((k:Int) < 4)=true by simp; omega,cV,D1 _ hk,Option.bind_some,fY (i:=k) (by omega),List.range_succ,List.filter_append,List.map_append]
   cases ht:(nth r i).contains (k:Int) with
   | true =>
    rw [cV,Ho (by rw [List.length_map]; simp only [List.length_cons,List.length_nil]; omega),Option.bind_some]
    simp only [List.filter_cons,ht,if_true,List.filter_nil,List.map_cons,List.map_nil]
   | false =>
    simp only [b8,List.filter_cons,ht,Bool.false_eq_true,if_false,List.filter_nil,List.map_nil,List.append_nil]
  ·rw [show decide (((4:Nat):Int) < 4)=false from rfl,b8,aS5 hm adr.1 adr.2]
abbrev vD(b:ao):List (List (List Int)):=r7 (gv b (oJ b) 0)
theorem ahD{b:ao}(hv:Valid b)(g:List Bool)(o:Nat):(r7 (gv b g o)).length≤65536:=aGk hv.m4 hv.d4
theorem aGS{b:ao}{g:List Bool}{o:Nat}{r:List (List Int)}(h:r∈r7 (gv b g o)):Zv b r:=gi.rows (Zs.1 h)
def QI(b:ao):Int × Int:=if nz b 0≠0 then (0,nz b 0) else ((vD b).length,0)
theorem ah0{b:ao}(hs:Small b):np b=some (QI b):=by
 unfold np QI
 rw [Zg hs (own:=0) (λ _=>rfl),Option.bind_some]
 unfold GX
 by_cases h:nz b 0=0
 ·obtain ⟨hv,_,_⟩:=ZS h
  have hl:=ahD hv (oJ b) 0
  simp only [h,ne_eq,not_true_eq_false,if_false,bne_self_eq_false,b8,Z1 hv,show (jQ b).book=b from rfl,Z2 hv,vJ,Option.bind_some]
  rw [show (0:Int)=((0:Nat):Int) from rfl,YL hv (Zw b) (by omega) _ (r:=(.inl ((((vD b).map fK).foldl (λ (s:Int) _=>s+1) 0)),true)) (QN (λ k s=>s=(k:Int)) (λ _ s=>s+1) _ 0 _ rfl (λ j s a hj hs _=>by
   subst hs
   simp only [List.length_map] at hj
   rw [fY (i:=j) (by omega)]
   exact ⟨rfl,rfl⟩))]
  have key:∀ (l:List (List Bool)) (s:Int),l.foldl (λ s _=>s+1) s=s+l.length:=by
   intro l
   induction l with
   | nil=>simp
   | cons a l ih=>intro s; rw [List.foldl_cons,ih]; simp; omega
  rw [Option.bind_some,Sum.elim_inl,key,List.length_map]
  simp
 ·simp only [h,ne_eq,not_false_eq_true,if_true,D3 h,cV]
def tL(b:ao)(g:List Bool)(o:Nat):Bool:=!(r7 (gv b g o)).isEmpty
theorem aFH{b:ao}(hv:Valid b){g:List Bool}(hg:g.length=4){o:Nat}(ho:o < 16):zq (jQ b) (sj b) g (o:Int)=some (tL b g o):=by
 unfold zq tL
 simp only [vJ,Option.bind_some]
 cases hc:r7 (gv b g o) with
 | nil =>
  rw [YL hv hg ho _ (r:=(.inl (),true)) (by rw [hc]; rfl)]
  rfl
 | cons r l =>
  rw [YL hv hg ho _ (r:=(.inr (),false)) (by rw [hc]; rfl)]
  rfl
def aFt(b:ao):List Int × Bool × Int:=if nz b 0≠0 then ([],false,nz b 0) else ((gS b.ax.length (λ a=>tL b (lW (cJ b.ax.length a)) 0) (2 ^ b.ax.length)).1,(gS b.ax.length (λ a=>tL b (lW (cJ b.ax.length a)) 0) (2 ^ b.ax.length)).2,0)
theorem aTy{b:ao}(hs:Small b):xk b=some (aFt b):=by
 unfold xk aFt
 rw [Zg hs (own:=0) (λ _=>rfl),Option.bind_some]
 unfold GX
 by_cases h:nz b 0=0
 ·obtain ⟨hv,_,_⟩:=ZS h
  have hm:=hv.m4
  simp only [h,ne_eq,not_true_eq_false,if_false,bne_self_eq_false,b8,Z1 hv,show (jQ b).book=b from rfl,Z2 hv,Option.bind_some]
  rw [aGv (P:=λ a=>tL b (lW (cJ b.ax.length a)) 0) (by omega) (λ a ha=>?_),Option.bind_some]
  unfold Eh
  rw [aGc (n:=b.ax.length) (by omega) ha,Option.bind_some,aIp (by have:=aHp (n:=b.ax.length) (by omega) ha; omega) (λ k hk=>by have:=aGQ hk; omega),Option.bind_some,show (0:Int)=((0:Nat):Int) from rfl,aFH hv (LG _) (by omega),Option.bind_some]
  cases hg:tL b (lW (cJ b.ax.length a)) 0 with
  | true=>rfl
  | false =>
   rw [b8]
   cases he:Qg (lW (cJ b.ax.length a)) (oJ b) with
   | false=>rfl
   | true =>
    have he:lW (cJ b.ax.length a)=oJ b:=by simpa [Qg] using he
    rw [show (true == true)=true from rfl,cV,aFH hv (Zw b) (by omega),← he,hg]
    rfl
 ·simp only [h,ne_eq,not_false_eq_true,if_true,D3 h,cV]
def abZ(b:ao):List Int × Int:=if nz b 0≠0 then ([],nz b 0) else ((gS b.av.length (λ a=>tL b (oJ b) a) (2 ^ b.av.length)).1,0)
theorem aGw{b:ao}(hs:Small b):pC b=some (abZ b):=by
 unfold pC abZ
 rw [Zg hs (own:=0) (λ _=>rfl),Option.bind_some]
 unfold GX
 by_cases h:nz b 0=0
 ·obtain ⟨hv,_,_⟩:=ZS h
  have hd:=hv.d4
  have hp:=Z6 (n:=b.av.length) (by omega)
  simp only [h,ne_eq,not_true_eq_false,if_false,bne_self_eq_false,b8,Z1 hv,show (jQ b).book=b from rfl,Z2 hv,Option.bind_some]
  rw [aGv (P:=λ a=>tL b (oJ b) a) (by omega) (λ a ha=>?_),Option.bind_some]
  unfold D7
  rw [aFH hv (Zw b) (by omega)]
  rfl
 ·simp only [h,ne_eq,not_false_eq_true,if_true,D3 h,cV]
end Go.Proofs.YtihapemckcdicaaGreatDoor
namespace Go.Proofs.YtihapemckcdicaaGreatDoor
open Go.Lg Go.Proofs
set_option maxRecDepth 10000
def vI(b:ao):RB:=⟨b.ax.length,b.av.length,λ i=>(nth b.av i).ax.toNat,re b,sB b,λ _=>false⟩
theorem gi.same{A C:RB}(hn:A.n=C.n)(hD:A.D=C.D)(Qj:∀ i,i < A.D→A.need i=C.need i)(gJ:∀ i k,i < A.D→k < A.n→A.ok i k=C.ok i k)(kA:∀ i j,i < A.D→j < i→A.ap j i=C.ap j i∧A.ap i j=C.ap i j)(rZ:∀ i,i < A.D→A.out i=C.out i){r:List (List Int)}:gi A r↔gi C r:=by
 constructor
 ·intro h
  exact gi.le ⟨by omega,hD,Qj,λ i k hi hk h=>by rw [← gJ i k hi hk]; exact h,λ i j hi hj h=>by rw [← (kA i j hi hj).1]; exact h,λ i hi h=>by rw [← rZ i hi]; exact h,λ i hi h=>by rw [rZ i hi]; exact h⟩ h
 ·intro h
  exact gi.le ⟨by omega,hD.symm,λ i hi=>(Qj i (by omega)).symm,λ i k hi hk h=>by rw [gJ i k (by omega) (by omega)]; exact h,λ i j hi hj h=>by rw [(kA i j (by omega) hj).1]; exact h,λ i hi h=>by rw [rZ i (by omega)]; exact h,λ i hi h=>by rw [← rZ i (by omega)]; exact h⟩ h
theorem agL{b:ao}{g:List Bool}{o:Nat}:tL b g o=true↔∃ r,gi (gv b g o) r:=by
 unfold tL
 rw [Bool.not_eq_true',List.isEmpty_eq_false_iff_exists_mem]
 exact ⟨λ ⟨r,h⟩=>⟨r,Zs.1 h⟩,λ ⟨r,h⟩=>⟨r,Zs.2 h⟩⟩
theorem aIv{b:ao}(hm:b.ax.length≤4){l:List Int}{r:List (List Int)}:gi (gv b (lW l) 0) r↔gi (vI b) r∧Ea l r=true:=by
 rw [← aHr]
 refine gi.same (A:=gv b (lW l) 0) (C:=(vI b).only l) rfl rfl (λ _ _=>rfl) (λ i k _ hk=>?_) (λ _ _ _ _=>⟨rfl,rfl⟩) (λ i _=>by simp [gv,RB.only,vI])
 show (nth (lW l) k && re b i k)=(re b i k && l.contains (k:Int))
 rw [apS l (show k < 4 by have:(gv b (lW l) 0).n=b.ax.length:=rfl; omega),Bool.and_comm]
theorem ZI{b:ao}(hm:b.ax.length≤4){o:Nat}{r:List (List Int)}:gi (gv b (oJ b) o) r↔gi { vI b with out:=λ i=>o.testBit i } r:=by
 refine gi.same (A:=gv b (oJ b) o) (C:={ vI b with out:=λ i=>o.testBit i }) rfl rfl (λ _ _=>rfl) (λ i k _ hk=>?_) (λ _ _ _ _=>⟨rfl,rfl⟩) (λ i _=>rfl)
 show (nth (lW (ny b.ax.length)) k && re b i k)=re b i k
 have cR:k < b.ax.length:=hk
 rw [apS _ (by omega),show (ny b.ax.length).contains (k:Int)=true by rw [List.contains_iff_mem,ZG]; omega,Bool.true_and]
theorem aCH{b:ao}(hm:b.ax.length≤4){r:List (List Int)}:gi (gv b (oJ b) 0) r↔gi (vI b) r:=by
 rw [ZI hm]
 exact gi.same (A:={ vI b with out:=λ i=>(0:Nat).testBit i }) (C:=vI b) rfl rfl (λ _ _=>rfl) (λ _ _ _ _=>rfl) (λ _ _ _ _=>⟨rfl,rfl⟩) (λ i _=>by simp [vI])
theorem ag4{b:ao}(hv:Valid b):nz b 0=if gA b=[] then 9 else 0:=by unfold nz; simp [D5.2 hv]
theorem aVj{n:Nat}:cJ n (2 ^ n - 1)=ny n:=by
 unfold cJ ny
 rw [List.filter_eq_self.2 λ i hi=>aFx i (List.mem_range.1 hi)]
set_option maxRecDepth 1000000 in
theorem aVk{b:ao}(hv:Valid b){i j:Nat}(pn:i < j)(hj:j < b.ax.length):xl (nth b.ax j) (nth b.ax i)=false:=by
 have:=hv.names j hj
 rw [List.any_eq_false] at this
 have h2:=this (nth b.ax i) (by rw [← qP pn]; exact ko (by rw [List.length_take]; omega))
 simpa using h2
theorem goes_mono{b:ao}(hv:Valid b){l:List Int}(h:tL b (lW l) 0=true):tL b (oJ b) 0=true:=by
 rw [agL] at h ⊢
 obtain ⟨r,h⟩:=h
 exact ⟨r,(aCH hv.m4).2 ((aIv hv.m4).1 h).1⟩
abbrev Zz(b:ao)(a:Nat):Bool:=tL b (lW (cJ b.ax.length a)) 0
theorem aTi{b:ao}(hv:Valid b)(h:tL b (oJ b) 0=false):gS b.ax.length (Zz b) (2 ^ b.ax.length)=([],false) :=
 aHy λ a _=>by
  cases hp:Zz b a with
  | false=>rfl
  | true=>rw [goes_mono hv hp] at h; cases h
theorem aTj{b:ao}(h:tL b (oJ b) 0=true):(gS b.ax.length (Zz b) (2 ^ b.ax.length)).2=true∧cI b.ax.length (Zz b) (gS b.ax.length (Zz b) (2 ^ b.ax.length)).1:=by
 have hp:=Nat.two_pow_pos b.ax.length
 refine aFL (a:=2 ^ b.ax.length - 1) (by omega) ?_
 show tL b (lW (cJ b.ax.length (2 ^ b.ax.length - 1))) 0=true
 rw [aVj]
 exact h
end Go.Proofs.YtihapemckcdicaaGreatDoor
namespace Go.Proofs.YtihapemckcdicaaGreatDoor
open Go.Lg Go.Proofs
set_option maxRecDepth 10000
abbrev QM(b:ao)(a:Nat):Bool:=tL b (oJ b) a
theorem aH5{b:ao}(hv:Valid b):QM b (2 ^ b.av.length - 1)=true:=by
 rw [agL]
 refine ⟨List.replicate b.av.length [],?_⟩
 rw [ZI hv.m4]
 have e:∀ i,i < b.av.length→nth (List.replicate b.av.length ([]:List Int)) i=[]:=λ i hi=>by
  have:=df (l:=List.replicate b.av.length ([]:List Int)) (i:=i) (by simpa using hi)
  rw [List.getElem?_replicate,if_pos hi] at this
  exact (Option.some.inj this).symm
 refine ⟨by simp [vI],λ i hi _=>e i hi,λ i hi ho=>?_,λ i j hi hj=>.inr ?_⟩
 ·have:(2 ^ b.av.length - 1).testBit i=true:=aFx i hi
  have ho:(2 ^ b.av.length - 1).testBit i=false:=ho
  rw [this] at ho
  cases ho
 ·rw [e i hi]; rfl
theorem aGo{b:ao}(hv:Valid b):cI b.av.length (QM b) (gS b.av.length (QM b) (2 ^ b.av.length)).1 :=
 (aFL (a:=2 ^ b.av.length - 1) (by have:=Nat.two_pow_pos b.av.length; omega) (aH5 hv)).2
end Go.Proofs.YtihapemckcdicaaGreatDoor
namespace Go.Proofs.YtihapemckcdicaaGreatDoor
open Go.Lg Go.Proofs
set_option maxRecDepth 10000
def kR(b:ao)(i:Nat):Int:=(nth b.av i).gR
abbrev Av(b:ao)(r:List (List Int)):Int:=r6 (kR b) r b.av.length b.ax.length
def GR(f:Int→Int):Int:=max (max (max (max 0 (f 0)) (f 1)) (f 2)) (f 3)
def qj(t:Nat→Int)(r:List (List Int))(i k:Nat):Int→Int:=λ a=>ib t r a i+if (0≤a∧a < (k:Int))∧a∈nth r i then t i else 0
theorem aS1{f:Int→Int}{k:Nat}(hk:k < 4){z:Int}(hz:f k≤z):GR (pv f k z)=max (GR f) z:=by
 match k,hk with
 | 0,_=>simp only [GR,pv] at hz ⊢; simp; simp at hz; omega
 | 1,_=>simp only [GR,pv] at hz ⊢; simp; simp at hz; omega
 | 2,_=>simp only [GR,pv] at hz ⊢; simp; simp at hz; omega
 | 3,_=>simp only [GR,pv] at hz ⊢; simp; simp at hz; omega
theorem aGX{b:ao}(hv:Valid b)(r:List (List Int))(k:Int):∀ i,i≤b.av.length→0≤ib (kR b) r k i∧ib (kR b) r k i≤60 * i
 | 0,_=>by simp [ib]
 | i+1,h=>by
  have ih:=aGX hv r k i (by omega)
  have ht:=(hv.dv (i:=i) (by omega)).Hv
  simp only [ib]
  have:kR b i=(nth b.av i).gR:=rfl
  split <;> omega
theorem aHi{b:ao}(hv:Valid b){r:List (List Int)}(hr:Zv b r):A5 b (fK r)=some (Av b r):=by
 have hd:=hv.d4
 have hm:=hv.m4
 unfold A5
 have ht:∀ i,i < b.av.length→1≤kR b i∧kR b i≤60:=λ i hi=>(hv.dv hi).Hv
 have fin:GR (qj (kR b) r b.av.length 0)=Av b r:=by
  have e:∀ a:Int,qj (kR b) r b.av.length 0 a=ib (kR b) r a b.av.length:=λ a=>by
   unfold qj
   rw [if_neg (by omega)]
   omega
  have z:∀ k:Nat,b.ax.length≤k→ib (kR b) r (k:Int) b.av.length=0:=λ k hk=>ahG λ i hi mE=>by
   have:=(hr.row i hi).2 _ mE
   omega
  have key:∀ m,Av b r≤m↔0≤m∧ib (kR b) r 0 b.av.length≤m∧ib (kR b) r 1 b.av.length≤m∧ib (kR b) r 2 b.av.length≤m∧ib (kR b) r 3 b.av.length≤m:=λ m=>by
   rw [Qd]
   have q:∀ k:Nat,0≤m→(∀ j:Nat,j < b.ax.length→ib (kR b) r (j:Int) b.av.length≤m)→ib (kR b) r (k:Int) b.av.length≤m:=λ k h0 h=>by
    by_cases hk:k < b.ax.length
    ·exact h k hk
    ·rw [z k (by omega)]; exact h0
   constructor
   ·rintro ⟨h0,h⟩
    exact ⟨h0,q 0 h0 h,q 1 h0 h,q 2 h0 h,q 3 h0 h⟩
   ·rintro ⟨h0,h1,h2,h3,h4⟩
    refine ⟨h0,λ k hk=>?_⟩
    match k,(show k < 4 by omega) with
    | 0,_=>exact h1
    | 1,_=>exact h2
    | 2,_=>exact h3
    | 3,_=>exact h4
  unfold GR
  rw [e,e,e,e]
  have k1:=(key (Av b r)).1 (Int.le_refl _)
  have k2:=(key (max (max (max (max 0 (ib (kR b) r 0 b.av.length)) (ib (kR b) r 1 b.av.length)) (ib (kR b) r 2 b.av.length)) (ib (kR b) r 3 b.av.length))).2 (by omega)
  omega
 rw [← fin]
 refine (xg (o:=GR (qj (kR b) r b.av.length 0)) ?_).trans rfl
 have e0:((λ _=>0:Int→Int),(0:Int),(0:Int))=(λ i:Nat=>(qj (kR b) r i 0,GR (qj (kR b) r i 0),(i:Int))) 0:=by
  have:qj (kR b) r 0 0=λ _=>0:=by
   funext a
   unfold qj
   rw [if_neg (by omega)]
   rfl
  simp only [this]
  rfl
 rw [e0]
 refine CK (λ i:Nat=>(qj (kR b) r i 0,GR (qj (kR b) r i 0),(i:Int))) b.av.length (λ i hi=>?_) (by simp only [ja,b8])
 have hb:=λ a=>aGX hv r a i (by omega)
 have hti:=ht i hi
 simp only [dec_lt hi,cV,fJ,df hi,Option.bind_some,LC _ (show i < 4 by omega),fY (i:=i) (by omega)]
 have nx:qj (kR b) r i 4=qj (kR b) r (i+1) 0:=by
  funext a
  unfold qj
  simp only [ib]
  rw [if_neg (show ¬((0≤a∧a < ((0:Nat):Int))∧a∈nth r (i+1)) by omega)]
  by_cases ha:a∈nth r i
  ·have:=(hr.row i hi).2 a ha
   rw [if_pos ⟨⟨by omega,by omega⟩,ha⟩,if_pos ha]
   omega
  ·rw [if_neg (λ h=>ha h.2),if_neg ha]
   omega
 rw [xg (o:=(qj (kR b) r (i+1) 0,GR (qj (kR b) r (i+1) 0))) ?_]
 have q0:(qj (kR b) r i 0,GR (qj (kR b) r i 0),(0:Int))=(λ k:Nat=>(qj (kR b) r i k,GR (qj (kR b) r i k),(k:Int))) 0:=rfl
 rw [q0]
 refine CK (λ k:Nat=>(qj (kR b) r i k,GR (qj (kR b) r i k),(k:Int))) 4 (λ k hk=>?_) ?_
 ·simp only [show decide ((k:Int) < 4)=true by simp; omega,cV,D1 _ hk,Option.bind_some,fY (i:=k) (by omega)]
  have hfk:qj (kR b) r i k (k:Int)=ib (kR b) r (k:Int) i:=by
   unfold qj
   rw [if_neg (λ h=>by omega)]
   omega
  have mN:=hb (k:Int)
  cases hc:(nth r i).contains (k:Int) with
  | true =>
   rw [List.contains_iff_mem] at hc
   have e1:pv (qj (kR b) r i k) (k:Int) (qj (kR b) r i k (k:Int)+kR b i)=qj (kR b) r i (k+1):=by
    funext a
    unfold pv
    by_cases ha:a=(k:Int)
    ·subst ha
     rw [if_pos rfl,hfk]
     unfold qj
     rw [if_pos ⟨⟨by omega,by omega⟩,hc⟩]
    ·rw [if_neg ha]
     unfold qj
     congr 1
     by_cases h2:(0≤a∧a < (k:Int))∧a∈nth r i
     ·rw [if_pos h2,if_pos ⟨⟨h2.1.1,by omega⟩,h2.2⟩]
     ·rw [if_neg h2,if_neg (λ h3=>h2 ⟨⟨h3.1.1,by omega⟩,h3.2⟩)]
   have e2:i64 (qj (kR b) r i k (k:Int)+(nth b.av i).gR)=qj (kR b) r i k (k:Int)+kR b i:=by
    rw [hfk,oq (by have:kR b i=(nth b.av i).gR:=rfl; omega) (by have:kR b i=(nth b.av i).gR:=rfl; omega)]
    rfl
   rw [cV,e2,e1,aFJ]
   congr 2
   have:=aS1 (f:=qj (kR b) r i k) hk (z:=qj (kR b) r i k (k:Int)+kR b i) (by omega)
   rw [e1] at this
   rw [this]
   congr 2
   rw [← e1]
   unfold pv
   rw [if_pos rfl]
  | false =>
   have xd:¬ (k:Int)∈nth r i:=λ h=>by rw [← List.contains_iff_mem,hc] at h; cases h
   have e1:qj (kR b) r i (k+1)=qj (kR b) r i k:=by
    funext a
    unfold qj
    congr 1
    by_cases h2:(0≤a∧a < (k:Int))∧a∈nth r i
    ·rw [if_pos h2,if_pos ⟨⟨h2.1.1,by omega⟩,h2.2⟩]
    ·rw [if_neg h2,if_neg (λ h3=>h2 ⟨⟨h3.1.1,by
      have:a≠(k:Int):=λ e=>xd (e ▸ h3.2)
      omega⟩,h3.2⟩)]
   rw [b8,e1]
 ·rw [show decide (((4:Nat):Int) < 4)=false from rfl,b8,nx]
theorem aSZ{f:List Bool→Option Int}{w:List (List Int)→Int}:∀ (l:List (List (List Int))) (x:List (List Int)),(∀ y∈x::l,f (fK y)=some (w y))→l.length≤70000→GO f ((x::l).map fK)=some (fK (nK w x l)):=by
 intro l x hf hl
 unfold GO
 rw [show idx ((x::l).map fK) 0=some (fK x) from rfl,Option.bind_some]
 rw [show nN ((x::l).map fK) 1 (((x::l).map fK).length:Int)=some (l.map fK) from aGz,Option.bind_some]
 refine (xg (o:=fK (nK w x l)) ?_).trans rfl
 have e0:((0:Int),fK x)=(λ i:Nat=>((i:Int),fK (nK w x (l.take i)))) 0:=rfl
 rw [e0]
 have sn:∀ (l:List (List (List Int))) (x y:List (List Int)),nK w x (l++[y])=if w y < w (nK w x l) then y else nK w x l:=by
  intro l
  induction l with
  | nil=>intro x y; rfl
  | cons z l ih=>intro x y; exact ih _ y
 have mem:∀ (l:List (List (List Int))) (x:List (List Int)),nK w x l∈x::l:=by
  intro l
  induction l with
  | nil=>intro x; simp [nK]
  | cons z l ih =>
   intro x
   simp only [nK]
   have:=ih (if w z < w x then z else x)
   rcases List.mem_cons.1 this with h | h
   ·rw [h]; split <;> simp
   ·simp [h]
 have hlm:(l.map fK).length=l.length:=List.length_map _
 refine (congrArg (λ z=>bC _ z) rfl).trans ?_
 rw [hlm]
 refine CK (λ i:Nat=>((i:Int),fK (nK w x (l.take i)))) l.length (λ i hi=>?_) (by simp only [ja,b8,List.take_length])
 have e:(l.map fK)[i]? = some (fK (nth l i)):=by rw [List.getElem?_map,df hi]; rfl
 have hb:nK w x (l.take i)∈x::l:=by
  rcases List.mem_cons.1 (mem (l.take i) x) with h | h
  ·rw [h]; simp
  ·exact List.mem_cons_of_mem _ (List.mem_of_mem_take h)
 simp only [dec_lt hi,cV,fJ,e,Option.bind_some,hf _ (List.mem_cons_of_mem _ (ko hi)),hf _ hb,fY (i:=i) (by omega)]
 have et:l.take (i+1)=l.take i++[nth l i]:=by rw [List.take_add_one,df hi]; rfl
 rw [et,sn]
 by_cases hw:w (nth l i) < w (nK w x (l.take i))
 ·rw [decide_eq_true hw,cV,if_pos hw]
 ·rw [decide_eq_false hw,b8,if_neg hw]
theorem aSY{b:ao}(hv:Valid b){g:List Bool}(hg:g.length=4){o:Nat}(ho:o < 16):GN (λ y s=>qk y (jQ b) (o:Int) g (sj b) s)=some ((r7 (gv b g o)).map fK):=by
 unfold GN Hr
 have hl:=ahD hv g o
 have key:∀ (l a:List (List Bool)),l.foldl (λ s c=>s++[c]) a=a++l:=by
  intro l
  induction l with
  | nil=>simp
  | cons c l ih=>intro a; rw [List.foldl_cons,ih]; simp
 dsimp only
 rw [YL hv hg ho _ (r:=(.inl ((((r7 (gv b g o)).map fK).foldl (λ (s:List (List Bool)) c=>s++[c]) [])),true)) (QN (λ k s=>s.length=k) (λ c s=>s++[c]) _ 0 [] rfl (λ j s a hj hs _=>by
  simp only [List.length_map] at hj
  rw [Ho (by simp; omega)]
  exact ⟨rfl,by simp [hs]⟩))]
 rw [key]
 rfl
def ajF(b:ao):List (List Int) × Int × Bool × Int:=if nz b 0≠0 then ([],0,false,nz b 0) else match vD b with | []=>([],0,false,0) | r::l=>(nK (Av b) r l,Av b (nK (Av b) r l),true,0)
theorem aFQ{α:Type}(w:α→Int):∀ (l:List α) (x:α),nK w x l∈x::l
 | [],x=>by simp [nK]
 | z::l,x=>by
  simp only [nK]
  rcases List.mem_cons.1 (aFQ w l (if w z < w x then z else x)) with h | h
  ·rw [h]; split <;> simp
  ·simp [h]
theorem aIq{b:ao}(hs:Small b):tz b=some (ajF b):=by
 unfold tz ajF
 rw [Zg hs (own:=0) (λ _=>rfl),Option.bind_some]
 unfold GX
 by_cases h:nz b 0=0
 ·obtain ⟨hv,_,_⟩:=ZS h
  have hl:=ahD hv (oJ b) 0
  simp only [h,ne_eq,not_true_eq_false,if_false,bne_self_eq_false,b8,Z1 hv,show (jQ b).book=b from rfl,Z2 hv,vJ,Option.bind_some]
  have aG7:=aSY hv (Zw b) (o:=0) (by omega)
  rw [show ((0:Nat):Int)=0 from rfl] at aG7
  rw [aG7,Option.bind_some,List.length_map]
  have aF5:∀ r∈vD b,Zv b r:=λ r hr=>aGS hr
  rw [show r7 (gv b (oJ b) 0)=vD b from rfl] at hl ⊢
  cases hc:vD b with
  | nil=>rfl
  | cons r l =>
   rw [hc] at hl aF5
   simp only [List.length_cons] at hl
   rw [show ((((r::l).length:Nat):Int) == 0)=false by simp; omega,b8]
   rw [aSZ (w:=Av b) l r (λ y hy=>aHi hv (aF5 y hy)) (by omega),Option.bind_some]
   have Qi:=aF5 _ (aFQ (Av b) l r)
   rw [aOB hv Qi,Option.bind_some,aHi hv Qi,Option.bind_some]
 ·simp only [h,ne_eq,not_false_eq_true,if_true,D3 h,cV]
def aGf(b:ao)(k i:Int):Int × Int:=if lR b≠0 then (0,lR b) else if (isM b k && isD b i)=false then (0,6) else if gA b=[] then (0,9) else (G2 ((gA b).filter λ c=>xh b c k.toNat i.toNat).length (gA b).length,0)
theorem aTx{b:ao}(hs:Small b)(k i:Int):tC b k i=some (aGf b k i):=by
 have aXh:=hs.rL
 have aW8:=hs.PZ
 unfold tC aGf
 have aT6:D6 b k i=some (if (isM b k && isD b i)=false then 6 else 0):=by
  unfold D6
  rw [W5 (m:=b.ax.length) (by omega),Option.bind_some,W5 (m:=b.av.length) (by omega),Option.bind_some,aFJ]
  have e1:isM b k=cL k 0 ((b.ax.length:Int) - 1):=rfl
  have e2:isD b i=cL i 0 ((b.av.length:Int) - 1):=rfl
  rw [e1,e2]
  cases cL k 0 ((b.ax.length:Int) - 1) <;> cases cL i 0 ((b.av.length:Int) - 1) <;> rfl
 rw [Zg hs (own:=if (isM b k && isD b i)=false then 6 else 0) (λ _=>aT6),Option.bind_some]
 unfold GX nz
 by_cases h1:lR b=0
 ·have hv:=D5.1 h1
  rw [if_neg (show ¬ lR b≠0 by simpa using h1),if_neg (show ¬ lR b≠0 by simpa using h1)]
  cases hki:(isM b k && isD b i) with
  | false=>rfl
  | true =>
   rw [Bool.and_eq_true] at hki
   obtain ⟨k',rfl,hk⟩:=aOq.1 hki.1
   obtain ⟨i',rfl,hi⟩:=aGt.1 hki.2
   simp only [Bool.true_eq_false,if_false,ne_eq,not_true_eq_false]
   by_cases hc:gA b=[]
   ·rw [if_pos hc,if_pos hc]; rfl
   ·rw [if_neg hc,if_neg hc]
    simp only [not_true_eq_false,if_false,bne_self_eq_false,b8]
    rw [ahY hv (p:=λ c=>xh b c k' i') (λ c hc=>by unfold Eg; rw [show (jQ b).book=b from rfl,ahZ hv (ah3.1 hc).1.1 hk hi]; rfl),Option.bind_some,aOA]
    rfl
 ·rw [if_pos h1,if_pos h1]
  simp only [h1,ne_eq,not_false_eq_true,if_true,D3 h1,cV]
end Go.Proofs.YtihapemckcdicaaGreatDoor
namespace Go.Proofs.YtihapemckcdicaaGreatDoor
open Go.Lg Go.Proofs
set_option maxRecDepth 10000
theorem aSL{α:Type}(w:α→Int):∀ (l:List α) (x:α),∀ y∈x::l,w (nK w x l)≤w y
 | [],x,y,hy=>by simp at hy; subst hy; exact Int.le_refl _
 | z::l,x,y,hy=>by
  simp only [nK]
  have ih:=aSL w l (if w z < w x then z else x)
  have h0:=ih _ (List.mem_cons_self ..)
  rcases List.mem_cons.1 hy with rfl | hy
  ·split at h0 <;> rename_i h <;> simp only [h,if_true,if_false] at h0 ⊢ <;> omega
  ·rcases List.mem_cons.1 hy with rfl | hy
   ·split at h0 <;> rename_i h <;> simp only [h,if_true,if_false] at h0 ⊢ <;> omega
   ·exact ih y (List.mem_cons_of_mem _ hy)
theorem aFK{b:ao}(hv:Valid b){r:List (List Int)}:r∈vD b↔gi (vI b) r:=by
 rw [show vD b=r7 (gv b (oJ b) 0) from rfl,Zs,aCH hv.m4]
end Go.Proofs.YtihapemckcdicaaGreatDoor
namespace Go.Proofs.YtihapemckcdicaaGreatDoor
open Go.Lg Go.Proofs
set_option maxRecDepth 10000
theorem aS2{α:Type}[Inhabited α]{l:List α}{i:Nat}(h:i < l.length):nth l.reverse i=nth l (l.length - 1 - i):=by
 have h1:=df (l:=l.reverse) (i:=i) (by simpa using h)
 rw [List.getElem?_reverse h,df (by omega)] at h1
 exact (Option.some.inj h1).symm
theorem aU3{α:Type}[Inhabited α]{l:List α}(hl:l.length≤1000):bC (O:=List α) (λ (s:(Int × List α))=>aa (decide (s.1 ≥ 0)) ((idx l s.1).bind λ x=>(eW s.2 [x]).bind λ y=>some (.inl (i64 (s.1 - 1),y))) (some (.inr s.2))) (i64 ((l.length:Int) - 1),[])=some l.reverse:=by
 have e0:(i64 ((l.length:Int) - 1),([]:List α))=(λ i:Nat=>((l.length:Int) - 1 - (i:Int),l.reverse.take i)) 0:=by
  rw [oq (by omega) (by omega)]
  simp
 rw [e0]
 refine CK (λ i:Nat=>((l.length:Int) - 1 - (i:Int),l.reverse.take i)) l.length (λ i hi=>?_) ?_
 ·have e:idx l ((l.length:Int) - 1 - (i:Int))=some (nth l (l.length - 1 - i)):=by
   rw [show (l.length:Int) - 1 - (i:Int)=((l.length - 1 - i:Nat):Int) by omega,fJ,df (by omega)]
  simp only [show decide ((l.length:Int) - 1 - (i:Int) ≥ 0)=true by simp; omega,cV,e,Option.bind_some]
  rw [Ho (by simp; omega),Option.bind_some,oq (by omega) (by omega),List.take_add_one,df (l:=l.reverse) (by simpa using hi),aS2 hi]
  congr 2
  ·congr 1
   omega
 ·simp only [show decide ((l.length:Int) - 1 - (l.length:Int) ≥ 0)=false by simp; omega,b8]
  rw [List.take_of_length_le (by simp)]
structure P7 (b c:ao):Prop where
 vb:Valid b
 vc:Valid c
 n:b.ax.length=c.ax.length
 D:b.av.length=c.av.length
 rL:∀ k,k < b.ax.length→nth c.ax k=nth b.ax (b.ax.length - 1 - k)
 PZ:∀ i,i < b.av.length→nth c.av i=nth b.av (b.av.length - 1 - i)
 rest:c.Rest=b.Rest
 rows:c.Rows=b.Rows
 case:gA c=gA b
theorem P7.symm{b c:ao}(h:P7 b c):P7 c b:=by
 refine ⟨h.vc,h.vb,h.n.symm,h.D.symm,λ k hk=>?_,λ i hi=>?_,h.rest.symm,h.rows.symm,h.case.symm⟩
 ·have hn:=h.n
  rw [h.rL _ (by omega)]
  congr 1
  omega
 ·have hD:=h.D
  rw [h.PZ _ (by omega)]
  congr 1
  omega
theorem P7.may{b c:ao}(h:P7 b c){w:List Int}{k i:Nat}(hk:k < b.ax.length)(hi:i < b.av.length):xh c w k i=xh b w (b.ax.length - 1 - k) (b.av.length - 1 - i):=by
 unfold xh xj
 rw [h.rL k hk,h.PZ i hi,h.rows]
theorem P7.aWa{b c:ao}(h:P7 b c){k i:Nat}(hk:k < b.ax.length)(hi:i < b.av.length):re c i k=re b (b.av.length - 1 - i) (b.ax.length - 1 - k):=by
 unfold re
 rw [h.case]
 congr 1
 funext w
 exact h.may hk hi
theorem P7.apart{b c:ao}(h:P7 b c){i j:Nat}(hi:i < b.av.length)(hj:j < b.av.length):sB c i j=sB b (b.av.length - 1 - i) (b.av.length - 1 - j):=by
 unfold sB LF
 rw [h.PZ i hi,h.PZ j hj,h.rest]
theorem P7.le{b c:ao}(h:P7 b c)(f g:Nat→Bool)(hfg:∀ i,i < b.av.length→f (b.av.length - 1 - i)=g i):ahJ ({ vI b with out:=f }:RB).Q5 ({ vI c with out:=g }:RB):=by
 have hD:=h.D
 refine ⟨Nat.le_of_eq h.n,h.D,λ i hi=>?_,λ i k hi hk e=>?_,λ i j hi hj e=>?_,λ i hi e=>?_,λ i hi e=>?_⟩
 ·have hi:i < b.av.length:=hi
  show (nth b.av (b.av.length - 1 - i)).ax.toNat=(nth c.av i).ax.toNat
  rw [h.PZ i hi]
 ·have hi:i < b.av.length:=hi
  have hk:k < b.ax.length:=hk
  have e:re b (b.av.length - 1 - i) (b.ax.length - 1 - k)=true:=e
  show re c i k=true
  rw [h.aWa hk hi]
  exact e
 ·have hi:i < b.av.length:=hi
  have e:sB b (b.av.length - 1 - i) (b.av.length - 1 - j)=true:=e
  show sB c j i=true
  rw [aSK,h.apart hi (by omega)]
  exact e
 ·have hi:i < b.av.length:=hi
  have e:f (b.av.length - 1 - i)=true:=e
  show g i=true
  rw [← hfg i hi]; exact e
 ·have hi:i < b.av.length:=hi
  have e:g i=true:=e
  show f (b.av.length - 1 - i)=true
  rw [hfg i hi]; exact e
theorem P7.aHx{b c:ao}(h:P7 b c){f g:Nat→Bool}(hfg:∀ i,i < b.av.length→f (b.av.length - 1 - i)=g i){r:List (List Int)}(hr:gi ({ vI b with out:=f }:RB) r):gi ({ vI c with out:=g }:RB) (xe b.ax.length b.av.length r):=gi.le (h.le f g hfg) hr.Q5
theorem P7.aVQ{b c:ao}(h:P7 b c){r:List (List Int)}(hr:r∈vD b):xe b.ax.length b.av.length r∈vD c :=
 (aFK h.vc).2 (h.aHx (f:=λ _=>false) (g:=λ _=>false) (λ _ _=>rfl) ((aFK h.vb).1 hr))
theorem P7.many{b c:ao}(h:P7 b c):(vD b).length≤(vD c).length :=
 ajj (xe b.ax.length b.av.length) (aGT _) (λ x hx y hy e=>by
  have h1:=aHq (n:=b.ax.length) (D:=b.av.length) (aGS hx).len
  have h2:=aHq (n:=b.ax.length) (D:=b.av.length) (aGS hy).len
  rw [← h1,e,h2]) λ _ hr=>h.aVQ hr
theorem P7.err{b c:ao}(h:P7 b c):nz c 0=nz b 0:=by rw [ag4 h.vb,ag4 h.vc,h.case]
theorem P7.aU2{b c:ao}(h:P7 b c)(r:List (List Int)):Av c (xe b.ax.length b.av.length r)=Av b r:=by
 unfold Av
 rw [← h.n,← h.D]
 exact aIL λ i hi=>by show (nth c.av i).gR=(nth b.av _).gR; rw [h.PZ i hi]
theorem P7.fair{b c:ao}(h:P7 b c){r:List (List Int)}{l:List (List (List Int))}(hb:vD b=r::l):∃ q m,vD c=q::m∧Av c (nK (Av c) q m)≤Av b (nK (Av b) r l):=by
 have hi:=aFQ (Av b) l r
 rw [← hb] at hi
 have hc:=h.aVQ hi
 cases he:vD c with
 | nil=>rw [he] at hc; cases hc
 | cons q m =>
  rw [he] at hc
  refine ⟨q,m,rfl,?_⟩
  rw [← h.aU2]
  exact aSL _ _ _ _ hc
theorem P7.drop{b c:ao}(h:P7 b c):(gS c.av.length (QM c) (2 ^ c.av.length)).1.length≤(gS b.av.length (QM b) (2 ^ b.av.length)).1.length:=by
 obtain ⟨x,hx,hP,e⟩:=(aGo h.vb).ex
 obtain ⟨y,hy,hyx⟩:=Z5 (λ i=>x.testBit (b.av.length - 1 - i)) b.av.length
 have hD:=h.D
 have:QM c y=true:=by
  rw [agL] at hP ⊢
  obtain ⟨r,hr⟩:=hP
  exact ⟨_,(ZI h.vc.m4).2 (h.aHx (f:=λ i=>x.testBit i) (g:=λ i=>y.testBit i) (λ i hi=>(hyx i hi).symm) ((ZI h.vb.m4).1 hr))⟩
 have hle:=(aGo h.vc).len (by rw [← hD]; exact hy) this
 rw [e]
 refine Nat.le_trans hle (Nat.le_of_eq ?_)
 rw [← hD]
 have em:cJ b.av.length y=tM b.av.length (cJ b.av.length x):=YP _ _ (Z4 _ _) (aiA (Z4 _ _)) λ k=>by
  rw [LB,aen,aen]
  constructor
  ·rintro ⟨h1,h2⟩
   rw [hyx _ (by omega)] at h2
   exact ⟨by omega,by rw [show ((b.av.length:Int) - 1 - k).toNat=b.av.length - 1 - k.toNat by omega]; exact h2⟩
  ·rintro ⟨h1,h2⟩
   refine ⟨by omega,?_⟩
   rw [hyx _ (by omega),show b.av.length - 1 - k.toNat=((b.av.length:Int) - 1 - k).toNat by omega]
   exact h2
 rw [em,aiB]
theorem P7.Zz{b c:ao}(h:P7 b c){x:Nat}(hP:Go.Proofs.YtihapemckcdicaaGreatDoor.Zz b x=true):∃ y,y < 2 ^ b.ax.length∧(cJ b.ax.length y).length=(cJ b.ax.length x).length∧Go.Proofs.YtihapemckcdicaaGreatDoor.Zz c y=true:=by
 have hn:=h.n
 obtain ⟨y,hy,ey⟩:=aBs (n:=b.ax.length) (aiA (n:=b.ax.length) (Z4 b.ax.length x)) (λ k hk=>by
  rw [LB] at hk
  have:=aGQ hk
  omega)
 refine ⟨y,hy,by rw [← ey,aiB],?_⟩
 show tL c (lW (cJ c.ax.length y)) 0=true
 have hP:tL b (lW (cJ b.ax.length x)) 0=true:=hP
 rw [agL] at hP ⊢
 obtain ⟨r,hr⟩:=hP
 rw [aIv h.vb.m4] at hr
 refine ⟨xe b.ax.length b.av.length r,(aIv h.vc.m4).2 ⟨h.aHx (f:=λ _=>false) (g:=λ _=>false) (λ _ _=>rfl) hr.1,?_⟩⟩
 rw [← hn,← ey]
 have hw:=hr.2
 unfold Ea at hw ⊢
 rw [List.all_eq_true] at hw ⊢
 intro d hd
 unfold xe at hd
 obtain ⟨i,hi,rfl⟩:=List.mem_map.1 hd
 rw [List.mem_range] at hi
 rw [List.all_eq_true]
 intro k hk
 rw [LB] at hk
 have:=hw _ (ko (l:=r) (i:=b.av.length - 1 - i) (by rw [hr.1.len]; show _ < b.av.length; omega))
 rw [List.all_eq_true] at this
 have:=this _ hk
 rw [List.contains_iff_mem] at this ⊢
 rw [LB]
 exact this
theorem P7.vB{b c:ao}(h:P7 b c)(hg:tL b (oJ b) 0=true):tL c (oJ c) 0=true∧(gS c.ax.length (Go.Proofs.YtihapemckcdicaaGreatDoor.Zz c) (2 ^ c.ax.length)).1.length≤(gS b.ax.length (Go.Proofs.YtihapemckcdicaaGreatDoor.Zz b) (2 ^ b.ax.length)).1.length:=by
 obtain ⟨x,hx,hP,e⟩:=(aTj hg).2.ex
 obtain ⟨y,hy,hl,hc⟩:=h.Zz hP
 have hgc:=goes_mono h.vc hc
 refine ⟨hgc,?_⟩
 have hn:=h.n
 have:=(aTj hgc).2.len (by rw [← hn]; exact hy) hc
 rw [e,← hl]
 rwa [← hn] at this ⊢
theorem P7.aGf{b c:ao}(h:P7 b c){k i:Nat}(hk:k < b.ax.length)(hi:i < b.av.length):Go.Proofs.YtihapemckcdicaaGreatDoor.aGf c ((b.ax.length - 1 - k:Nat):Int) ((b.av.length - 1 - i:Nat):Int)=Go.Proofs.YtihapemckcdicaaGreatDoor.aGf b (k:Int) (i:Int):=by
 have hn:=h.n
 have hD:=h.D
 unfold Go.Proofs.YtihapemckcdicaaGreatDoor.aGf
 rw [D5.2 h.vb,D5.2 h.vc,aOq.2 ⟨k,rfl,hk⟩,aGt.2 ⟨i,rfl,hi⟩,aOq.2 ⟨_,rfl,by omega⟩,aGt.2 ⟨_,rfl,by omega⟩,h.case]
 have e:(gA b).filter (λ w=>xh c w (b.ax.length - 1 - k) (b.av.length - 1 - i))=(gA b).filter λ w=>xh b w k i:=by
  congr 1
  funext w
  rw [h.may (by omega) (by omega)]
  congr 1 <;> omega
 simp only [Int.toNat_natCast,e]
theorem aZ6{b:ao}(hv:Valid b):P7 b (⟨b.Rest,b.Rows,b.aM,b.ax.reverse,b.av.reverse,b.ba.reverse⟩:ao):=by
 refine ⟨hv,⟨hv.rest,hv.r1,hv.r4,hv.row,hv.abO,hv.p1,hv.p3,hv.place,by simpa using hv.m1,by simpa using hv.m4,λ m hm=>hv.Y0 m (by simpa using hm),λ i hi=>?_,by simpa using hv.d1,by simpa using hv.d4,λ d hd=>hv.YU d (by simpa using hd),by simpa using hv.s3,λ s hs=>hv.sound s (by simpa using hs)⟩,by simp,by simp,λ k hk=>aS2 hk,λ i hi=>aS2 hi,rfl,rfl,?_⟩
 ·have hi:i < b.ax.length:=by simpa using hi
  rw [List.any_eq_false]
  intro p hp
  have hp:p∈b.ax.reverse.take i:=hp
  have hrl:b.ax.reverse.length=b.ax.length:=List.length_reverse
  obtain ⟨j,hj,hj2,rfl⟩:∃ j,j < i∧j < b.ax.reverse.length∧nth b.ax.reverse j=p:=by
   obtain ⟨j,hj,rfl⟩:=ss hp
   rw [List.length_take] at hj
   exact ⟨j,by omega,by omega,(qP (by omega)).symm⟩
  have hj3:j < b.ax.length:=by simpa using hj2
  show ¬ xl (nth b.ax.reverse i) (nth b.ax.reverse j)=true
  rw [aS2 hi,aS2 hj3]
  have:=aVk hv (i:=b.ax.length - 1 - i) (j:=b.ax.length - 1 - j) (by omega) (by omega)
  unfold xl at this ⊢
  rw [Bool.beq_comm] at this
  simpa using this
 ·unfold gA
  refine List.filter_congr λ c _=>?_
  unfold Br
  exact List.all_reverse
theorem aZH(b:ao)(x y:Int)(hx:0≤x∧x < 256)(hy:0≤y∧y < 256):m15 b x y=some true:=by
 unfold m15
 rw [aBe,aDa,Option.bind_some]
 cases hg:Bp b with
 | true=>rfl
 | false =>
 by_cases h1:lR b=0
 case neg =>
  have:(lR b == 0)=false:=by simpa using h1
  rw [this]
  rfl
 have hs:=ZT hg
 have hv:=D5.1 h1
 have hm1:=hv.m1
 have hm4:=hv.m4
 have hd1:=hv.d1
 have Y7:=hv.d4
 have hs3:=hv.s3
 simp only [h1,Bool.not_false,beq_self_eq_true,Bool.and_true,Bool.not_true,b8]
 rw [aU3 (l:=b.ax) (by omega),Option.bind_some,aU3 (l:=b.av) (by omega),Option.bind_some,aU3 (l:=b.ba) (by omega),Option.bind_some]
 have h:=aZ6 hv
 generalize (⟨b.Rest,b.Rows,b.aM,b.ax.reverse,b.av.reverse,b.ba.reverse⟩:ao)=c at h
 have ZB:=h.vc.sm
 rw [aVK hs,aVK ZB,aVs hv,aVs h.vc,h.case,ah0 hs,ah0 ZB,aIq hs,aIq ZB,aTy hs,aTy ZB,aGw hs,aGw ZB,aHt hx.1 hx.2 (by omega),aHt hy.1 hy.2 (by omega)]
 have hpk:x.toNat % b.ax.length < b.ax.length:=Nat.mod_lt _ (by omega)
 have tJ:y.toNat % b.av.length < b.av.length:=Nat.mod_lt _ (by omega)
 simp only [Option.bind_some]
 generalize x.toNat % b.ax.length=k at hpk ⊢
 generalize y.toNat % b.av.length=i at tJ ⊢
 have e1:i64 (i64 ((b.ax.length:Int) - 1) - (k:Int))=((b.ax.length - 1 - k:Nat):Int):=by rw [oq (z:=(b.ax.length:Int) - 1) (by omega) (by omega),oq (by omega) (by omega)]; omega
 have e2:i64 (i64 ((b.av.length:Int) - 1) - (i:Int))=((b.av.length - 1 - i:Nat):Int):=by rw [oq (z:=(b.av.length:Int) - 1) (by omega) (by omega),oq (by omega) (by omega)]; omega
 rw [aTx hs,aTx ZB,e1,e2,h.aGf hpk tJ]
 simp only [Option.bind_some,bne_self_eq_false,b8]
 have e3:QI c=QI b:=by
  unfold QI
  rw [h.err,Nat.le_antisymm h.symm.many h.many]
 have e4:(ajF c).2=(ajF b).2:=by
  unfold ajF
  rw [h.err]
  by_cases h0:nz b 0=0
  ·rw [h0]
   simp only [ne_eq,not_true_eq_false,if_false]
   cases hb:vD b with
   | nil =>
    have:=h.symm.many
    rw [hb] at this
    rw [List.length_eq_zero_iff.1 (Nat.le_zero.1 this)]
   | cons r l =>
    obtain ⟨q,m,hc,hle⟩:=h.fair hb
    obtain ⟨r',l',gh,a2i⟩:=h.symm.fair hc
    rw [hb] at gh
    cases gh
    rw [hc]
    simp only [Prod.mk.injEq,and_true]
    omega
  ·rw [if_pos h0,if_pos h0]
 have e5:(aFt c).1.length=(aFt b).1.length∧(aFt c).2.2=(aFt b).2.2:=by
  unfold aFt
  rw [h.err]
  by_cases h0:nz b 0=0
  ·rw [h0]
   simp only [ne_eq,not_true_eq_false,if_false,and_true]
   cases hgo:tL b (oJ b) 0 with
   | false =>
    have hgc:tL c (oJ c) 0=false:=by
     cases hgc:tL c (oJ c) 0 with
     | false=>rfl
     | true=>rw [(h.symm.vB hgc).1] at hgo; cases hgo
    rw [show gS b.ax.length (λ a=>tL b (lW (cJ b.ax.length a)) 0) (2 ^ b.ax.length)=([],false) from aTi hv hgo,show gS c.ax.length (λ a=>tL c (lW (cJ c.ax.length a)) 0) (2 ^ c.ax.length)=([],false) from aTi h.vc hgc]
   | true =>
    have a1:=(h.vB hgo).2
    have a2:=(h.symm.vB (h.vB hgo).1).2
    exact Nat.le_antisymm a1 a2
  ·rw [if_pos h0,if_pos h0]
   exact ⟨rfl,rfl⟩
 have e6:(abZ c).1.length=(abZ b).1.length∧(abZ c).2=(abZ b).2:=by
  unfold abZ
  rw [h.err]
  by_cases h0:nz b 0=0
  ·rw [h0]
   simp only [ne_eq,not_true_eq_false,if_false,and_true]
   exact Nat.le_antisymm h.drop h.symm.drop
  ·rw [if_pos h0,if_pos h0]
   exact ⟨rfl,rfl⟩
 rw [e3,e4,e5.1,e5.2,e6.1,e6.2]
 simp only [bne_self_eq_false,b8,beq_self_eq_true,Bool.not_true,Option.bind_some,cV]
end Go.Proofs.YtihapemckcdicaaGreatDoor
