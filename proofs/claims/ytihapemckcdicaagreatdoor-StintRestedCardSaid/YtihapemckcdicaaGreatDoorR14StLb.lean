/- Plain laws of chapter 5, the rest. Conditions: none. -/
import Derived.Test.YtihapemckcdicaaGreatDoorR14StL
import Derived.Test.YtihapemckcdicaaGreatDoorQEStP
import Derived.Test.YtihapemckcdicaaGreatDoorQEStC
namespace Go.Proofs.YtihapemckcdicaaGreatDoor
open Go.Lg Go.Proofs
set_option maxRecDepth 10000
def lW(c:List Int):List Bool:=(List.range 4).map λ (k:Nat)=>c.contains (k:Int)
def fK(r:List (List Int)):List Bool:=(List.range 16).map λ p=>(nth r (p / 4)).contains ((p % 4:Nat):Int)
theorem Rd(r:List (List Int)):(fK r).length=16:=by simp [fK]
theorem Zi(r:List (List Int)){p:Nat}(hp:p < 16):(fK r)[p]? = some ((nth r (p / 4)).contains ((p % 4:Nat):Int)):=by
 unfold fK
 rw [List.getElem?_map,List.getElem?_range hp]
 rfl
theorem D1(c:List Int){k:Nat}(hk:k < 4):idx (lW c) (k:Int)=some (c.contains (k:Int)):=by
 unfold lW
 rw [fJ,List.getElem?_map,List.getElem?_range hk]
 rfl
theorem LC(r:List (List Int)){i:Nat}(hi:i < 4):gI 4 (fK r) (i:Int)=some (lW (nth r i)):=by
 match i,hi with
 | 0,_=>rfl
 | 1,_=>rfl
 | 2,_=>rfl
 | 3,_=>rfl
theorem aGj{r r':List (List Int)}(h:∀ i k:Nat,i < 4→k < 4→(nth r i).contains (k:Int)=(nth r' i).contains (k:Int)):fK r=fK r':=by
 unfold fK
 refine List.map_congr_left λ p hp=>?_
 rw [List.mem_range] at hp
 exact h (p / 4) (p % 4) (by omega) (by omega)
theorem ahF{r r':List (List Int)}{i k:Nat}(_:i < 4)(hk:k < 4){x:Bool}(h:∀ j m:Nat,j < 4→m < 4→(nth r' j).contains (m:Int)=if j=i∧m=k then x else (nth r j).contains (m:Int)):lM 4 (fK r) (i:Int) (k:Int) x=fK r':=by
 unfold lM
 rw [Int.toNat_natCast,Int.toNat_natCast]
 refine List.ext_getElem? λ p=>?_
 by_cases hp:p < 16
 ·rw [List.getElem?_set,Zi r' hp,Zi r hp,Rd,h (p / 4) (p % 4) (by omega) (by omega)]
  by_cases e:i * 4+k=p
  ·rw [if_pos e,if_pos (by omega),if_pos ⟨by omega,by omega⟩]
  ·rw [if_neg e,if_neg (λ hc=>e (by omega))]
 ·rw [List.getElem?_eq_none (by rw [List.length_set,Rd]; omega),List.getElem?_eq_none (by rw [Rd]; omega)]
theorem ahE(p:List (List Int)):fK (p++[[]])=fK p:=aGj λ i k _ _=>by
 by_cases h:i < p.length
 ·rw [zc h]
 ·have e1:nth p i=[]:=by unfold nth; rw [List.getD_eq_getElem?_getD,List.getElem?_eq_none (by omega)]; rfl
  have e2:nth (p++[[]]) i=[]:=by
   by_cases h2:i=p.length
   ·subst h2; exact zn
   ·unfold nth; rw [List.getD_eq_getElem?_getD,List.getElem?_eq_none (by simp; omega)]; rfl
  rw [e1,e2]
def xh(b:ao)(c:List Int)(k i:Nat):Bool:=decide (nth c (nth b.av i).Place.toNat≤(nth b.ax k).mg) && decide ((nth b.av i).gR≤xj b (nth c (nth b.av i).Place.toNat))
theorem ahZ{b:ao}(hv:Valid b){c:List Int}(hc:c.length=b.aM.length){k i:Nat}(hk:k < b.ax.length)(hi:i < b.av.length):yq b (oK c) (k:Int) (i:Int)=some (xh b c k i):=by
 have hp:=(hv.dv hi).place
 unfold yq xh
 have e:idx (oK c).deep (nth b.av i).Place=some (nth c (nth b.av i).Place.toNat):=by
  have:=aE4 hv hc (i:=(nth b.av i).Place.toNat) (by omega)
  rwa [Int.toNat_of_nonneg hp.1] at this
 simp only [fJ,df hi,df hk,Option.bind_some,e,ajk (show b.Rows.length≤20 by have:=hv.r4; omega)]
 cases decide (nth c (nth b.av i).Place.toNat≤(nth b.ax k).mg) <;> rfl
def re(b:ao)(i k:Nat):Bool:=(gA b).all λ c=>xh b c k i
def sj(b:ao):List Bool:=(List.range 16).map λ p=>if p / 4 < b.av.length∧p % 4 < b.ax.length then re b (p / 4) (p % 4) else false
theorem aF8{b:ao}(hv:Valid b){i k:Nat}(hi:i < b.av.length)(hk:k < b.ax.length):qR (jQ b) i k=some (re b i k):=by
 unfold qR
 rw [ahY hv (p:=λ c=>xh b c k i) (λ c hc=>by unfold zb; rw [show (jQ b).book=b from rfl,ahZ hv (ah3.1 hc).1.1 hk hi]; rfl),Option.bind_some]
 congr 1
 rw [show ((jQ b).fi.length:Int)=((gA b).length:Int) by simp [jQ],Bool.eq_iff_iff,beq_iff_eq]
 unfold re
 rw [List.all_eq_true]
 constructor
 ·intro h
  have h:((gA b).filter λ c=>xh b c k i).length=(gA b).length:=by omega
  rw [List.length_filter_eq_length_iff] at h
  exact h
 ·intro h
  have:((gA b).filter λ c=>xh b c k i).length=(gA b).length:=List.length_filter_eq_length_iff.2 h
  omega
theorem mapM_some{α β:Type}{f:α→Option β}{g:α→β}:∀ {l:List α},(∀ x∈l,f x=some (g x))→l.mapM f=some (l.map g)
 | [],_=>rfl
 | a::l,h=>by
  rw [List.mapM_cons,h a (by simp),mapM_some λ x hx=>h x (by simp [hx])]
  rfl
theorem Z1{b:ao}(hv:Valid b):tB (jQ b)=some (sj b):=by
 unfold tB sj
 rw [show (jQ b).book=b from rfl,if_pos ⟨⟨hv.d1,hv.d4⟩,hv.m1,hv.m4⟩]
 refine mapM_some λ p _=>?_
 by_cases h:p / 4 < b.av.length∧p % 4 < b.ax.length
 ·rw [if_pos h,if_pos h,aF8 hv h.1 h.2]
 ·rw [if_neg h,if_neg h]
theorem aFO{b:ao}{i:Nat}(hi:i < 4):∃ g,gI 4 (sj b) (i:Int)=some g∧∀ k:Nat,k < 4→idx g (k:Int)=some (if i < b.av.length∧k < b.ax.length then re b i k else false):=by
 have e:gI 4 (sj b) (i:Int)=some ((List.range 4).map λ k=>if i < b.av.length∧k < b.ax.length then re b i k else false):=by
  match i,hi with
  | 0,_=>rfl
  | 1,_=>rfl
  | 2,_=>rfl
  | 3,_=>rfl
 refine ⟨_,e,λ k hk=>?_⟩
 rw [fJ,List.getElem?_map,List.getElem?_range hk]
 rfl
def gv(b:ao)(g:List Bool)(o:Nat):RB:=⟨b.ax.length,b.av.length,λ i=>(nth b.av i).ax.toNat,λ i k=>nth g k && re b i k,sB b,λ i=>o.testBit i⟩
set_option maxRecDepth 1000000 in
theorem aFS:((List.range 16).all λ x=>(List.range 5).all λ i=>((kU .i64 x i).bind λ y=>fH .and .i64 y 1) == some (if x.testBit i then 1 else 0))=true:=by decide +kernel
theorem aFR{x i:Nat}(h:x < 16)(hi:i < 5):(kU .i64 (x:Int) (i:Int)).bind (λ y=>fH .and .i64 y 1)=some (if x.testBit i then 1 else 0):=by
 have:=aFS
 simp only [List.all_eq_true,List.mem_range,beq_iff_eq] at this
 exact this x h i hi
theorem aGb{b:ao}(hv:Valid b){pre:List (List Int)}{c:List Int}(hi:pre.length < b.av.length)(hc:∀ k∈c,0≤k∧k < (b.ax.length:Int))(g:List Bool)(o:Nat):xp b (fK (pre++[c])) (pre.length:Int)=some (Bi (gv b g o) pre pre.length c):=by
 have hd:=hv.d4
 have hm:=hv.m4
 unfold xp Bi
 rw [LP (n:=pre.length) (λ j=>(gv b g o).ap j pre.length || !meet c (nth pre j)) false (λ j hj=>?_) (by simp only [ja,b8])]
 ·cases (List.range pre.length).all λ j=>(gv b g o).ap j pre.length || !meet c (nth pre j) <;> rfl
 ·simp only [dec_lt hj,cV,ajl hv (show j < b.av.length by omega) hi,Option.bind_some,show (gv b g o).ap j pre.length=sB b j pre.length from rfl]
  cases sB b j pre.length with
  | true=>simp only [cV,Bool.true_or,if_true,fY (i:=j) (by omega)]
  | false =>
   simp only [b8,Bool.false_or]
   rw [LP (n:=b.ax.length) (λ k=>!((nth pre j).contains (k:Int) && c.contains (k:Int))) false (λ k hk=>?_) (by simp only [ja,b8])]
   ·have e:((List.range b.ax.length).all λ k=>!((nth pre j).contains (k:Int) && c.contains (k:Int)))=!meet c (nth pre j):=by
     rw [Bool.eq_iff_iff,Bool.not_eq_true',Ei,List.all_eq_true]
     constructor
     ·intro h k hk hk2
      have hb:=hc k hk
      have:=h k.toNat (by rw [List.mem_range]; omega)
      rw [Int.toNat_of_nonneg hb.1] at this
      simp [hk,hk2] at this
     ·intro h k _
      rw [Bool.not_eq_true',Bool.and_eq_false_iff]
      by_cases hk:(k:Int)∈c
      ·exact .inl (by have:=h _ hk; simpa using this)
      ·exact .inr (by simpa using hk)
    rw [e]
    cases meet c (nth pre j) with
    | true=>rfl
    | false=>simp only [Bool.not_false,if_true,Option.bind_some,Sum.elim_inl,fY (i:=j) (by omega)]
   ·simp only [dec_lt hk,cV,LC _ (show j < 4 by omega),LC _ (show pre.length < 4 by omega),Option.bind_some,D1 _ (show k < 4 by omega),zc hj,zn,fY (i:=k) (by omega)]
    cases (nth pre j).contains (k:Int) <;> cases c.contains (k:Int) <;> rfl
theorem aGi{β:Type}(n k0:Nat)(h:k0≤n)(p:Nat→Bool)(f:Nat→List β):((List.range n).filter λ m=>p m && decide (k0≤m)).flatMap f=(List.range (n - k0)).flatMap λ j=>if p (k0+j)=true then f (k0+j) else []:=by
 obtain ⟨d,rfl⟩:∃ d,n=k0+d:=⟨n - k0,by omega⟩
 rw [List.range_add,List.filter_append,List.flatMap_append]
 have e1:((List.range k0).filter λ m=>p m && decide (k0≤m))=[]:=by
  rw [List.filter_eq_nil_iff]
  intro m hm
  rw [List.mem_range] at hm
  simp only [Bool.and_eq_true,decide_eq_true_eq,not_and]
  omega
 rw [e1,List.flatMap_nil,List.nil_append,Nat.add_sub_cancel_left,List.filter_map,List.flatMap_map,← aFw]
 rw [List.flatMap_assoc]
 congr 1
 funext j
 simp only [Function.comp_apply,Nat.le_add_right,decide_true,Bool.and_true]
 cases p (k0+j) <;> simp
def DZ(c:List Int)(k0:Nat):Prop:=∀ m:Nat,(c.all λ x=>decide (x < (m:Int)))=decide (k0≤m)
theorem aFX:DZ [] 0:=λ m=>by simp
theorem DZ.snoc{c:List Int}{k0 k:Nat}(h:DZ c k0)(hk:k0≤k):DZ (c++[(k:Int)]) (k+1):=λ m=>by
 rw [List.all_append,h m,Bool.eq_iff_iff]
 simp only [List.all_cons,List.all_nil,Bool.and_true,Bool.and_eq_true,decide_eq_true_eq]
 omega
abbrev aFT(A:RB)(i:Nat):Nat→List Int→List Int:=λ _ p=>G0 A.n (A.ok i) p
theorem aFU{A:RB}{i:Nat}{c:List Int}{k0:Nat}(hf:DZ c k0)(h:k0≤A.n){β:Type}(f:Int→List β):(G0 A.n (A.ok i) c).flatMap f=(List.range (A.n - k0)).flatMap λ j=>if A.ok i (k0+j)=true then f ((k0+j:Nat):Int) else []:=by
 unfold G0 ny
 rw [List.filter_map,List.flatMap_map,← aGi A.n k0 h (A.ok i) λ m=>f (m:Int)]
 congr 1
 refine List.filter_congr λ m _=>?_
 simp only [Function.comp_apply,Int.toNat_natCast,hf m]
def zt(A:RB)(d:Nat)(pre:List (List Int))(left:Nat)(c:List Int):List (List Bool) :=
 (((tree (aFT A pre.length) left c.length c).filter (Bi A pre pre.length)).flatMap λ c'=>tree (sw A) d (pre.length+1) (pre++[c'])).map fK
def uj(A:RB)(d:Nat)(pre:List (List Int)):List (List Bool):=(tree (sw A) d pre.length pre).map fK
theorem aFZ{A:RB}{d:Nat}{pre:List (List Int)}(h:A.out pre.length=true):uj A (d+1) pre=uj A d (pre++[[]]):=by
 unfold uj
 simp only [tree,sw,h,if_true,List.flatMap_cons,List.flatMap_nil,List.append_nil,List.length_append,List.length_cons,List.length_nil]
theorem aFY{A:RB}{d:Nat}{pre:List (List Int)}(h:A.out pre.length=false):uj A (d+1) pre=zt A d pre (A.need pre.length) []:=by
 unfold uj zt
 simp only [tree,sw,h,Bool.false_eq_true,if_false,List.length_nil]
 rw [Y2]
 rfl
theorem aGg{A:RB}{d:Nat}{pre:List (List Int)}{c:List Int}:zt A d pre 0 c=if Bi A pre pre.length c=true then uj A d (pre++[c]) else []:=by
 unfold zt uj
 simp only [tree,List.filter_cons,List.filter_nil,List.length_append,List.length_cons,List.length_nil]
 split <;> simp
theorem aGh{A:RB}{d:Nat}{pre:List (List Int)}{c:List Int}{left k0:Nat}(hf:DZ c k0)(h:k0≤A.n):zt A d pre (left+1) c=(List.range (A.n - k0)).flatMap λ j=>if A.ok pre.length (k0+j)=true then zt A d pre left (c++[((k0+j:Nat):Int)]) else []:=by
 unfold zt
 simp only [tree]
 rw [aFU (A:=A) (i:=pre.length) hf h]
 simp only [List.filter_flatMap,List.flatMap_assoc,List.map_flatMap]
 congr 1
 funext j
 split <;> simp
theorem aGd{b:ao}(hv:Valid b){g:List Bool}(hg:g.length=4){o:Nat}(ho:o < 16){S:Type}(ys:List Bool→S→Option (S × Bool)):∀ d:Nat,
  (∀ (pre:List (List Int)) (f:Nat) (s:S) (r:S × Bool),pre.length+d=b.av.length→5 * d < f→kQ ys (uj (gv b g o) d pre) s=some r→(kT ys f).1 (fK pre) (pre.length:Int) (jQ b) (o:Int) g (sj b) s=some r) ∧
  (∀ (left:Nat) (pre:List (List Int)) (c:List Int) (k0 f:Nat) (s:S) (r:S × Bool),pre.length+d+1=b.av.length→5 * d+left+1 < f→DZ c k0→k0≤b.ax.length→(∀ k∈c,0≤k∧k < (b.ax.length:Int))→left≤3→kQ ys (zt (gv b g o) d pre left c) s=some r →
   (kT ys f).2 (fK (pre++[c])) (pre.length:Int) (k0:Int) (left:Int) (jQ b) (o:Int) g (sj b) s=some r):=by
 have hd:=hv.d4
 have hm:=hv.m4
 have two:∀ d:Nat,(∀ (pre:List (List Int)) (f:Nat) (s:S) (r:S × Bool),pre.length+d=b.av.length→5 * d < f→kQ ys (uj (gv b g o) d pre) s=some r→(kT ys f).1 (fK pre) (pre.length:Int) (jQ b) (o:Int) g (sj b) s=some r) →
   (∀ (left:Nat) (pre:List (List Int)) (c:List Int) (k0 f:Nat) (s:S) (r:S × Bool),pre.length+d+1=b.av.length→5 * d+left+1 < f→DZ c k0→k0≤b.ax.length→(∀ k∈c,0≤k∧k < (b.ax.length:Int))→left≤3→kQ ys (zt (gv b g o) d pre left c) s=some r →
   (kT ys f).2 (fK (pre++[c])) (pre.length:Int) (k0:Int) (left:Int) (jQ b) (o:Int) g (sj b) s=some r):=by
  intro d one left
  induction left with
  | zero =>
   intro pre c k0 f s r hl hf sf Lw hc _ hr
   obtain ⟨f,rfl⟩:∃ f',f=f'+1:=⟨f - 1,by omega⟩
   unfold kT
   simp only [Int.natCast_zero,beq_self_eq_true,cV]
   rw [show (jQ b).book=b from rfl,aGb hv (by omega) hc g o,Option.bind_some]
   rw [aGg] at hr
   cases ahg:Bi (gv b g o) pre pre.length c with
   | false =>
    rw [ahg] at hr
    simp only [Bool.false_eq_true,if_false,kQ,Option.some.injEq] at hr
    subst hr
    rfl
   | true =>
    rw [ahg,if_pos rfl] at hr
    have:=one (pre++[c]) f s r (by simp; omega) (by omega) hr
    rw [show (((pre++[c]).length:Nat):Int)=((pre.length+1:Nat):Int) by simp] at this
    simp only [Bool.not_true,b8,fY (i:=pre.length) (by omega),this,Option.bind_some]
  | succ left ih =>
   intro pre c k0 f s r hl hf sf Lw hc h3 hr
   obtain ⟨f,rfl⟩:∃ f',f=f'+1:=⟨f - 1,by omega⟩
   unfold kT
   simp only [show (((left+1:Nat):Int) == 0)=false by simp; omega,b8,show (jQ b).book=b from rfl]
   rw [aGh (A:=gv b g o) sf Lw,List.range_eq_range'] at hr
   obtain ⟨gr,hgr,hgk⟩:=aFO (b:=b) (i:=pre.length) (by omega)
   refine Exists.elim (YK (ys:=ys) (S:=S) (X:=Int × List Bool) (O:=S ⊕ (S × Bool)) (λ j=>if (gv b g o).ok pre.length (k0+j)=true then zt (gv b g o) d pre left (c++[((k0+j:Nat):Int)]) else []) ((gv b g o).n - k0)
    (λ j x=>x=(((k0+j:Nat):Int),fK (pre++[c]))) (λ s o=>o = .inl s) (λ s o=>o = .inr (s,false)) (body:=λ (bF:(S × Int × (List Bool))) =>
  aa (decide (bF.2.1 < (b.ax.length:Int)))
  (((((idx g bF.2.1).bind λ zi =>
  aa (!zi)
  (some true)
  ((gI 4 (sj b) (pre.length:Int)).bind λ tF =>
  (idx tF bF.2.1).bind λ zj =>
  some (!zj))):Option Bool)).bind (λ (A8:Bool) =>
  aa A8
  (some (.inl (bF.1,i64 (bF.2.1+1),bF.2.2)))
  ((gI 4 bF.2.2 (pre.length:Int)).bind λ GZ =>
  (idx GZ bF.2.1).bind λ gZ =>
  ((kT ys f).2 (lM 4 bF.2.2 (pre.length:Int) bF.2.1 true) (pre.length:Int) (i64 (bF.2.1+1)) (i64 (((left+1:Nat):Int) - 1)) (jQ b) (o:Int) g (sj b) bF.1).bind λ lQ =>
  aa (!lQ.2)
  (some (.inr (.inr (lQ.1,false))))
  ((gI 4 (lM 4 bF.2.2 (pre.length:Int) bF.2.1 true) (pre.length:Int)).bind λ vE =>
  (idx vE bF.2.1).bind λ YM =>
  some (.inl (lQ.1,i64 (bF.2.1+1),lM 4 (lM 4 bF.2.2 (pre.length:Int) bF.2.1 true) (pre.length:Int) bF.2.1 false))))))
  (some (.inr (.inl bF.1)))) (λ j s x r hj hI hr=>?_) (λ s x hI=>?_) ((gv b g o).n - k0) 0 s ((k0:Int),fK (pre++[c])) r (by omega) rfl hr) ?_
   ·subst hI
    have iO:k0+j < b.ax.length:=by have:(gv b g o).n=b.ax.length:=rfl; omega
    have YW:idx g ((k0+j:Nat):Int)=some (nth g (k0+j)):=by rw [fJ]; exact df (by omega)
    have hai:=hgk (k0+j) (by omega)
    rw [if_pos ⟨by omega,iO⟩] at hai
    have gJ:(gv b g o).ok pre.length (k0+j)=(nth g (k0+j) && re b pre.length (k0+j)):=rfl
    simp only [dec_lt iO,cV,YW,Option.bind_some,hgr,hai,fY (i:=k0+j) (by omega)]
    cases GM:(nth g (k0+j) && re b pre.length (k0+j)) with
    | false =>
     rw [gJ,GM] at hr
     simp only [Bool.false_eq_true,if_false,kQ,Option.some.injEq] at hr
     subst hr
     simp only [if_true]
     refine ⟨_,?_,rfl⟩
     rw [Bool.and_eq_false_iff] at GM
     rcases GM with h | h
     ·rw [h]; rfl
     ·rw [h]
      cases nth g (k0+j) <;> rfl
    | true =>
     rw [gJ,GM,if_pos rfl] at hr
     rw [Bool.and_eq_true] at GM
     have hnc:¬ ((k0+j:Nat):Int)∈c:=λ mE=>by
      have:=sf (k0+j)
      rw [decide_eq_true (by omega:k0≤k0+j),List.all_eq_true] at this
      have:=this _ mE
      simp at this
     have cont:∀ j' m:Nat,(nth (pre++[c++[((k0+j:Nat):Int)]]) j').contains (m:Int)=if j'=pre.length∧m=k0+j then true else (nth (pre++[c]) j').contains (m:Int):=by
      intro j' m
      by_cases e:j'=pre.length
      ·subst e
       rw [zn,zn]
       by_cases em:m=k0+j
       ·rw [if_pos ⟨rfl,em⟩,em]; simp
       ·rw [if_neg (λ h=>em h.2),Bool.eq_iff_iff,List.contains_iff_mem,List.contains_iff_mem,List.mem_append,List.mem_singleton]
        exact ⟨λ h=>h.resolve_right (by omega),.inl⟩
      ·rw [if_neg (λ h=>e h.1)]
       by_cases e2:j' < pre.length
       ·rw [zc e2,zc e2]
       ·have q:∀ z:List Int,nth (pre++[z]) j'=[]:=λ z=>by unfold nth; rw [List.getD_eq_getElem?_getD,List.getElem?_eq_none (by simp; omega)]; rfl
        rw [q,q]
     have s1:lM 4 (fK (pre++[c])) (pre.length:Int) ((k0+j:Nat):Int) true=fK (pre++[c++[((k0+j:Nat):Int)]]):=ahF (by omega) (by omega) λ j' m _ _=>cont j' m
     have s2:lM 4 (fK (pre++[c++[((k0+j:Nat):Int)]])) (pre.length:Int) ((k0+j:Nat):Int) false=fK (pre++[c]):=ahF (by omega) (by omega) λ j' m _ _=>by
      rw [cont j' m]
      by_cases e:j'=pre.length∧m=k0+j
      ·rw [if_pos e,e.1,e.2,zn]
       simpa using hnc
      ·rw [if_neg e,if_neg e]
     have aF4:=ih pre (c++[((k0+j:Nat):Int)]) (k0+j+1) f s r hl (by omega) (sf.snoc (by omega)) (by omega) (λ k hk=>by
      rw [List.mem_append,List.mem_singleton] at hk
      rcases hk with hk | rfl
      ·exact hc k hk
      ·omega) (by omega) hr
     simp only [GM.1,GM.2,Bool.not_true,b8,Option.bind_some,LC _ (show pre.length < 4 by omega),D1 _ (show k0+j < 4 by omega),s1,Qx (i:=left+1) (by omega) (by omega),Nat.add_sub_cancel,aF4,s2]
     cases hr2:r.2 with
     | true=>exact ⟨(((k0+(j+1):Nat):Int),fK (pre++[c])),by simp only [Bool.not_true,b8,Nat.add_assoc],rfl⟩
     | false=>exact ⟨.inr (r.1,false),by simp only [Bool.not_false,cV],rfl⟩
   ·subst hI
    refine ⟨.inl s,?_,rfl⟩
    rw [show k0+((gv b g o).n - k0)=b.ax.length from by have:(gv b g o).n=b.ax.length:=rfl; omega]
    simp only [ja,b8]
   ·rintro q ⟨hq,eR⟩
    have YX:=hq
    refine (xg YX).trans ?_
    split at eR
    ·rename_i h2; subst eR
     obtain ⟨r1,r2⟩:=r
     simp only at h2
     subst h2
     rfl
    ·rename_i h2; subst eR
     obtain ⟨r1,r2⟩:=r
     simp only [Bool.not_eq_true] at h2
     subst h2
     rfl
 intro d
 induction d with
 | zero =>
  have one:∀ (pre:List (List Int)) (f:Nat) (s:S) (r:S × Bool),pre.length+0=b.av.length→5 * 0 < f→kQ ys (uj (gv b g o) 0 pre) s=some r→(kT ys f).1 (fK pre) (pre.length:Int) (jQ b) (o:Int) g (sj b) s=some r:=by
   intro pre f s r hl hf hr
   obtain ⟨f,rfl⟩:∃ f',f=f'+1:=⟨f - 1,by omega⟩
   simp only [uj,tree,List.map_cons,List.map_nil,kQ] at hr
   obtain ⟨q,hq,hr⟩:=aj hr
   unfold kT
   simp only
   rw [show (jQ b).book=b from rfl,show ((pre.length:Int) == (b.av.length:Int))=true by simp; omega,cV,hq,Option.bind_some]
   obtain ⟨q1,q2⟩:=q
   cases q2 <;> simpa using hr
  exact ⟨one,two 0 one⟩
 | succ d ih =>
  have one:∀ (pre:List (List Int)) (f:Nat) (s:S) (r:S × Bool),pre.length+(d+1)=b.av.length→5 * (d+1) < f→kQ ys (uj (gv b g o) (d+1) pre) s=some r→(kT ys f).1 (fK pre) (pre.length:Int) (jQ b) (o:Int) g (sj b) s=some r:=by
   intro pre f s r hl hf hr
   obtain ⟨f,rfl⟩:∃ f',f=f'+1:=⟨f - 1,by omega⟩
   have hi:pre.length < b.av.length:=by omega
   have hb:=aFR (x:=o) (i:=pre.length) ho (by omega)
   obtain ⟨y,hy,hb⟩:=aj hb
   unfold kT
   simp only
   rw [show (jQ b).book=b from rfl,show ((pre.length:Int) == (b.av.length:Int))=false by simp; omega,b8,hy,Option.bind_some,hb,Option.bind_some]
   cases rZ:o.testBit pre.length with
   | true =>
    rw [aFZ (A:=gv b g o) rZ] at hr
    have:=ih.1 (pre++[[]]) f s r (by simp; omega) (by omega) hr
    rw [ahE,show (pre++[([]:List Int)]).length=pre.length+1 by simp] at this
    simp only [if_true,beq_self_eq_true,cV,fY (i:=pre.length) (by omega),this,Option.bind_some]
   | false =>
    rw [aFY (A:=gv b g o) rZ] at hr
    have atd:=(hv.dv hi).rL
    have:=ih.2 (nth b.av pre.length).ax.toNat pre [] 0 f s r (by omega) (by omega) aFX (by omega) (by simp) (by omega) hr
    rw [ahE,Int.toNat_of_nonneg (by omega)] at this
    simp only [Bool.false_eq_true,if_false,show ((0:Int) == 1)=false from rfl,b8,fJ,df hi,Option.bind_some]
    rw [show ((0:Nat):Int)=0 from rfl] at this
    rw [this]
    rfl
  exact ⟨one,two (d+1) one⟩
end Go.Proofs.YtihapemckcdicaaGreatDoor
namespace Go.Proofs.YtihapemckcdicaaGreatDoor
open Go.Lg Go.Proofs
set_option maxRecDepth 10000
theorem aFV{n need:Nat}{ok:Nat→Bool}(hn:n≤4):(A6 n need ok).length≤16:=by
 have h:=ajj (l:=A6 n need ok) (m:=(List.range (2 ^ n)).map (cJ n)) id (agS Re (agJ n need ok)) (λ x _ y _ h=>h) (λ c hc=>by
  have h1:=qX.1 hc
  obtain ⟨a,ha,e⟩:=aBs h1.2.1 (λ k hk=>⟨(h1.2.2 k hk).1,(h1.2.2 k hk).2.1⟩)
  exact List.mem_map.2 ⟨a,List.mem_range.2 ha,e.symm⟩)
 rw [List.length_map,List.length_range] at h
 exact Nat.le_trans h (Z6 (by omega))
theorem ahC{α:Type}{ext:Nat→List α→List α}{m:Nat}(h:∀ i p,(ext i p).length≤m):∀ n,(lvl ext n).length≤m ^ n
 | 0=>by simp [lvl]
 | n+1=>by
  have ih:=ahC h n
  simp only [lvl]
  refine Nat.le_trans (YH _ m (λ a=>by rw [List.length_map]; exact h _ _) _) ?_
  rw [Nat.pow_succ]
  exact Nat.mul_le_mul_right m ih
theorem aGk{A:RB}(hn:A.n≤4)(hd:A.D≤4):(r7 A).length≤65536:=by
 refine Nat.le_trans (ahC (m:=16) (λ i p=>?_) A.D) ?_
 ·unfold sw
  split
  ·simp
  ·exact Nat.le_trans (List.length_filter_le _ _) (aFV hn)
 ·calc 16 ^ A.D≤16 ^ 4:=Nat.pow_le_pow_right (by omega) hd
   _=65536:=by decide
theorem YL{b:ao}(hv:Valid b){g:List Bool}(hg:g.length=4){o:Nat}(ho:o < 16){S:Type}(ys:List Bool→S→Option (S × Bool)){s:S}{r:S × Bool}(hr:kQ ys ((r7 (gv b g o)).map fK) s=some r) :
  qk ys (jQ b) (o:Int) g (sj b) s=some r.1:=by
 unfold qk
 have h:=(aGd hv hg ho ys b.av.length).1 [] 40 s r (by simp) (by have:=hv.d4; omega) (by
  unfold uj
  rw [List.length_nil,show tree (sw (gv b g o)) b.av.length 0 []=r7 (gv b g o) from Y2 _ _]
  exact hr)
 have e:fK []=[false,false,false,false,false,false,false,false,false,false,false,false,false,false,false,false]:=rfl
 rw [List.length_nil,Int.natCast_zero,e] at h
 rw [h]
 rfl
def oJ(b:ao):List Bool:=lW (ny b.ax.length)
theorem Zw(b:ao):(oJ b).length=4:=by simp [oJ,lW]
theorem LG(c:List Int):(lW c).length=4:=by simp [lW]
theorem apS(c:List Int){k:Nat}(hk:k < 4):nth (lW c) k=c.contains (k:Int):=by
 have h:=D1 c hk
 rw [fJ] at h
 rw [df (by rw [LG]; exact hk)] at h
 exact Option.some.inj h
theorem ahP{c:List Int}{k:Nat}(hk:k < 4):(lW c).set k true=lW (c++[(k:Int)]):=by
 refine List.ext_getElem? λ p=>?_
 by_cases hp:p < 4
 ·rw [List.getElem?_set,LG]
  have e:∀ d:List Int,(lW d)[p]? = some (d.contains (p:Int)):=λ d=>by have:=D1 d hp; rwa [fJ] at this
  rw [e,e]
  by_cases h:k=p
  ·subst h
   rw [if_pos rfl,if_pos hk]
   simp
  ·rw [if_neg h]
   congr 1
   rw [Bool.eq_iff_iff,List.contains_iff_mem,List.contains_iff_mem,List.mem_append,List.mem_singleton]
   exact ⟨.inl,λ h2=>h2.resolve_right (by omega)⟩
 ·rw [List.getElem?_eq_none (by rw [List.length_set,LG]; omega),List.getElem?_eq_none (by rw [LG]; omega)]
theorem Z2{b:ao}(hv:Valid b):vC b=some (oJ b):=by
 have hm:=hv.m4
 unfold vC oJ
 refine (xg (o:=lW (ny b.ax.length)) ?_).trans rfl
 have e0:((0:Int),[false,false,false,false])=(λ i:Nat=>((i:Int),lW (ny i))) 0:=rfl
 rw [e0]
 refine CK (λ i:Nat=>((i:Int),lW (ny i))) b.ax.length (λ i hi=>?_) (by simp only [ja,b8])
 have:=D1 (ny i) (show i < 4 by omega)
 simp only [dec_lt hi,cV,this,Option.bind_some,fY (i:=i) (by omega),Int.toNat_natCast,ahP (show i < 4 by omega),aEh]
theorem aS5{c:List Int}{n:Nat}(hn:n≤4)(ha:c.Pairwise (· < ·))(hc:∀ k∈c,0≤k∧k < (n:Int)):((List.range 4).filter λ k=>c.contains ((k:Nat):Int)).map (λ (k:Nat)=>(k:Int))=c:=by
 refine YP _ _ ?_ ha λ x=>?_
 ·rw [List.pairwise_map]
  exact (List.pairwise_lt_range.filter _).imp λ h=>by omega
 ·simp only [List.mem_map,List.mem_filter,List.mem_range,List.contains_iff_mem]
  constructor
  ·rintro ⟨k,⟨_,h⟩,rfl⟩; exact h
  ·intro h; have:=hc x h; exact ⟨x.toNat,⟨by omega,by rwa [Int.toNat_of_nonneg this.1]⟩,Int.toNat_of_nonneg this.1⟩
structure Zv (b:ao) (r:List (List Int)):Prop where
 len:r.length=b.av.length
 row:∀ i,i < b.av.length→(nth r i).Pairwise (· < ·)∧∀ k∈nth r i,0≤k∧k < (b.ax.length:Int)
theorem gi.rows{b:ao}{g:List Bool}{o:Nat}{r:List (List Int)}(h:gi (gv b g o) r):Zv b r:=⟨h.len,λ i hi=>by
 cases ho:(gv b g o).out i with
 | true=>rw [h.out i hi ho]; exact ⟨.nil,by simp⟩
 | false =>
  have:=qX.1 (h.vB i hi ho)
  exact ⟨this.2.1,λ k hk=>⟨(this.2.2 k hk).1,(this.2.2 k hk).2.1⟩⟩⟩
theorem aOB{b:ao}(hv:Valid b){r:List (List Int)}(hr:Zv b r):Bq b (fK r)=some r:=by
 have hd:=hv.d4
 have hm:=hv.m4
 unfold Bq
 refine (xg (o:=r) ?_).trans rfl
 have e0:(([]:List (List Int)),(0:Int))=(λ i:Nat=>(r.take i,(i:Int))) 0:=rfl
 rw [e0]
 refine CK (λ i:Nat=>(r.take i,(i:Int))) b.av.length (λ i hi=>?_) (by simp only [ja,b8,← hr.len,List.take_length])
 have adr:=hr.row i hi
 have hl:=hr.len
 simp only [dec_lt hi,cV,LC _ (show i < 4 by omega),Option.bind_some,fY (i:=i) (by omega)]
 rw [xg (o:=nth r i) ?_]
 ·rw [Ho (by rw [List.length_take]; simp only [List.length_cons,List.length_nil]; omega),Option.bind_some,List.take_add_one,df (by omega)]
  rfl
 ·have q0:(([]:List Int),(0:Int))=(λ k:Nat=>(((List.range k).filter λ k=>(nth r i).contains ((k:Nat):Int)).map (λ (k:Nat)=>(k:Int)),(k:Int))) 0:=rfl
  rw [q0]
  refine CK (λ k:Nat=>(((List.range k).filter λ k=>(nth r i).contains ((k:Nat):Int)).map (λ (k:Nat)=>(k:Int)),(k:Int))) 4 (λ k hk=>?_) ?_
  ·have hfl:((List.range k).filter λ k=>(nth r i).contains ((k:Nat):Int)).length≤k:=Nat.le_trans (List.length_filter_le _ _) (by simp)
   simp only [show decide ((k:Int) < 4)=true by simp; omega,cV,D1 _ hk,Option.bind_some,fY (i:=k) (by omega),List.range_succ,List.filter_append,List.map_append]
   cases ht:(nth r i).contains (k:Int) with
   | true =>
    rw [cV,Ho (by rw [List.length_map]; simp only [List.length_cons,List.length_nil]; omega),Option.bind_some]
    simp only [List.filter_cons,ht,if_true,List.filter_nil,List.map_cons,List.map_nil]
   | false =>
    simp only [b8,List.filter_cons,ht,Bool.false_eq_true,if_false,List.filter_nil,List.map_nil,List.append_nil]
  ·rw [show decide (((4:Nat):Int) < 4)=false from rfl,b8,aS5 hm adr.1 adr.2]
abbrev vD(b:ao):List (List (List Int)):=r7 (gv b (oJ b) 0)
theorem ahD{b:ao}(hv:Valid b)(g:List Bool)(o:Nat):(r7 (gv b g o)).length≤65536:=aGk hv.m4 hv.d4
theorem aGS{b:ao}{g:List Bool}{o:Nat}{r:List (List Int)}(h:r∈r7 (gv b g o)):Zv b r:=gi.rows (Zs.1 h)
def QI(b:ao):Int × Int:=if nz b 0≠0 then (0,nz b 0) else ((vD b).length,0)
theorem ah0{b:ao}(hs:Small b):np b=some (QI b):=by
 unfold np QI
 rw [Zg hs (own:=0) (λ _=>rfl),Option.bind_some]
 unfold GX
 by_cases h:nz b 0=0
 ·obtain ⟨hv,_,_⟩:=ZS h
  have hl:=ahD hv (oJ b) 0
  simp only [h,ne_eq,not_true_eq_false,if_false,bne_self_eq_false,b8,Z1 hv,show (jQ b).book=b from rfl,Z2 hv,vJ,Option.bind_some]
  rw [show (0:Int)=((0:Nat):Int) from rfl,YL hv (Zw b) (by omega) _ (r:=(.inl ((((vD b).map fK).foldl (λ (s:Int) _=>s+1) 0)),true)) (QN (λ k s=>s=(k:Int)) (λ _ s=>s+1) _ 0 _ rfl (λ j s a hj hs _=>by
   subst hs
   simp only [List.length_map] at hj
   rw [fY (i:=j) (by omega)]
   exact ⟨rfl,rfl⟩))]
  have key:∀ (l:List (List Bool)) (s:Int),l.foldl (λ s _=>s+1) s=s+l.length:=by
   intro l
   induction l with
   | nil=>simp
   | cons a l ih=>intro s; rw [List.foldl_cons,ih]; simp; omega
  rw [Option.bind_some,Sum.elim_inl,key,List.length_map]
  simp
 ·simp only [h,ne_eq,not_false_eq_true,if_true,D3 h,cV]
def tL(b:ao)(g:List Bool)(o:Nat):Bool:=!(r7 (gv b g o)).isEmpty
theorem aFH{b:ao}(hv:Valid b){g:List Bool}(hg:g.length=4){o:Nat}(ho:o < 16):zq (jQ b) (sj b) g (o:Int)=some (tL b g o):=by
 unfold zq tL
 simp only [vJ,Option.bind_some]
 cases hc:r7 (gv b g o) with
 | nil =>
  rw [YL hv hg ho _ (r:=(.inl (),true)) (by rw [hc]; rfl)]
  rfl
 | cons r l =>
  rw [YL hv hg ho _ (r:=(.inr (),false)) (by rw [hc]; rfl)]
  rfl
def abZ(b:ao):List Int × Int:=if nz b 0≠0 then ([],nz b 0) else ((gS b.av.length (λ a=>tL b (oJ b) a) (2 ^ b.av.length)).1,0)
theorem aGw{b:ao}(hs:Small b):pC b=some (abZ b):=by
 unfold pC abZ
 rw [Zg hs (own:=0) (λ _=>rfl),Option.bind_some]
 unfold GX
 by_cases h:nz b 0=0
 ·obtain ⟨hv,_,_⟩:=ZS h
  have hd:=hv.d4
  have hp:=Z6 (n:=b.av.length) (by omega)
  simp only [h,ne_eq,not_true_eq_false,if_false,bne_self_eq_false,b8,Z1 hv,show (jQ b).book=b from rfl,Z2 hv,Option.bind_some]
  rw [aGv (P:=λ a=>tL b (oJ b) a) (by omega) (λ a ha=>?_),Option.bind_some]
  unfold D7
  rw [aFH hv (Zw b) (by omega)]
  rfl
 ·simp only [h,ne_eq,not_false_eq_true,if_true,D3 h,cV]
end Go.Proofs.YtihapemckcdicaaGreatDoor
namespace Go.Proofs.YtihapemckcdicaaGreatDoor
open Go.Lg Go.Proofs
set_option maxRecDepth 10000
def vI(b:ao):RB:=⟨b.ax.length,b.av.length,λ i=>(nth b.av i).ax.toNat,re b,sB b,λ _=>false⟩
theorem gi.same{A C:RB}(hn:A.n=C.n)(hD:A.D=C.D)(Qj:∀ i,i < A.D→A.need i=C.need i)(gJ:∀ i k,i < A.D→k < A.n→A.ok i k=C.ok i k)(kA:∀ i j,i < A.D→j < i→A.ap j i=C.ap j i∧A.ap i j=C.ap i j)(rZ:∀ i,i < A.D→A.out i=C.out i){r:List (List Int)}:gi A r↔gi C r:=by
 constructor
 ·intro h
  exact gi.le ⟨by omega,hD,Qj,λ i k hi hk h=>by rw [← gJ i k hi hk]; exact h,λ i j hi hj h=>by rw [← (kA i j hi hj).1]; exact h,λ i hi h=>by rw [← rZ i hi]; exact h,λ i hi h=>by rw [rZ i hi]; exact h⟩ h
 ·intro h
  exact gi.le ⟨by omega,hD.symm,λ i hi=>(Qj i (by omega)).symm,λ i k hi hk h=>by rw [gJ i k (by omega) (by omega)]; exact h,λ i j hi hj h=>by rw [(kA i j (by omega) hj).1]; exact h,λ i hi h=>by rw [rZ i (by omega)]; exact h,λ i hi h=>by rw [← rZ i (by omega)]; exact h⟩ h
theorem agL{b:ao}{g:List Bool}{o:Nat}:tL b g o=true↔∃ r,gi (gv b g o) r:=by
 unfold tL
 rw [Bool.not_eq_true',List.isEmpty_eq_false_iff_exists_mem]
 exact ⟨λ ⟨r,h⟩=>⟨r,Zs.1 h⟩,λ ⟨r,h⟩=>⟨r,Zs.2 h⟩⟩
theorem ZI{b:ao}(hm:b.ax.length≤4){o:Nat}{r:List (List Int)}:gi (gv b (oJ b) o) r↔gi { vI b with out:=λ i=>o.testBit i } r:=by
 refine gi.same (A:=gv b (oJ b) o) (C:={ vI b with out:=λ i=>o.testBit i }) rfl rfl (λ _ _=>rfl) (λ i k _ hk=>?_) (λ _ _ _ _=>⟨rfl,rfl⟩) (λ i _=>rfl)
 show (nth (lW (ny b.ax.length)) k && re b i k)=re b i k
 have cR:k < b.ax.length:=hk
 rw [apS _ (by omega),show (ny b.ax.length).contains (k:Int)=true by rw [List.contains_iff_mem,ZG]; omega,Bool.true_and]
theorem aCH{b:ao}(hm:b.ax.length≤4){r:List (List Int)}:gi (gv b (oJ b) 0) r↔gi (vI b) r:=by
 rw [ZI hm]
 exact gi.same (A:={ vI b with out:=λ i=>(0:Nat).testBit i }) (C:=vI b) rfl rfl (λ _ _=>rfl) (λ _ _ _ _=>rfl) (λ _ _ _ _=>⟨rfl,rfl⟩) (λ i _=>by simp [vI])
theorem ag4{b:ao}(hv:Valid b):nz b 0=if gA b=[] then 9 else 0:=by unfold nz; simp [D5.2 hv]
end Go.Proofs.YtihapemckcdicaaGreatDoor
namespace Go.Proofs.YtihapemckcdicaaGreatDoor
open Go.Lg Go.Proofs
set_option maxRecDepth 10000
abbrev QM(b:ao)(a:Nat):Bool:=tL b (oJ b) a
theorem aH5{b:ao}(hv:Valid b):QM b (2 ^ b.av.length - 1)=true:=by
 rw [agL]
 refine ⟨List.replicate b.av.length [],?_⟩
 rw [ZI hv.m4]
 have e:∀ i,i < b.av.length→nth (List.replicate b.av.length ([]:List Int)) i=[]:=λ i hi=>by
  have:=df (l:=List.replicate b.av.length ([]:List Int)) (i:=i) (by simpa using hi)
  rw [List.getElem?_replicate,if_pos hi] at this
  exact (Option.some.inj this).symm
 refine ⟨by simp [vI],λ i hi _=>e i hi,λ i hi ho=>?_,λ i j hi hj=>.inr ?_⟩
 ·have:(2 ^ b.av.length - 1).testBit i=true:=aFx i hi
  have ho:(2 ^ b.av.length - 1).testBit i=false:=ho
  rw [this] at ho
  cases ho
 ·rw [e i hi]; rfl
theorem aGo{b:ao}(hv:Valid b):cI b.av.length (QM b) (gS b.av.length (QM b) (2 ^ b.av.length)).1 :=
 (aFL (a:=2 ^ b.av.length - 1) (by have:=Nat.two_pow_pos b.av.length; omega) (aH5 hv)).2
end Go.Proofs.YtihapemckcdicaaGreatDoor
namespace Go.Proofs.YtihapemckcdicaaGreatDoor
open Go.Lg Go.Proofs
set_option maxRecDepth 10000
def kR(b:ao)(i:Nat):Int:=(nth b.av i).gR
abbrev Av(b:ao)(r:List (List Int)):Int:=r6 (kR b) r b.av.length b.ax.length
def GR(f:Int→Int):Int:=max (max (max (max 0 (f 0)) (f 1)) (f 2)) (f 3)
def qj(t:Nat→Int)(r:List (List Int))(i k:Nat):Int→Int:=λ a=>ib t r a i+if (0≤a∧a < (k:Int))∧a∈nth r i then t i else 0
theorem aS1{f:Int→Int}{k:Nat}(hk:k < 4){z:Int}(hz:f k≤z):GR (pv f k z)=max (GR f) z:=by
 match k,hk with
 | 0,_=>simp only [GR,pv] at hz ⊢; simp; simp at hz; omega
 | 1,_=>simp only [GR,pv] at hz ⊢; simp; simp at hz; omega
 | 2,_=>simp only [GR,pv] at hz ⊢; simp; simp at hz; omega
 | 3,_=>simp only [GR,pv] at hz ⊢; simp; simp at hz; omega
theorem aGX{b:ao}(hv:Valid b)(r:List (List Int))(k:Int):∀ i,i≤b.av.length→0≤ib (kR b) r k i∧ib (kR b) r k i≤60 * i
 | 0,_=>by simp [ib]
 | i+1,h=>by
  have ih:=aGX hv r k i (by omega)
  have ht:=(hv.dv (i:=i) (by omega)).Hv
  simp only [ib]
  have:kR b i=(nth b.av i).gR:=rfl
  split <;> omega
theorem aHi{b:ao}(hv:Valid b){r:List (List Int)}(hr:Zv b r):A5 b (fK r)=some (Av b r):=by
 have hd:=hv.d4
 have hm:=hv.m4
 unfold A5
 have ht:∀ i,i < b.av.length→1≤kR b i∧kR b i≤60:=λ i hi=>(hv.dv hi).Hv
 have fin:GR (qj (kR b) r b.av.length 0)=Av b r:=by
  have e:∀ a:Int,qj (kR b) r b.av.length 0 a=ib (kR b) r a b.av.length:=λ a=>by
   unfold qj
   rw [if_neg (by omega)]
   omega
  have z:∀ k:Nat,b.ax.length≤k→ib (kR b) r (k:Int) b.av.length=0:=λ k hk=>ahG λ i hi mE=>by
   have:=(hr.row i hi).2 _ mE
   omega
  have key:∀ m,Av b r≤m↔0≤m∧ib (kR b) r 0 b.av.length≤m∧ib (kR b) r 1 b.av.length≤m∧ib (kR b) r 2 b.av.length≤m∧ib (kR b) r 3 b.av.length≤m:=λ m=>by
   rw [Qd]
   have q:∀ k:Nat,0≤m→(∀ j:Nat,j < b.ax.length→ib (kR b) r (j:Int) b.av.length≤m)→ib (kR b) r (k:Int) b.av.length≤m:=λ k h0 h=>by
    by_cases hk:k < b.ax.length
    ·exact h k hk
    ·rw [z k (by omega)]; exact h0
   constructor
   ·rintro ⟨h0,h⟩
    exact ⟨h0,q 0 h0 h,q 1 h0 h,q 2 h0 h,q 3 h0 h⟩
   ·rintro ⟨h0,h1,h2,h3,h4⟩
    refine ⟨h0,λ k hk=>?_⟩
    match k,(show k < 4 by omega) with
    | 0,_=>exact h1
    | 1,_=>exact h2
    | 2,_=>exact h3
    | 3,_=>exact h4
  unfold GR
  rw [e,e,e,e]
  have k1:=(key (Av b r)).1 (Int.le_refl _)
  have k2:=(key (max (max (max (max 0 (ib (kR b) r 0 b.av.length)) (ib (kR b) r 1 b.av.length)) (ib (kR b) r 2 b.av.length)) (ib (kR b) r 3 b.av.length))).2 (by omega)
  omega
 rw [← fin]
 refine (xg (o:=GR (qj (kR b) r b.av.length 0)) ?_).trans rfl
 have e0:((λ _=>0:Int→Int),(0:Int),(0:Int))=(λ i:Nat=>(qj (kR b) r i 0,GR (qj (kR b) r i 0),(i:Int))) 0:=by
  have:qj (kR b) r 0 0=λ _=>0:=by
   funext a
   unfold qj
   rw [if_neg (by omega)]
   rfl
  simp only [this]
  rfl
 rw [e0]
 refine CK (λ i:Nat=>(qj (kR b) r i 0,GR (qj (kR b) r i 0),(i:Int))) b.av.length (λ i hi=>?_) (by simp only [ja,b8])
 have hb:=λ a=>aGX hv r a i (by omega)
 have hti:=ht i hi
 simp only [dec_lt hi,cV,fJ,df hi,Option.bind_some,LC _ (show i < 4 by omega),fY (i:=i) (by omega)]
 have nx:qj (kR b) r i 4=qj (kR b) r (i+1) 0:=by
  funext a
  unfold qj
  simp only [ib]
  rw [if_neg (show ¬((0≤a∧a < ((0:Nat):Int))∧a∈nth r (i+1)) by omega)]
  by_cases ha:a∈nth r i
  ·have:=(hr.row i hi).2 a ha
   rw [if_pos ⟨⟨by omega,by omega⟩,ha⟩,if_pos ha]
   omega
  ·rw [if_neg (λ h=>ha h.2),if_neg ha]
   omega
 rw [xg (o:=(qj (kR b) r (i+1) 0,GR (qj (kR b) r (i+1) 0))) ?_]
 have q0:(qj (kR b) r i 0,GR (qj (kR b) r i 0),(0:Int))=(λ k:Nat=>(qj (kR b) r i k,GR (qj (kR b) r i k),(k:Int))) 0:=rfl
 rw [q0]
 refine CK (λ k:Nat=>(qj (kR b) r i k,GR (qj (kR b) r i k),(k:Int))) 4 (λ k hk=>?_) ?_
 ·simp only [show decide ((k:Int) < 4)=true by simp; omega,cV,D1 _ hk,Option.bind_some,fY (i:=k) (by omega)]
  have hfk:qj (kR b) r i k (k:Int)=ib (kR b) r (k:Int) i:=by
   unfold qj
   rw [if_neg (λ h=>by omega)]
   omega
  have mN:=hb (k:Int)
  cases hc:(nth r i).contains (k:Int) with
  | true =>
   rw [List.contains_iff_mem] at hc
   have e1:pv (qj (kR b) r i k) (k:Int) (qj (kR b) r i k (k:Int)+kR b i)=qj (kR b) r i (k+1):=by
    funext a
    unfold pv
    by_cases ha:a=(k:Int)
    ·subst ha
     rw [if_pos rfl,hfk]
     unfold qj
     rw [if_pos ⟨⟨by omega,by omega⟩,hc⟩]
    ·rw [if_neg ha]
     unfold qj
     congr 1
     by_cases h2:(0≤a∧a < (k:Int))∧a∈nth r i
     ·rw [if_pos h2,if_pos ⟨⟨h2.1.1,by omega⟩,h2.2⟩]
     ·rw [if_neg h2,if_neg (λ h3=>h2 ⟨⟨h3.1.1,by omega⟩,h3.2⟩)]
   have e2:i64 (qj (kR b) r i k (k:Int)+(nth b.av i).gR)=qj (kR b) r i k (k:Int)+kR b i:=by
    rw [hfk,oq (by have:kR b i=(nth b.av i).gR:=rfl; omega) (by have:kR b i=(nth b.av i).gR:=rfl; omega)]
    rfl
   rw [cV,e2,e1,aFJ]
   congr 2
   have:=aS1 (f:=qj (kR b) r i k) hk (z:=qj (kR b) r i k (k:Int)+kR b i) (by omega)
   rw [e1] at this
   rw [this]
   congr 2
   rw [← e1]
   unfold pv
   rw [if_pos rfl]
  | false =>
   have xd:¬ (k:Int)∈nth r i:=λ h=>by rw [← List.contains_iff_mem,hc] at h; cases h
   have e1:qj (kR b) r i (k+1)=qj (kR b) r i k:=by
    funext a
    unfold qj
    congr 1
    by_cases h2:(0≤a∧a < (k:Int))∧a∈nth r i
    ·rw [if_pos h2,if_pos ⟨⟨h2.1.1,by omega⟩,h2.2⟩]
    ·rw [if_neg h2,if_neg (λ h3=>h2 ⟨⟨h3.1.1,by
      have:a≠(k:Int):=λ e=>xd (e ▸ h3.2)
      omega⟩,h3.2⟩)]
   rw [b8,e1]
 ·rw [show decide (((4:Nat):Int) < 4)=false from rfl,b8,nx]
theorem aSZ{f:List Bool→Option Int}{w:List (List Int)→Int}:∀ (l:List (List (List Int))) (x:List (List Int)),(∀ y∈x::l,f (fK y)=some (w y))→l.length≤70000→GO f ((x::l).map fK)=some (fK (nK w x l)):=by
 intro l x hf hl
 unfold GO
 rw [show idx ((x::l).map fK) 0=some (fK x) from rfl,Option.bind_some]
 rw [show nN ((x::l).map fK) 1 (((x::l).map fK).length:Int)=some (l.map fK) from aGz,Option.bind_some]
 refine (xg (o:=fK (nK w x l)) ?_).trans rfl
 have e0:((0:Int),fK x)=(λ i:Nat=>((i:Int),fK (nK w x (l.take i)))) 0:=rfl
 rw [e0]
 have sn:∀ (l:List (List (List Int))) (x y:List (List Int)),nK w x (l++[y])=if w y < w (nK w x l) then y else nK w x l:=by
  intro l
  induction l with
  | nil=>intro x y; rfl
  | cons z l ih=>intro x y; exact ih _ y
 have mem:∀ (l:List (List (List Int))) (x:List (List Int)),nK w x l∈x::l:=by
  intro l
  induction l with
  | nil=>intro x; simp [nK]
  | cons z l ih =>
   intro x
   simp only [nK]
   have:=ih (if w z < w x then z else x)
   rcases List.mem_cons.1 this with h | h
   ·rw [h]; split <;> simp
   ·simp [h]
 have hlm:(l.map fK).length=l.length:=List.length_map _
 refine (congrArg (λ z=>bC _ z) rfl).trans ?_
 rw [hlm]
 refine CK (λ i:Nat=>((i:Int),fK (nK w x (l.take i)))) l.length (λ i hi=>?_) (by simp only [ja,b8,List.take_length])
 have e:(l.map fK)[i]? = some (fK (nth l i)):=by rw [List.getElem?_map,df hi]; rfl
 have hb:nK w x (l.take i)∈x::l:=by
  rcases List.mem_cons.1 (mem (l.take i) x) with h | h
  ·rw [h]; simp
  ·exact List.mem_cons_of_mem _ (List.mem_of_mem_take h)
 simp only [dec_lt hi,cV,fJ,e,Option.bind_some,hf _ (List.mem_cons_of_mem _ (ko hi)),hf _ hb,fY (i:=i) (by omega)]
 have et:l.take (i+1)=l.take i++[nth l i]:=by rw [List.take_add_one,df hi]; rfl
 rw [et,sn]
 by_cases hw:w (nth l i) < w (nK w x (l.take i))
 ·rw [decide_eq_true hw,cV,if_pos hw]
 ·rw [decide_eq_false hw,b8,if_neg hw]
theorem aSY{b:ao}(hv:Valid b){g:List Bool}(hg:g.length=4){o:Nat}(ho:o < 16):GN (λ y s=>qk y (jQ b) (o:Int) g (sj b) s)=some ((r7 (gv b g o)).map fK):=by
 unfold GN Hr
 have hl:=ahD hv g o
 have key:∀ (l a:List (List Bool)),l.foldl (λ s c=>s++[c]) a=a++l:=by
  intro l
  induction l with
  | nil=>simp
  | cons c l ih=>intro a; rw [List.foldl_cons,ih]; simp
 dsimp only
 rw [YL hv hg ho _ (r:=(.inl ((((r7 (gv b g o)).map fK).foldl (λ (s:List (List Bool)) c=>s++[c]) [])),true)) (QN (λ k s=>s.length=k) (λ c s=>s++[c]) _ 0 [] rfl (λ j s a hj hs _=>by
  simp only [List.length_map] at hj
  rw [Ho (by simp; omega)]
  exact ⟨rfl,by simp [hs]⟩))]
 rw [key]
 rfl
def ajF(b:ao):List (List Int) × Int × Bool × Int:=if nz b 0≠0 then ([],0,false,nz b 0) else match vD b with | []=>([],0,false,0) | r::l=>(nK (Av b) r l,Av b (nK (Av b) r l),true,0)
theorem aFQ{α:Type}(w:α→Int):∀ (l:List α) (x:α),nK w x l∈x::l
 | [],x=>by simp [nK]
 | z::l,x=>by
  simp only [nK]
  rcases List.mem_cons.1 (aFQ w l (if w z < w x then z else x)) with h | h
  ·rw [h]; split <;> simp
  ·simp [h]
theorem aIq{b:ao}(hs:Small b):tz b=some (ajF b):=by
 unfold tz ajF
 rw [Zg hs (own:=0) (λ _=>rfl),Option.bind_some]
 unfold GX
 by_cases h:nz b 0=0
 ·obtain ⟨hv,_,_⟩:=ZS h
  have hl:=ahD hv (oJ b) 0
  simp only [h,ne_eq,not_true_eq_false,if_false,bne_self_eq_false,b8,Z1 hv,show (jQ b).book=b from rfl,Z2 hv,vJ,Option.bind_some]
  have aG7:=aSY hv (Zw b) (o:=0) (by omega)
  rw [show ((0:Nat):Int)=0 from rfl] at aG7
  rw [aG7,Option.bind_some,List.length_map]
  have aF5:∀ r∈vD b,Zv b r:=λ r hr=>aGS hr
  rw [show r7 (gv b (oJ b) 0)=vD b from rfl] at hl ⊢
  cases hc:vD b with
  | nil=>rfl
  | cons r l =>
   rw [hc] at hl aF5
   simp only [List.length_cons] at hl
   rw [show ((((r::l).length:Nat):Int) == 0)=false by simp; omega,b8]
   rw [aSZ (w:=Av b) l r (λ y hy=>aHi hv (aF5 y hy)) (by omega),Option.bind_some]
   have Qi:=aF5 _ (aFQ (Av b) l r)
   rw [aOB hv Qi,Option.bind_some,aHi hv Qi,Option.bind_some]
 ·simp only [h,ne_eq,not_false_eq_true,if_true,D3 h,cV]
end Go.Proofs.YtihapemckcdicaaGreatDoor
namespace Go.Proofs.YtihapemckcdicaaGreatDoor
open Go.Lg Go.Proofs
set_option maxRecDepth 10000
theorem aSL{α:Type}(w:α→Int):∀ (l:List α) (x:α),∀ y∈x::l,w (nK w x l)≤w y
 | [],x,y,hy=>by simp at hy; subst hy; exact Int.le_refl _
 | z::l,x,y,hy=>by
  simp only [nK]
  have ih:=aSL w l (if w z < w x then z else x)
  have h0:=ih _ (List.mem_cons_self ..)
  rcases List.mem_cons.1 hy with rfl | hy
  ·split at h0 <;> rename_i h <;> simp only [h,if_true,if_false] at h0 ⊢ <;> omega
  ·rcases List.mem_cons.1 hy with rfl | hy
   ·split at h0 <;> rename_i h <;> simp only [h,if_true,if_false] at h0 ⊢ <;> omega
   ·exact ih y (List.mem_cons_of_mem _ hy)
theorem aFK{b:ao}(hv:Valid b){r:List (List Int)}:r∈vD b↔gi (vI b) r:=by
 rw [show vD b=r7 (gv b (oJ b) 0) from rfl,Zs,aCH hv.m4]
structure YN (a c:ao):Prop where
 va:Valid a
 vc:Valid c
 case:gA a=[]↔gA c=[]
 le:ahJ (vI a) (vI c)
 Hv:∀ i,i < a.av.length→kR a i=kR c i
theorem YN.err{a c:ao}(h:YN a c):nz a 0=nz c 0:=by
 rw [ag4 h.va,ag4 h.vc]
 by_cases hc:gA a=[]
 ·rw [if_pos hc,if_pos (h.case.1 hc)]
 ·rw [if_neg hc,if_neg λ e=>hc (h.case.2 e)]
theorem YN.aHx{a c:ao}(h:YN a c){r:List (List Int)}(hr:r∈vD a):r∈vD c:=(aFK h.vc).2 (gi.le h.le ((aFK h.va).1 hr))
theorem YN.many{a c:ao}(h:YN a c):(vD a).length≤(vD c).length :=
 ajj id (aGT _) (λ _ _ _ _ e=>e) λ _ hr=>h.aHx hr
theorem YN.aU2{a c:ao}(h:YN a c){r:List (List Int)}(hr:r∈vD a):Av a r=Av c r:=by
 have adr:=aGS hr
 have hD:a.av.length=c.av.length:=h.le.D
 have hn:a.ax.length≤c.ax.length:=h.le.n
 have ht:∀ k:Int,ib (kR a) r k a.av.length=ib (kR c) r k c.av.length:=λ k=>by
  rw [← hD]
  exact ajT λ i hi=>⟨h.Hv i hi,Iff.rfl⟩
 refine ajV λ m=>?_
 rw [Qd,Qd]
 constructor
 ·rintro ⟨h0,h1⟩
  refine ⟨h0,λ k hk=>?_⟩
  rw [← ht]
  by_cases hk2:k < a.ax.length
  ·exact h1 k hk2
  ·rw [ahG λ i hi mE=>by have:=(adr.row i hi).2 _ mE; omega]
   exact h0
 ·rintro ⟨h0,h1⟩
  exact ⟨h0,λ k hk=>by rw [ht]; exact h1 k (by omega)⟩
theorem YN.fair{a c:ao}(h:YN a c)(_:nz a 0=0){r:List (List Int)}{l:List (List (List Int))}(ha:vD a=r::l):∃ q m,vD c=q::m∧Av c (nK (Av c) q m)≤Av a (nK (Av a) r l):=by
 have hb:=aFQ (Av a) l r
 rw [← ha] at hb
 have hc:=h.aHx hb
 cases he:vD c with
 | nil=>rw [he] at hc; cases hc
 | cons q m =>
  rw [he] at hc
  refine ⟨q,m,rfl,?_⟩
  rw [h.aU2 hb]
  exact aSL _ _ _ _ hc
theorem YN.drop{a c:ao}(h:YN a c):(gS c.av.length (QM c) (2 ^ c.av.length)).1.length≤(gS a.av.length (QM a) (2 ^ a.av.length)).1.length:=by
 obtain ⟨x,hx,hP,e⟩:=(aGo h.va).ex
 have hD:a.av.length=c.av.length:=h.le.D
 rw [e]
 have:QM c x=true:=by
  rw [agL] at hP ⊢
  obtain ⟨r,hr⟩:=hP
  refine ⟨r,(ZI h.vc.m4).2 (gi.le ?_ ((ZI h.va.m4).1 hr))⟩
  exact ⟨h.le.n,h.le.D,h.le.need,h.le.ok,h.le.ap,λ _ _ h=>h,λ _ _ h=>h⟩
 have:=(aGo h.vc).len (by rw [← hD]; exact hx) this
 rwa [hD]
theorem aVL{a c:ao}(h:YN a c):LQ a c=some true:=by
 unfold LQ
 rw [ah0 h.va.sm,ah0 h.vc.sm,aIq h.va.sm,aIq h.vc.sm,aGw h.va.sm,aGw h.vc.sm]
 simp only [Option.bind_some]
 have he:=h.err
 unfold QI ajF abZ
 rw [← he]
 by_cases h0:nz a 0=0
 ·rw [h0]
  simp only [ne_eq,not_true_eq_false,if_false]
  have h1:decide (((vD a).length:Int)≤((vD c).length:Int))=true:=by have:=h.many; simpa using this
  have h2:decide (((gS c.av.length (λ a=>tL c (oJ c) a) (2 ^ c.av.length)).1.length:Int)≤((gS a.av.length (λ x=>tL a (oJ a) x) (2 ^ a.av.length)).1.length:Int))=true:=by
   have:=h.drop
   simpa using this
  cases ha:vD a with
  | nil =>
   rw [ha] at h1
   cases hc:vD c with
   | nil =>
    rw [hc] at h1
    simp only [beq_self_eq_true,cV,h1,Bool.not_false,h2]
   | cons q m =>
    rw [hc] at h1
    simp only [beq_self_eq_true,cV,h1,Bool.not_false,h2]
  | cons r l =>
   obtain ⟨q,m,hc,hle⟩:=h.fair h0 ha
   rw [hc,ha] at h1
   rw [hc]
   simp only [beq_self_eq_true,cV,h1,Bool.not_true,b8,decide_eq_true hle,h2]
 ·simp only [h0,ne_eq,not_false_eq_true,if_true,beq_self_eq_true,cV]
  rfl
theorem aWc{b:ao}{ms:List dI}{i k:Nat}(hk:k < b.ax.length):re (⟨b.Rest,b.Rows,b.aM,b.ax++ms,b.av,b.ba⟩:ao) i k=re b i k:=by
 unfold re
 congr 1
 funext c
 unfold xh
 rw [show nth (⟨b.Rest,b.Rows,b.aM,b.ax++ms,b.av,b.ba⟩:ao).ax k=nth b.ax k from zc hk]
 rfl
theorem aZG(b:ao)(x:Int)(p:dI)(hx:0≤x∧x < 256):m14 b x p=some true:=by
 unfold m14
 rw [aBe,aDa,Option.bind_some]
 cases hg:Bp b with
 | true=>rfl
 | false =>
 by_cases h1:lR b=0
 case neg =>
  have:(lR b == 0)=false:=by simpa using h1
  rw [this]
  rfl
 have hs:=ZT hg
 have hv:=D5.1 h1
 have hr:=hv.rest
 simp only [h1,Bool.not_false,beq_self_eq_true,Bool.and_true,Bool.not_true,b8]
 have aXi:yD (i64 x) (i64 (b.Rest+1))=some ((x.toNat % (b.Rest.toNat+1):Nat):Int):=by
  rw [oq (z:=b.Rest+1) (by omega) (by omega)]
  have:=aHt hx.1 hx.2 (n:=b.Rest.toNat+1) (by omega)
  rwa [show ((b.Rest.toNat+1:Nat):Int)=b.Rest+1 by omega] at this
 have bK:x.toNat % (b.Rest.toNat+1) < b.Rest.toNat+1:=Nat.mod_lt _ (by omega)
 rw [aXi,Option.bind_some]
 generalize x.toNat % (b.Rest.toNat+1)=q at bK ⊢
 have hml:=hv.m4
 rw [Ho (by simp; omega),Option.bind_some,Ho (by simp; omega),Option.bind_some,List.nil_append]
 have v1:Valid (⟨(q:Int),b.Rows,b.aM,b.ax,b.av,b.ba⟩:ao):=⟨⟨by simp,by simp; omega⟩,hv.r1,hv.r4,hv.row,hv.abO,hv.p1,hv.p3,hv.place,hv.m1,hv.m4,hv.Y0,hv.names,hv.d1,hv.d4,hv.YU,hv.s3,hv.sound⟩
 have M1:YN b (⟨(q:Int),b.Rows,b.aM,b.ax,b.av,b.ba⟩:ao):=by
  refine ⟨hv,v1,Iff.rfl,⟨Nat.le_refl _,rfl,λ _ _=>rfl,λ _ _ _ _ h=>h,λ i j _ _ h=>?_,λ _ _ h=>h,λ _ _ h=>h⟩,λ _ _=>rfl⟩
  have h:sB b j i=true:=h
  show sB (⟨(q:Int),b.Rows,b.aM,b.ax,b.av,b.ba⟩:ao) j i=true
  simp only [sB,LF,Bool.or_eq_true,decide_eq_true_eq] at h ⊢
  rcases h with h | h
  ·left; omega
  ·right; omega
 rw [aVL M1,Option.bind_some,cV,ajH,Option.bind_some]
 cases hg2:Bp (⟨b.Rest,b.Rows,b.aM,b.ax++[p],b.av,b.ba⟩:ao) with
 | true=>rfl
 | false =>
 have ZB:=ZT hg2
 rw [b8,ajn ZB,Option.bind_some]
 by_cases h2:lR (⟨b.Rest,b.Rows,b.aM,b.ax++[p],b.av,b.ba⟩:ao)=0
 case neg=>rw [D3 h2]; rfl
 have v2:=D5.1 h2
 rw [h2]
 have M2:YN b (⟨b.Rest,b.Rows,b.aM,b.ax++[p],b.av,b.ba⟩:ao) :=
  ⟨hv,v2,Iff.rfl,⟨by simp [vI],rfl,λ _ _=>rfl,λ i k _ hk h=>by
   show re (⟨b.Rest,b.Rows,b.aM,b.ax++[p],b.av,b.ba⟩:ao) i k=true
   rw [aWc hk]; exact h,λ _ _ _ _ h=>h,λ _ _ h=>h,λ _ _ h=>h⟩,λ _ _=>rfl⟩
 rw [aVL M2]
 rfl
end Go.Proofs.YtihapemckcdicaaGreatDoor
