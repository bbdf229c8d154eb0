/- Plain laws of chapter 6, the rest. Conditions: none. -/
import Derived.Test.YtoaoffinglajbaaGreatDoorQBHbL
namespace Go.Proofs.YtoaoffinglajbaaGreatDoor
open Go.Lg Go.Proofs
set_option maxRecDepth 10000
def fa(n a:Nat):List Int:=((List.range n).filter λ i=>a.testBit i).map λ (i:Nat)=>(i:Int)
set_option maxRecDepth 1000000 in
theorem tW{n:Nat}:(((n:Nat):Int) == 0)=(n == 0):=by
 rw [Bool.eq_iff_iff,beq_iff_eq,beq_iff_eq]
 omega
def hy(m:Int):Int:=if m < 0 then -m else m
theorem zB{w m:Int}(d:0≤w)(f : -1000000≤m)(g:m≤1000000):cy w [m,i64 (0 - m)]=max w (hy m):=by
 rw [bZ (by omega) (by omega)]
 unfold hy
 show (if 0 - m > (if m > w then m else w) then 0 - m else (if m > w then m else w))=_
 rw [Int.max_def]
 split <;> split <;> split <;> first | omega | (split <;> omega)
def dP(b:an)(c:dq)(out:List Int):Int:=gT b c.ad c.eJ out
def fL(b:an)(out:List Int):Int:=(bn b).foldl (λ w c=>max w (hy (dP b c out))) 0
theorem Ck{b:an}{c:dq}(h:c∈bn b):c.eJ∈g4 b∧b.ad.ai≤c.ad∧c.ad≤b.ad.ak∧e0 b c.ad c.eJ=true:=by
 simp only [bn,List.mem_flatMap,List.mem_map,List.mem_filter] at h
 obtain ⟨n,d,w,⟨hw,f⟩,rfl⟩:=h
 exact ⟨hw,(pZ.1 d).1,(pZ.1 d).2,f⟩
theorem s4{b:an}(f:Valid b){c:dq}(h:c∈bn b):c.eJ.length=b.ao.length∧hv b c.ad c.eJ:=by
 obtain ⟨g,y,z,_⟩:=Ck h
 have hm:=BN g
 have hb:=f.eb
 exact ⟨hm.1,⟨by omega,by omega,λ k d=>by
  have m:=hm.2 k d
  have s:=(f.each k d).weight
  omega⟩⟩
theorem zJ{b:an}(d:Valid b){c:dq}(h:c∈bn b)(out:List Int) : -6000≤dP b c out∧dP b c out≤6000:=rM d (s4 d h).2
theorem uH{b:an}(d:Valid b){c:dq}(h:c∈bn b)(out:List Int):hj b (gy c) (bY out)=some (dP b c out):=by
 obtain ⟨f,g⟩:=s4 d h
 unfold gy dP
 rw [zk d (xk d f g),zL d f]
theorem tT{α:Type}(f:α→Int):∀ (l:List α) (w k:Int),l.foldl (λ w c=>max w (f c)) w≤k↔w≤k∧∀ c∈l,f c≤k
 | [],_,_=>by simp
 | a::l,w,k=>by
  rw [List.foldl_cons,tT f l]
  simp only [cO,forall_eq_or_imp]
  rw [Int.max_le,and_assoc]
theorem tS{α:Type}(f:α→Int):∀ (l:List α) (w:Int),w≤l.foldl (λ w c=>max w (f c)) w
 | [],_=>Int.le_refl _
 | a::l,w=>by
  rw [List.foldl_cons]
  have:=tS f l (max w (f a))
  omega
theorem Bs(b:an)(out:List Int)(k:Int)(d:0≤k):fL b out≤k↔∀ c∈bn b,hy (dP b c out)≤k:=by
 unfold fL
 rw [tT]
 exact ⟨λ h=>h.2,λ h=>⟨d,h⟩⟩
theorem JO{b:an}{c:dq}{out d:List Int}(h:∀ i:Nat,i < b.ao.length→out.contains (i:Int)=d.contains (i:Int)):dP b c out=dP b c d:=uV _ (λ _ _=>rfl) h
theorem Mp{b:an}{out d:List Int}(h:∀ i:Nat,i < b.ao.length→out.contains (i:Int)=d.contains (i:Int)):fL b out=fL b d:=by
 unfold fL
 congr 1
 funext w c
 rw [JO h]
theorem Fz{l l':List Int}(h:bY l=bY l'){i:Nat}(hi:i < 5):l.contains (i:Int)=l'.contains (i:Int):=by
 have d:(bY l)[i]? = (bY l')[i]? := by rw [h]
 simp only [bY,List.getElem?_map,List.getElem?_range hi,Option.map_some,eO] at d
 exact d
def zA(P i:Nat):List Bool:=(List.range 5).map λ j=>decide (j < P) && i.testBit j
def AQ(P:Nat):Bool:=decide ((List.range (2 ^ P)).map λ i=>bY (fa P i)).Nodup && ((List.range (2 ^ P)).all λ i=>bY (fa P i) == zA P i) && (fK .i64 1 (P:Int) == some ((2 ^ P:Nat):Int)) &&
 ((List.range (2 ^ P)).all λ i=>(List.range P).all λ j=>(fo .i64 i j).bind (λ x=>dB .and .i64 x 1) == some (if i.testBit j then 1 else 0)) &&
 ((List.range 32).all λ v=>(List.range (2 ^ P)).any λ i=>((List.range 5).map λ j=>decide (j < P) && v.testBit j) == bY (fa P i))
set_option maxRecDepth 1000000 in
theorem L0:((List.range 6).all AQ)=true:=by decide +kernel
def sh(v:List Bool):Nat:=(List.range 32).find? (λ n=>(List.range 5).map (λ j=>n.testBit j) == v) |>.getD 0
theorem Mi:∀ a b c d e:Bool,(List.range 5).map (λ j=>(sh [a,b,c,d,e]).testBit j)=[a,b,c,d,e]∧sh [a,b,c,d,e] < 32:=by decide +kernel
theorem vy{P:Nat}(h:P < 6):((List.range (2 ^ P)).map λ i=>bY (fa P i)).Nodup∧(∀ i,i < 2 ^ P→bY (fa P i)=zA P i)∧fK .i64 1 (P:Int)=some ((2 ^ P:Nat):Int) ∧
  (∀ i:Nat,i < 2 ^ P→∀ j:Nat,j < P→(fo .i64 i j).bind (λ x=>dB .and .i64 x 1)=some (if i.testBit j then 1 else 0)) ∧
  ∀ out:List Int,(∀ x∈out,x < (P:Int))→∃ i,i < 2 ^ P∧bY (fa P i)=bY out:=by
 have:=L0
 simp only [List.all_eq_true,List.mem_range] at this
 have d:=this P h
 simp only [AQ,dn,decide_eq_true_eq,List.all_eq_true,List.mem_range,beq_iff_eq,List.any_eq_true] at d
 obtain ⟨⟨⟨⟨d,s⟩,y⟩,z⟩,A⟩:=d
 refine ⟨d,s,y,z,λ out G=>?_⟩
 have m:=Mi (out.contains 0) (out.contains 1) (out.contains 2) (out.contains 3) (out.contains 4)
 obtain ⟨i,hi,he⟩:=A _ m.2
 refine ⟨i,hi,he.symm.trans ?_⟩
 have C:bY out=[out.contains 0,out.contains 1,out.contains 2,out.contains 3,out.contains 4]:=rfl
 have g:(List.range 5).map (λ j=>(sh [out.contains 0,out.contains 1,out.contains 2,out.contains 3,out.contains 4]).testBit j)=bY out:=m.1.trans C.symm
 generalize sh [out.contains 0,out.contains 1,out.contains 2,out.contains 3,out.contains 4]=v at g
 unfold bY
 apply List.map_congr_left
 intro j D
 have E:=List.mem_range.1 D
 have f:=congrArg (λ l=>l[j]?) g
 simp only [bY,List.getElem?_map,List.getElem?_range E,Option.map_some,eO] at f
 rw [f]
 by_cases F:j < P
 ·rw [cr F,Bool.true_and]
 ·have B:out.contains (j:Int)=false:=by
   rw [List.contains_eq_mem,decide_eq_false_iff_not]
   intro hm
   have:=G _ hm
   omega
  rw [B,Bool.and_false]
theorem Kp{n:Nat}(h:n < 6):2 ^ n≤32:=by
 match n,h with
 | 0,_=>decide
 | 1,_=>decide
 | 2,_=>decide
 | 3,_=>decide
 | 4,_=>decide
 | 5,_=>decide
abbrev p8(b:an):cN:=⟨b,(bn b).map gy,[]⟩
theorem He{b:an}(f:Valid b){i:Nat}(hi:i < 2 ^ b.ao.length):j1 (p8 b) (i:Int)=some (bY (fa b.ao.length i),fL b (fa b.ao.length i)):=by
 unfold j1
 have C:=f.n5
 obtain ⟨_,t2,_,t4,_⟩:=vy (P:=b.ao.length) (by omega)
 have D:=jQ f
 refine (dh (o:=bY (fa b.ao.length i)) ?_).trans ?_
 ·rw [t2 i hi]
  have g:((0:Int),[false,false,false,false,false])=(λ k:Nat=>((k:Int),(List.range 5).map λ j=>decide (j < k) && i.testBit j)) 0:=rfl
  rw [g]
  refine gD (λ k:Nat=>((k:Int),(List.range 5).map λ j=>decide (j < k) && i.testBit j)) b.ao.length (λ k d=>?_) (by simp only [cP,aS]; rfl)
  have hb:=t4 i hi k d
  obtain ⟨x,B,hb⟩:=ae hb
  have A:((List.range 5).map λ j=>decide (j < k) && i.testBit j)[k]? = some false:=by
   rw [List.getElem?_map,List.getElem?_range (by omega)]
   simp
  simp only [dec_lt d,a3,B,hb,aD,bD,A,bN (i:=k) (by omega),cm]
  have jX:((List.range 5).map λ j=>decide (j < k) && i.testBit j).set k (i.testBit k)=(List.range 5).map λ j=>decide (j < k+1) && i.testBit j:=by
   apply List.ext_getElem?
   intro q
   rw [List.getElem?_set]
   by_cases m:q < 5
   ·by_cases z:k=q
    ·subst z
     simp [m]
    ·simp only [z,if_false,List.getElem?_map,List.getElem?_range m,Option.map_some]
     by_cases s:q < k
     ·simp [s,show q < k+1 by omega]
     ·simp [s,show ¬ q < k+1 by omega]
   ·rw [if_neg (by omega)]
    simp [m]
  rw [show ((if i.testBit k=true then (1:Int) else 0) == 1)=i.testBit k by cases i.testBit k <;> rfl,jX]
 ·rw [dh (o:=fL b (fa b.ao.length i)) ?_]
  have g:((0:Int),(0:Int))=(λ k:Nat=>(((bn b).take k).foldl (λ w c=>max w (hy (dP b c (fa b.ao.length i)))) 0,(k:Int))) 0:=rfl
  rw [g]
  refine gD (λ k:Nat=>(((bn b).take k).foldl (λ w c=>max w (hy (dP b c (fa b.ao.length i)))) 0,(k:Int))) (bn b).length (λ k d=>?_) (by simp only [List.length_map,cP,aS,List.take_length]; rfl)
  have y:(bn b)[k]∈bn b:=List.getElem_mem d
  have E:=zJ f y (fa b.ao.length i)
  simp only [List.length_map,dec_lt d,a3,bD,List.getElem?_map,e3 d,Option.map_some,aD,uH f y,bN (i:=k) (by omega)]
  rw [zB (tS _ _ _) (by omega) (by omega),List.take_succ_eq_append_getElem d,List.foldl_append]
  rfl
def ox(b:an):ev:=(List.range (2 ^ b.ao.length)).map λ i=>(bY (fa b.ao.length i),fL b (fa b.ao.length i))
theorem mapM_some{α β:Type}{f:α→Option β}{g:α→β}:∀ (l:List α),(∀ a∈l,f a=some (g a))→l.mapM f=some (l.map g)
 | [],_=>rfl
 | a::l,h=>by
  rw [List.mapM_cons,h a (by simp),mapM_some l λ x d=>h x (by simp [d])]
  rfl
theorem Jo{b:an}(f:Valid b):jD (p8 b)=some (ox b):=by
 unfold jD
 have m:=f.n5
 obtain ⟨t1,_,t3,_⟩:=vy (P:=b.ao.length) (by omega)
 have d:=Kp (n:=b.ao.length) (by omega)
 rw [t3,aD,cm,mapM_some (g:=λ i=>(bY (fa b.ao.length i),fL b (fa b.ao.length i))) _ (λ i hi=>He f (List.mem_range.1 hi)),aD,if_pos]
 ·rfl
 ·refine ⟨rfl,by rw [List.map_map]; exact t1,λ p d=>?_,Int.natCast_nonneg _,by generalize 2 ^ b.ao.length=q at d; omega⟩
  obtain ⟨i,_,rfl⟩:=List.mem_map.1 d
  exact FA _
theorem L1{b:an}(g:Valid b){out:List Int}(f:∀ x∈out,x < (b.ao.length:Int)):fI (ox b) (bY out)=fL b out:=by
 have s:=g.n5
 obtain ⟨_,_,_,_,t5⟩:=vy (P:=b.ao.length) (by omega)
 obtain ⟨i,hi,he⟩:=t5 out f
 unfold fI ox
 have key:∀ l:List Nat,i∈l→((l.map λ i=>(bY (fa b.ao.length i),fL b (fa b.ao.length i))).lookup (bY out)).getD 0=fL b out:=by
  intro l
  induction l with
  | nil=>intro h; cases h
  | cons a l m =>
   intro hm
   rw [List.map_cons,List.lookup_cons]
   by_cases d:bY out=bY (fa b.ao.length a)
   ·rw [show (bY out == bY (fa b.ao.length a))=true by simpa using d]
    exact Mp λ j y=>Fz d.symm (by omega)
   ·rw [show (bY out == bY (fa b.ao.length a))=false by simpa using d]
    refine m ?_
    rcases cO.1 hm with rfl | h
    ·exact absurd he.symm d
    ·exact h
 exact key _ (List.mem_range.2 hi)
def gO(b:an)(o:List Int):List (List Int):=(List.range o.length).map λ i=>b.Out++o.take (i+1)
theorem yW{b:an}(m:Valid b){o:List Int}(C:hx o)(G:o.length≤1000){S:Type}(ys:List Bool→S→Option (S × Bool)){s:S}{r:S × Bool}(d:cx ys ((gO b o).map bY) s=some r):hf ys b o s=some r.1:=by
 unfold hf
 have H:=m.small.out
 rw [pP m.rh (by omega),aD]
 have A:(s,(0:Int),bY b.Out)=(s,(λ q:Nat=>((q:Int),bY (b.Out++o.take q))) 0):=by simp
 rw [A]
 refine (dh (nB (ys:=ys) (E:=S) (λ s=>s) (λ q:Nat=>((q:Int),bY (b.Out++o.take q))) (λ q=>[bY (b.Out++o.take (q+1))]) o.length (λ q s r f d=>?_) (λ s=>?_) (s:=s) (r:=r) ?_)).trans ?_
 rotate_right
 ·cases g:r.2 with
  | true=>simp
  | false=>simp
 ·have D:=C _ (dk f)
  have B:hx [nth o q]:=λ x y=>by simp at y; subst y; exact D
  simp only [cx] at d
  obtain ⟨z,F,d⟩:=ae d
  have et:b.Out++o.take q++[nth o q]=b.Out++o.take (q+1):=by
   rw [List.append_assoc,List.take_succ_eq_append_getElem f]
   have:=a6 f
   rw [e3 f] at this
   rw [ey this]
  simp only [dec_lt f,a3,bD,a6 f,aD,rE B (by simp),et,F,bN (i:=q) (by omega)]
  cases g:z.2 with
  | true=>rw [g,if_pos rfl] at d; cases d; simp [aS]
  | false=>rw [g,if_neg (by simp)] at d; cases d; simp [a3]
 ·simp only [cP,aS]
 ·rw [← d,re]
  congr 1
  simp [gO,List.map_map]
def oC(b:an)(o:List Int):Int:=(gO b o).foldl (λ w g=>max w (fL b g)) 0
theorem Cg{b:an}{o:List Int}(hb:∀ x∈b.Out,x < (b.ao.length:Int))(f:∀ x∈o,x < (b.ao.length:Int)):∀ g∈gO b o,∀ x∈g,x < (b.ao.length:Int):=λ g d x m=>by
 simp only [gO,List.mem_map,List.mem_range] at d
 obtain ⟨i,_,rfl⟩:=d
 rcases List.mem_append.1 m with h | h
 ·exact hb x h
 ·exact f x (List.mem_of_mem_take h)
theorem Kf{b:an}(d:Valid b):∀ x∈b.Out,x < (b.ao.length:Int):=λ x f=>by
 have:=jr.1 (rn d.out x f)
 omega
def sx(b:an)(o:List Int):Prop:=∀ x∈o,0≤x∧x < (b.ao.length:Int)
theorem yp{b:an}(d:Valid b){o:List Int}(h:sx b o):hx o:=λ x f=>by
 have:=h x f
 have:=d.n5
 omega
def gi(b:an):Nat→List Int→List Int→List (List Int)
 | 0,_,pre=>[pre]
 | j+1,out,pre=>if ef b out=[] then [pre] else (ef b out).flatMap λ n=>gi b j (out++[n]) (pre++[n])
def ja(b:an):List (List Int):=gi b b.ao.length b.Out []
def left(b:an)(out:List Int):Nat:=((List.range b.ao.length).filter λ (i:Nat)=>!out.contains (i:Int)).length
theorem pY{b:an}{out:List Int}{n:Int}:n∈ef b out↔∃ i:Nat,i < b.ao.length∧n=(i:Int)∧fv b out (i:Int)=true:=by
 simp only [ef,List.mem_filterMap,List.mem_range]
 constructor
 ·rintro ⟨i,hi,h⟩
  split at h
  ·rename_i d; cases h; exact ⟨i,hi,rfl,d⟩
  ·cases h
 ·rintro ⟨i,hi,rfl,d⟩
  exact ⟨i,hi,by rw [if_pos d]⟩
theorem qR{b:an}{out:List Int}{p:Int}(h:fv b out p=true):out.contains p=false:=by
 unfold fv at h
 rw [dn] at h
 simpa using h.1
theorem xZ{p q:Nat→Bool}{i:Nat}:∀ l:List Nat,l.Nodup→i∈l→p i=true→q i=false→(∀ j,j∈l→j≠i→p j=q j)→(l.filter p).length=(l.filter q).length+1
 | [],_,h,_,_,_=>by cases h
 | a::l,g,hm,m,s,he=>by
  rw [List.nodup_cons] at g
  by_cases f:a=i
  ·subst f
   have z:l.filter p=l.filter q:=List.filter_congr λ j d=>he j (by simp [d]) (λ e=>g.1 (e ▸ d))
   simp [m,s,z]
  ·have A:i∈l:=by
    rcases cO.1 hm with h | h
    ·exact absurd h.symm f
    ·exact h
   have B:=xZ l g.2 A m s (λ j d=>he j (by simp [d]))
   have y:=he a (by simp) f
   rw [List.filter_cons,List.filter_cons,y]
   cases q a <;> simp [B]
theorem rm{b:an}{out:List Int}{i:Nat}(hi:i < b.ao.length)(h:out.contains (i:Int)=false):left b out=left b (out++[(i:Int)])+1:=by
 unfold left
 refine xZ (i:=i) _ List.nodup_range (List.mem_range.2 hi) (by rw [h]; rfl) ?_ λ j f d=>?_
 ·simp
 ·simp only [List.contains_eq_mem,List.mem_append,List.mem_singleton,Int.natCast_inj,d,or_false]
theorem ye{b:an}{out:List Int}(h:left b out=0):ef b out=[]:=by
 cases f:ef b out with
 | nil=>rfl
 | cons n l =>
  obtain ⟨i,hi,_,d⟩:=pY.1 (show n∈ef b out by rw [f]; simp)
  have:=rm hi (qR d)
  omega
theorem Fs{b:an}(A:Valid b){out:List Int}(h:ef b out=[]):∀ i:Nat,i < b.ao.length→out.contains (i:Int)=true:=by
 have key:∀ k,k≤b.ao.length→∀ i:Nat,b.ao.length - k≤i→i < b.ao.length→out.contains (i:Int)=true:=by
  intro k
  induction k with
  | zero=>intro _ i s f; omega
  | succ k m =>
   intro B i s f
   by_cases hi:b.ao.length - k≤i
   ·exact m (by omega) i hi f
   ·cases y:out.contains (i:Int) with
    | true=>rfl
    | false =>
     have z:fv b out (i:Int)=true:=by
      unfold fv
      rw [y,Bool.not_false,Bool.true_and,List.all_eq_true]
      intro j d
      have d:=List.mem_range.1 d
      cases g:hV b (i:Int) j with
      | false=>simp
      | true =>
       unfold hV at g
       have C:=xg (A.each j d).on (i:Int) (by simpa using g)
       rw [m (by omega) j (by omega) d]
       rfl
     have:=pY.2 ⟨i,f,rfl,z⟩
     rw [h] at this
     cases this
 intro i hi
 exact key _ (ct _) i (by omega) hi
theorem zS{b:an}(B:Valid b):∀ (j:Nat) (out pre:List Int),left b out≤j→∀ o∈gi b j out pre,∃ t,o=pre++t∧dU b out t=0∧ef b (out++t)=[]
 | 0,out,pre,z,o,d=>by
  simp only [gi,List.mem_singleton] at d
  exact ⟨[],by simp [d],rfl,by rw [List.append_nil]; exact ye (by omega)⟩
 | j+1,out,pre,z,o,d=>by
  simp only [gi] at d
  split at d
  ·rename_i y
   rw [List.mem_singleton] at d
   exact ⟨[],by simp [d],rfl,by rw [List.append_nil]; exact y⟩
  ·obtain ⟨n,A,d⟩:=List.mem_flatMap.1 d
   obtain ⟨i,hi,rfl,g⟩:=pY.1 A
   have m:=qR g
   obtain ⟨t,e,s,f⟩:=zS B j _ _ (by have:=rm hi m; omega) o d
   refine ⟨(i:Int)::t,by simp [e],nz.2 ⟨jr.2 (by omega),m,g,s⟩,by rw [← List.append_cons] at f; exact f⟩
theorem nA{b:an}:∀ (t out:List Int),dU b out t=0→left b out=left b (out++t)+t.length
 | [],out,_=>by simp
 | p::t,out,h=>by
  obtain ⟨d,f,_,g⟩:=nz.1 h
  have m:=jr.1 d
  obtain ⟨i,rfl⟩:∃ i:Nat,p=(i:Int):=⟨p.toNat,by omega⟩
  have:=nA t _ g
  have:=rm (b:=b) (i:=i) (by omega) f
  rw [List.append_assoc,List.singleton_append] at *
  simp only [List.length_cons]
  omega
theorem uc(b:an):left b []=b.ao.length:=by
 unfold left
 rw [List.filter_eq_self.2 (by simp),List.length_range]
theorem yB{b:an}(d:Valid b){out:List Int}(h:ef b out=[]):left b out=0:=by
 have:=Fs d h
 unfold left
 rw [List.filter_eq_nil_iff.2]
 ·rfl
 ·intro i hi
  rw [this i (List.mem_range.1 hi)]
  simp
theorem yC(b:an)(out:List Int):left b out≤b.ao.length:=Nat.le_trans (List.length_filter_le _ _) (by simp)
structure Ord (b:an) (o:List Int):Prop where
 lift:dU b b.Out o=0
 len:b.Out.length+o.length=b.ao.length
theorem Ord.tX{b:an}{o:List Int}(h:Ord b o):sx b o:=λ x d=>by
 have:=jr.1 (rn h.lift x d)
 omega
theorem Kd{b:an}(d:Valid b){o:List Int}(h:o∈ja b):Ord b o:=by
 obtain ⟨t,e,f,g⟩:=zS d _ _ _ (yC b _) o h
 rw [List.nil_append] at e
 subst e
 have e1:=nA _ _ d.out
 have m:=nA _ _ f
 have s:=yB d g
 rw [uc,List.nil_append] at e1
 exact ⟨f,by omega⟩
theorem yX{b:an}(A:Valid b){S:Type}(ys:List Int→S→Option (S × Bool)):∀ (j k:Nat) (out pre:List Int) (s:S) (r:S × Bool),left b out≤j→j < k→pre.length+j≤100→cx ys (gi b j out pre) s=some r→j2 ys k pre (bY out) b s=some r
 | j,0,_,_,_,_,_,H,_,_=>by omega
 | j,k+1,out,pre,s,r,O,H,P,d=>by
  have M:=A.n5
  unfold j2
  rw [Jl A,aD]
  by_cases m:ef b out=[]
  ·have f:cx ys [pre] s=some r:=by
    cases j with
    | zero=>exact d
    | succ j=>rw [gi,if_pos m] at d; exact d
   rw [m]
   simp only [List.length_nil,Int.ofNat_zero,beq_self_eq_true,a3]
   simp only [cx] at f
   obtain ⟨z,K,f⟩:=ae f
   rw [K,aD]
   cases g:z.2 with
   | true=>rw [g,if_pos rfl] at f; cases f; rfl
   | false=>rw [g,if_neg (by simp)] at f; cases f; rfl
  ·cases j with
   | zero=>exact absurd (ye (by omega)) m
   | succ j =>
   rw [gi,if_neg m] at d
   have N:=tU b out
   have I:((ef b out).length == 0)=false:=by
    cases J:ef b out with
    | nil=>exact absurd J m
    | cons _ _=>rfl
   rw [tW,I,aS]
   have D:(s,(0:Int))=(s,(λ q:Nat=>(q:Int)) 0):=rfl
   rw [D]
   refine (dh (nB (ys:=ys) (E:=S × Bool) (λ s=>(s,false)) (λ q:Nat=>(q:Int)) (λ q=>gi b j (out++[nth (ef b out) q]) (pre++[nth (ef b out) q])) (ef b out).length (λ q s r y d=>?_) (λ s=>?_) (s:=s) (r:=r) ?_)).trans ?_
   rotate_right
   ·cases g:r.2 with
    | true=>simp only [if_true,Sum.elim_inl]; rw [← g]
    | false=>simp only [gq,if_false,Sum.elim_inr]; rw [← g]
   ·obtain ⟨i,hi,B,G⟩:=pY.1 (dk y)
    rw [B] at d
    have L:=yX A ys j k (out++[(i:Int)]) (pre++[(i:Int)]) s r (by have:=rm hi (qR G); omega) (by omega) (by simp; omega) d
    have F:hx [(i:Int)]:=λ x C=>by simp at C; subst C; omega
    simp only [dec_lt y,a3,bD,a6 y,B,aD,iU,bN (i:=q) (by omega)]
    rw [eU (by simp; omega),aD,aD,eU (by simp; omega),aD,rE F (by simp),aD,List.nil_append,L,aD]
    cases r.2 with
    | true=>simp [aS]
    | false=>simp [a3]
   ·simp only [cP,aS]
   ·rw [← d]
    congr 1
    exact Fq (λ n=>gi b j (out++[n]) (pre++[n])) _
theorem Ju{b:an}(d:Valid b){S:Type}(ys:List Int→S→Option (S × Bool)){s:S}{r:S × Bool}(f:cx ys (ja b) s=some r):ig ys b s=some r.1:=by
 unfold ig
 have g:=d.n5
 have m:=d.small.out
 rw [pP d.rh (by omega),aD,yX d ys b.ao.length 9 b.Out [] s r (yC b _) (by omega) (by simp; omega) f]
 rfl
def lC(b:an)(o:List Int):Int:=if dU b b.Out o≠0 then dU b b.Out o else if b.Out.length+o.length≠b.ao.length then 2 else 0
theorem zW{b:an}{o:List Int}:lC b o=0↔Ord b o:=by
 unfold lC
 constructor
 ·intro h
  split at h
  ·rename_i d; exact absurd h d
  ·rename_i d
   split at h
   ·cases h
   ·rename_i f; exact ⟨by simpa using d,by simpa using f⟩
 ·rintro ⟨d,f⟩
  rw [if_neg (by simpa using d),if_neg (by simpa using f)]
theorem Jq{b:an}(f:Small b)(y:cD b=0){o:List Int}(B:o.length≤100):lu b o=some (lC b o):=by
 have s:=jg f y
 have C:=f.out
 have z:=s.n5
 unfold lu lC
 rw [pP s.rh (by omega),aD]
 obtain ⟨g,A,_⟩:=zr f z B b.Out
 rw [A,aD]
 by_cases d:dU b b.Out o=0
 ·simp only [d,bne_self_eq_false,aS,ne_eq,eW,if_false]
  rw [bZ (by omega) (by omega),show ((b.Out.length:Int)+(o.length:Int))=((b.Out.length+o.length:Nat):Int) by omega,GN]
  by_cases m:b.Out.length+o.length=b.ao.length
  ·simp [m,aS]
  ·simp [m,a3]
 ·simp only [d,ne_eq,not_false_eq_true,if_true,gg d,a3]
def qo:Bool→(Unit ⊕ Unit) × Bool
 | true=>(.inl (),true)
 | false=>(.inr (),false)
def fj(b:an)(o:List Int)(c:dq):Bool:=(gO b o).all λ g=>!gG b (dP b c g)
theorem Js{b:an}(d:Valid b){o:List Int}(y:sx b o)(s:o.length≤1000){c:dq}(f:c∈bn b):lx (gy c) (p8 b) o=some (fj b o c):=by
 unfold lx jE
 rw [aD]
 dsimp only
 have key:∀ l:List (List Int),cx (cp λ (x:List Bool) (_:Unit)=>(hj b (gy c) x).bind λ A=>(jB b A).bind λ B=>ab B (some (.inr ())) (some (.inl ()):Option (Unit ⊕ Unit))) (l.map bY) (.inl ())=some (qo (l.all λ g=>!gG b (dP b c g))):=by
  intro l
  induction l with
  | nil=>rfl
  | cons g l z =>
   have hb:=zJ d f g
   simp only [List.map_cons,cx,cp,uH d f,aD,zq (b:=b) (m:=dP b c g) (by omega) (by omega),List.all_cons]
   cases gG b (dP b c g) with
   | true=>rfl
   | false=>simpa [aS] using z
 rw [yW d (yp d y) s _ (key _)]
 unfold fj
 cases (gO b o).all λ g=>!gG b (dP b c g) <;> rfl
def gb(n all:Nat):Int:=if n=0 then 2 else if n=all then 1 else 0
theorem Jj{b:an}(B:Valid b){f:bm→Option Bool}{p:dq→Bool}(A:∀ c∈bn b,f (gy c)=some (p c)):lq (p8 b) f=some (gb ((bn b).filter p).length (bn b).length):=by
 unfold lq
 have C:=jQ B
 refine (dh (o:=(((bn b).filter p).length:Int)) ?_).trans ?_
 ·have y:((0:Int),(0:Int))=(λ k:Nat=>(((((bn b).take k).filter p).length:Int),(k:Int))) 0:=rfl
  rw [y]
  refine gD (λ k:Nat=>(((((bn b).take k).filter p).length:Int),(k:Int))) (bn b).length (λ k g=>?_) (by simp only [List.length_map,cP,aS,List.take_length])
  have z:(bn b)[k]∈bn b:=List.getElem_mem g
  have D:(((bn b).take k).filter p).length≤k:=Nat.le_trans (List.length_filter_le _ _) (by simp; omega)
  simp only [List.length_map,dec_lt g,a3,bD,List.getElem?_map,e3 g,Option.map_some,aD,A _ z,bN (i:=k) (by omega),bN (i:=(((bn b).take k).filter p).length) (by omega)]
  rw [List.take_succ_eq_append_getElem g,List.filter_append,ew]
  cases s:p (bn b)[k] with
  | true=>simp [s,a3]
  | false=>simp [s,aS]
 ·simp only [List.length_map]
  unfold gb
  by_cases d:((bn b).filter p).length=0
  ·rw [if_pos d,d]; rfl
  ·rw [if_neg d,tW,show (((bn b).filter p).length == 0)=false by simpa using d,aS]
   by_cases m:((bn b).filter p).length=(bn b).length
   ·rw [if_pos m,m,beq_self_eq_true,a3]
   ·rw [if_neg m,show ((((bn b).filter p).length:Int) == ((bn b).length:Int))=false by simp; omega,aS]
def rZ(b:an)(o:List Int):Int × Int :=
 if cD b≠0 then (0,cD b) else if lC b o≠0 then (0,lC b o) else if bn b=[] then (0,9) else (gb ((bn b).filter (fj b o)).length (bn b).length,0)
theorem y8{b:an}(m:Small b){o:List Int}(z:o.length≤100):ia b o=some (rZ b o):=by
 unfold ia rZ
 rw [rF m (own:=lC b o) (λ d=>Jq m d z),aD]
 unfold oo
 by_cases d:cD b=0
 ·have s:=jg m d
  simp only [d,ne_eq,eW,if_false]
  by_cases f:lC b o=0
  ·simp only [f,eW,if_false]
   by_cases g:bn b=[]
   ·rw [if_pos g,if_pos g]; rfl
   ·rw [if_neg g,if_neg g]
    simp only [bne_self_eq_false,aS]
    rw [Jj s λ c y=>Js s (zW.1 f).tX (by omega) y]
    rfl
  ·simp only [f,not_false_eq_true,if_true,gg f,a3]
 ·simp only [d,ne_eq,not_false_eq_true,if_true,gg d,a3]
theorem Le{b:an}(m:Int):(!gG b m)=decide (hy m≤b.ax):=by
 rw [Bool.eq_iff_iff]
 unfold gG hy
 simp only [Bool.not_eq_true',Bool.or_eq_false_iff,decide_eq_false_iff_not,decide_eq_true_eq]
 split <;> omega
theorem vH(b:an)(o:List Int)(k:Int)(d:0≤k):oC b o≤k↔∀ g∈gO b o,fL b g≤k:=by
 unfold oC
 rw [tT]
 exact ⟨λ h=>h.2,λ h=>⟨d,h⟩⟩
theorem ym{α:Type}{p:α→Bool}{l:List α}(g:l≠[]):(gb (l.filter p).length l.length == 1)=decide (∀ c∈l,p c=true):=by
 rw [Bool.eq_iff_iff,decide_eq_true_eq,beq_iff_eq]
 unfold gb
 have hlen:0 < l.length:=List.length_pos_iff.2 g
 constructor
 ·intro h
  split at h
  ·cases h
  ·split at h
   ·rename_i d
    intro c f
    exact (List.filter_eq_self.1 (List.Sublist.eq_of_length (List.filter_sublist) d)) c f
   ·cases h
 ·intro h
  rw [List.filter_eq_self.2 h,if_neg (by omega),if_pos rfl]
theorem zR{b:an}(d:b.ao.length≤5):∀ (j:Nat) (out pre:List Int),(gi b j out pre).length≤5 ^ j
 | 0,_,_=>by simp [gi]
 | j+1,out,pre=>by
  have m:=tU b out
  have s:0 < 5 ^ j:=Nat.pow_pos (by omega)
  simp only [gi]
  split
  ·rw [Nat.pow_succ]; simp only [List.length_cons,List.length_nil]; omega
  ·have key:∀ l:List Int,(l.flatMap λ n=>gi b j (out++[n]) (pre++[n])).length≤l.length * 5 ^ j:=by
    intro l
    induction l with
    | nil=>simp
    | cons n l y =>
     have:=zR d j (out++[n]) (pre++[n])
     simp only [List.flatMap_cons,ew,List.length_cons,Nat.add_mul,Nat.one_mul]
     omega
   have f:=key (ef b out)
   have g:(ef b out).length * 5 ^ j≤5 * 5 ^ j:=Nat.mul_le_mul_right _ (by omega)
   rw [Nat.pow_succ]
   omega
theorem Kc{b:an}(d:Valid b):(ja b).length≤3125:=by
 refine Nat.le_trans (zR d.n5 _ _ _) ?_
 exact Nat.pow_le_pow_right (by omega) d.n5
def hS(b:an)(o:List Int):Bool:=decide (oC b o≤b.ax)
def oq(b:an):Int × Int:=if cD b≠0 then (0,cD b) else if bn b=[] then (0,9) else (((ja b).filter (hS b)).length,0)
theorem zT{b:an}(d:Valid b){o:List Int}(h:Ord b o):o.length≤5:=by
 have:=h.len
 have:=d.n5
 omega
theorem Jn(b:an):gS b=some 0:=rfl
theorem y9{b:an}(B:Small b):ib b=some (oq b):=by
 unfold ib oq
 rw [rF B (own:=0) (λ _=>Jn b),aD]
 unfold oo
 by_cases m:cD b=0
 ·have d:=jg B m
  have I:=Kc d
  simp only [m,ne_eq,eW,if_false]
  by_cases s:bn b=[]
  ·rw [if_pos s,if_pos s]; rfl
  ·rw [if_neg s,if_neg s]
   simp only [bne_self_eq_false,aS]
   rw [Jo d,aD]
   have inner:∀ o,Ord b o→hf (cp λ (x:List Bool) (_:Unit)=>ab (decide (fI (ox b) x > b.ax)) (some (.inr ())) (some (.inl ()):Option (Unit ⊕ Unit))) b o (.inl ())=some (qo (hS b o)).1:=λ o f=>by
    have F:=Cg (Kf d) λ x G=>(f.tX x G).2
    have key:∀ l:List (List Int),(∀ g∈l,∀ x∈g,x < (b.ao.length:Int))→cx (cp λ (x:List Bool) (_:Unit)=>ab (decide (fI (ox b) x > b.ax)) (some (.inr ())) (some (.inl ()):Option (Unit ⊕ Unit))) (l.map bY) (.inl ()) =
      some (qo (l.all λ g=>decide (fL b g≤b.ax))):=by
     intro l
     induction l with
     | nil=>intro _; rfl
     | cons g l z =>
      intro h
      have:=z (λ g' E=>h g' (by simp [E]))
      simp only [List.map_cons,cx,cp,L1 d (h g (by simp)),List.all_cons]
      by_cases hw:fL b g≤b.ax
      ·rw [cr hw,show decide (fL b g > b.ax)=false by simp; omega]
       simpa [aS] using this
      ·rw [cY hw,show decide (fL b g > b.ax)=true by simp; omega]
       rfl
    rw [yW d (yp d f.tX) (by have:=zT d f; omega) _ (key _ F)]
    have e:((gO b o).all λ g=>decide (fL b g≤b.ax))=hS b o:=by
     rw [Bool.eq_iff_iff]
     unfold hS
     simp only [List.all_eq_true,decide_eq_true_eq]
     exact (vH _ _ _ d.mb.1).symm
    rw [e]
   have key:∀ (l:List (List Int)) (k:Nat),k+l.length≤4000→(∀ o∈l,Ord b o)→cx (cp (O:=Empty) λ (H:List Int) (C:Int)=>(jE b H).bind λ D =>
     (hf (cp λ (x:List Bool) (_:Unit)=>ab (decide (fI (ox b) x > b.ax)) (some (.inr ())) (some (.inl ()):Option (Unit ⊕ Unit))) D.1 D.2 (.inl ())).bind (Sum.elim (λ _=>some (.inl (i64 (C+1)))) λ _=>some (.inl C))) l (.inl (k:Int))=some (.inl ((k+(l.filter (hS b)).length:Nat):Int),true):=by
    intro l
    induction l with
    | nil=>intro k _ _; simp [cx]
    | cons o l z =>
     intro k y h
     simp only [List.length_cons] at y
     simp only [cx,cp]
     rw [show jE b o=some (b,o) from rfl,aD,inner o (h o (by simp))]
     cases f:hS b o with
     | true =>
      simp only [qo,if_true,aD,Sum.elim_inl,Option.map_some,Sum.isLeft_inl,bN (i:=k) (by omega)]
      rw [z (k+1) (by omega) (λ o' A=>h o' (by simp [A])),List.filter_cons,f]
      simp only [if_true,List.length_cons]
      congr 3
      omega
     | false =>
      simp only [qo,aD,Sum.elim_inr,Option.map_some,Sum.isLeft_inl,if_true]
      rw [z k (by omega) (λ o' A=>h o' (by simp [A])),List.filter_cons,f]
      rfl
   have y:=key _ 0 (by omega) λ o f=>Kd d f
   rw [show ((0:Nat):Int)=0 from rfl] at y
   rw [Ju d _ y]
   simp
 ·simp only [m,ne_eq,not_false_eq_true,if_true,gg m,a3]
theorem yG{b:an}:∀ (t u out:List Int),dU b out t=0→dU b (out++t) u=0→dU b out (t++u)=0
 | [],u,out,_,h=>by simpa using h
 | p::t,u,out,s,y=>by
  obtain ⟨d,f,g,m⟩:=nz.1 s
  rw [List.cons_append]
  exact nz.2 ⟨d,f,g,yG t u _ m (by rw [← List.append_cons]; exact y)⟩
theorem Is{b:an}(D:Small b)(m:Valid b){l:List Int}(B:nb l):∃ o,pz b l=some o∧Ord b o:=by
 unfold pz
 have S:=m.n5
 have V:=D.out
 rw [eU (by simp; omega),aD,List.nil_append]
 have key:∀ (k:Nat) (out:List Int),b.Out.length+out.length+k=b.ao.length→dU b b.Out out=0→∃ o,(a1 (λ (d:((List Int) × (List Int))) =>
   ab (decide ((d.2.length:Int) < (b.ao.length:Int)))
   ((n7 b d.2).bind λ y =>
   ab ((y.length:Int) == 0)
   (some (.inr (.inr d.1)))
   ((ll l (i64 (6+(d.1.length:Int)))).bind λ N =>
   (ec N (y.length:Int)).bind λ O =>
   (idx y O).bind λ E =>
   (cu d.1 [E]).bind λ P =>
   (cu d.2 [E]).bind λ Q =>
   some (.inl (P,Q))))
   (some (.inr (.inl d.1)):Option (((List Int) × (List Int)) ⊕ ((List Int) ⊕ (List Int))))) (out,b.Out++out))=some (.inl o)∧Ord b o:=by
  intro k
  induction k with
  | zero =>
   intro out I f
   refine ⟨out,dO ?_,f,by omega⟩
   simp only [show decide (((b.Out++out).length:Int) < (b.ao.length:Int))=false by simp; omega,aS]
  | succ k M =>
   intro out I f
   have G:ef b (b.Out++out)≠[]:=λ F=>by
    have e1:=nA _ _ m.out
    have z:=nA _ _ f
    have R:=yB m F
    rw [uc,List.nil_append] at e1
    omega
   have T:=tU b (b.Out++out)
   have H:0 < (ef b (b.Out++out)).length:=List.length_pos_iff.2 G
   have W:=qa B (6+out.length)
   obtain ⟨q,L⟩:∃ q:Nat,fy l (6+out.length)=(q:Int):=⟨(fy l (6+out.length)).toNat,by omega⟩
   have C:q % (ef b (b.Out++out)).length < (ef b (b.Out++out)).length:=Nat.mod_lt _ H
   obtain ⟨i,hi,K,A⟩:=pY.1 (dk C)
   have J:dU b b.Out (out++[(i:Int)])=0:=yG _ _ _ f (nz.2 ⟨jr.2 (by omega),qR A,A,rfl⟩)
   obtain ⟨o,g,s⟩:=M (out++[(i:Int)]) (by simp; omega) J
   refine ⟨o,?_,s⟩
   rw [← g]
   refine gC ?_
   have e1:i64 (6+(out.length:Int))=((6+out.length:Nat):Int):=by rw [bZ (by omega) (by omega)]; omega
   have z:ec (q:Int) ((ef b (b.Out++out)).length:Int)=some ((q % (ef b (b.Out++out)).length:Nat):Int):=by
    unfold ec
    rw [if_neg (by omega),Int.ofNat_tmod]
   simp only [show decide (((b.Out++out).length:Int) < (b.ao.length:Int))=true by simp; omega,a3,Ja D (out:=b.Out++out) (by simp; omega),aD,tW,show ((ef b (b.Out++out)).length == 0)=false by simp; omega,aS,e1,uE B,L,z,bD,a6 C,K]
   rw [eU (by simp; omega),aD,eU (by simp; omega),aD,List.append_assoc]
 obtain ⟨o,g,s⟩:=key (b.ao.length - b.Out.length) [] (by
  have e1:=nA _ _ m.out
  rw [uc,List.nil_append] at e1
  simp
  omega) rfl
 rw [List.append_nil] at g
 refine ⟨o,?_,s⟩
 rw [dh g]
 rfl
set_option maxRecDepth 1000000 in
theorem yl{α:Type}{p:α→Bool}{l:List α}:(gb (l.filter p).length l.length == 2)=decide (∀ c∈l,p c=false):=by
 rw [Bool.eq_iff_iff,decide_eq_true_eq,beq_iff_eq]
 unfold gb
 constructor
 ·intro h
  split at h
  ·rename_i f
   have:=List.filter_eq_nil_iff.1 (List.length_eq_zero_iff.1 f)
   exact λ c d=>by simpa using this c d
  ·split at h <;> cases h
 ·intro h
  rw [List.filter_eq_nil_iff.2 (λ c d=>by simp [h c d])]
  rfl
theorem Aq{b:an}(d:cD b=0)(f:bn b≠[]){o:List Int}(g:Ord b o):rZ b o=(gb ((bn b).filter (fj b o)).length (bn b).length,0):=by
 unfold rZ
 simp only [d,zW.2 g,ne_eq,eW,if_false,if_neg f]
end Go.Proofs.YtoaoffinglajbaaGreatDoor
