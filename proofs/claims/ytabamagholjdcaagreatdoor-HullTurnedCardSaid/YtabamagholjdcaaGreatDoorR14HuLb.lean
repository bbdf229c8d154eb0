/- Plain laws of chapter 6, the rest. Conditions: none. -/
import Derived.Test.YtabamagholjdcaaGreatDoorR14HuL
namespace Go.Proofs.YtabamagholjdcaaGreatDoor
open Go.Lg Go.Proofs
set_option maxRecDepth 10000
def hZ(n a:Nat):List Int:=((List.range n).filter λ i=>a.testBit i).map λ (i:Nat)=>(i:Int)
set_option maxRecDepth 1000000 in
theorem ab6{n:Nat}:(((n:Nat):Int) == 0)=(n == 0):=by
 rw [Bool.eq_iff_iff,beq_iff_eq,beq_iff_eq]
 omega
end Go.Proofs.YtabamagholjdcaaGreatDoor
namespace Go.Proofs.YtabamagholjdcaaGreatDoor
open Go.Lg Go.Proofs
set_option maxRecDepth 10000
def ER(m:Int):Int:=if m < 0 then -m else m
theorem aOh{w m:Int}(h0:0≤w)(h1 : -1000000≤m)(h2:m≤1000000):fH w [m,i64 (0 - m)]=max w (ER m):=by
 rw [dR (by omega) (by omega)]
 unfold ER
 show (if 0 - m > (if m > w then m else w) then 0 - m else (if m > w then m else w))=_
 rw [Int.max_def]
 split <;> split <;> split <;> first | omega | (split <;> omega)
def eF(b:aj)(c:cR)(out:List Int):Int:=oE b c.aa c.eU out
def oG(b:aj)(out:List Int):Int:=(bJ b).foldl (λ w c=>max w (ER (eF b c out))) 0
theorem akj{b:aj}{c:cR}(h:c∈bJ b):c.eU∈oL b∧b.aa.ai≤c.aa∧c.aa≤b.aa.ak∧lh b c.aa c.eU=true:=by
 simp only [bJ,List.mem_flatMap,List.mem_map,List.mem_filter] at h
 obtain ⟨n,hn,w,⟨hw,hs⟩,rfl⟩:=h
 exact ⟨hw,(L5.1 hn).1,(L5.1 hn).2,hs⟩
theorem Q8{b:aj}(hv:Valid b){c:cR}(h:c∈bJ b):c.eU.length=b.ao.length∧uI b c.aa c.eU:=by
 obtain ⟨h1,h2,h3,_⟩:=akj h
 have hm:=ajd h1
 have hb:=hv.df
 exact ⟨hm.1,⟨by omega,by omega,λ k hk=>by
  have g1:=hm.2 k hk
  have g2:=(hv.each k hk).weight
  omega⟩⟩
theorem abB{b:aj}(hv:Valid b){c:cR}(h:c∈bJ b)(out:List Int) : -6000≤eF b c out∧eF b c out≤6000:=abR hv (Q8 hv h).2
theorem abO{b:aj}(hv:Valid b){c:cR}(h:c∈bJ b)(out:List Int):pM b (mS c) (c7 out)=some (eF b c out):=by
 obtain ⟨hl,hf⟩:=Q8 hv h
 unfold mS eF
 rw [acn hv (abY hv hl hf),acs hv hl]
theorem akp{α:Type}(f:α→Int):∀ (l:List α) (w k:Int),l.foldl (λ w c=>max w (f c)) w≤k↔w≤k∧∀ c∈l,f c≤k
 | [],_,_=>by simp
 | a::l,w,k=>by
  rw [List.foldl_cons,akp f l]
  simp only [List.mem_cons,forall_eq_or_imp]
  rw [Int.max_le,and_assoc]
theorem ajf{α:Type}(f:α→Int):∀ (l:List α) (w:Int),w≤l.foldl (λ w c=>max w (f c)) w
 | [],_=>Int.le_refl _
 | a::l,w=>by
  rw [List.foldl_cons]
  have:=ajf f l (max w (f a))
  omega
theorem a5z(b:aj)(out:List Int):0≤oG b out:=ajf _ _ _
theorem aNO(b:aj)(out:List Int)(k:Int)(hk:0≤k):oG b out≤k↔∀ c∈bJ b,ER (eF b c out)≤k:=by
 unfold oG
 rw [akp]
 exact ⟨λ h=>h.2,λ h=>⟨hk,h⟩⟩
theorem aNH{b:aj}{c:cR}{out E1:List Int}(h:∀ i:Nat,i < b.ao.length→out.contains (i:Int)=E1.contains (i:Int)):eF b c out=eF b c E1:=abA _ (λ _ _=>rfl) h
theorem aPV{b:aj}{out E1:List Int}(h:∀ i:Nat,i < b.ao.length→out.contains (i:Int)=E1.contains (i:Int)):oG b out=oG b E1:=by
 unfold oG
 congr 1
 funext w c
 rw [aNH h]
theorem aO2{l l':List Int}(h:c7 l=c7 l'){i:Nat}(hi:i < 5):l.contains (i:Int)=l'.contains (i:Int):=by
 have h1:(c7 l)[i]? = (c7 l')[i]? := by rw [h]
 simp only [c7,List.getElem?_map,List.getElem?_range hi,Option.map_some,Option.some.injEq] at h1
 exact h1
def aNF(P i:Nat):List Bool:=(List.range 5).map λ j=>decide (j < P) && i.testBit j
def aNM(P:Nat):Bool:=decide ((List.range (2 ^ P)).map λ i=>c7 (hZ P i)).Nodup && ((List.range (2 ^ P)).all λ i=>c7 (hZ P i) == aNF P i) && (se .i64 1 (P:Int) == some ((2 ^ P:Nat):Int)) &&
 ((List.range (2 ^ P)).all λ i=>(List.range P).all λ j=>(qV .i64 i j).bind (λ x=>pL .and .i64 x 1) == some (if i.testBit j then 1 else 0)) &&
 ((List.range 32).all λ v=>(List.range (2 ^ P)).any λ i=>((List.range 5).map λ j=>decide (j < P) && v.testBit j) == c7 (hZ P i))
set_option maxRecDepth 1000000 in
theorem aPR:((List.range 6).all aNM)=true:=by decide +kernel
def aic(v:List Bool):Nat:=(List.range 32).find? (λ n=>(List.range 5).map (λ j=>n.testBit j) == v) |>.getD 0
theorem aPU:∀ a b c d e:Bool,(List.range 5).map (λ j=>(aic [a,b,c,d,e]).testBit j)=[a,b,c,d,e]∧aic [a,b,c,d,e] < 32:=by decide +kernel
theorem ala{P:Nat}(h:P < 6):((List.range (2 ^ P)).map λ i=>c7 (hZ P i)).Nodup∧(∀ i,i < 2 ^ P→c7 (hZ P i)=aNF P i)∧se .i64 1 (P:Int)=some ((2 ^ P:Nat):Int) ∧
  (∀ i:Nat,i < 2 ^ P→∀ j:Nat,j < P→(qV .i64 i j).bind (λ x=>pL .and .i64 x 1)=some (if i.testBit j then 1 else 0)) ∧
  ∀ out:List Int,(∀ x∈out,x < (P:Int))→∃ i,i < 2 ^ P∧c7 (hZ P i)=c7 out:=by
 have:=aPR
 simp only [List.all_eq_true,List.mem_range] at this
 have h1:=this P h
 simp only [aNM,Bool.and_eq_true,decide_eq_true_eq,List.all_eq_true,List.mem_range,beq_iff_eq,List.any_eq_true] at h1
 obtain ⟨⟨⟨⟨h1,h2⟩,h3⟩,h4⟩,h5⟩:=h1
 refine ⟨h1,h2,h3,h4,λ out ho=>?_⟩
 have hv:=aPU (out.contains 0) (out.contains 1) (out.contains 2) (out.contains 3) (out.contains 4)
 obtain ⟨i,hi,he⟩:=h5 _ hv.2
 refine ⟨i,hi,he.symm.trans ?_⟩
 have hg:c7 out=[out.contains 0,out.contains 1,out.contains 2,out.contains 3,out.contains 4]:=rfl
 have h7:(List.range 5).map (λ j=>(aic [out.contains 0,out.contains 1,out.contains 2,out.contains 3,out.contains 4]).testBit j)=c7 out:=hv.1.trans hg.symm
 generalize aic [out.contains 0,out.contains 1,out.contains 2,out.contains 3,out.contains 4]=v at h7
 unfold c7
 apply List.map_congr_left
 intro j hj
 have hj5:=List.mem_range.1 hj
 have h6:=congrArg (λ l=>l[j]?) h7
 simp only [c7,List.getElem?_map,List.getElem?_range hj5,Option.map_some,Option.some.injEq] at h6
 rw [h6]
 by_cases hjP:j < P
 ·rw [decide_eq_true hjP,Bool.true_and]
 ·have hc:out.contains (j:Int)=false:=by
   rw [List.contains_eq_mem,decide_eq_false_iff_not]
   intro hm
   have:=ho _ hm
   omega
  rw [hc,Bool.and_false]
theorem aPF{n:Nat}(h:n < 6):2 ^ n≤32:=by
 match n,h with
 | 0,_=>decide
 | 1,_=>decide
 | 2,_=>decide
 | 3,_=>decide
 | 4,_=>decide
 | 5,_=>decide
abbrev RB(b:aj):di:=⟨b,(bJ b).map mS,[]⟩
theorem aPl{b:aj}(hv:Valid b){i:Nat}(hi:i < 2 ^ b.ao.length):yR (RB b) (i:Int)=some (c7 (hZ b.ao.length i),oG b (hZ b.ao.length i)):=by
 unfold yR
 have h5:=hv.n5
 obtain ⟨_,t2,_,t4,_⟩:=ala (P:=b.ao.length) (by omega)
 have ga:=A7 hv
 refine (gp (o:=c7 (hZ b.ao.length i)) ?_).trans ?_
 ·rw [t2 i hi]
  have e0:((0:Int),[false,false,false,false,false])=(λ k:Nat=>((k:Int),(List.range 5).map λ j=>decide (j < k) && i.testBit j)) 0:=rfl
  rw [e0]
  refine tv (λ k:Nat=>((k:Int),(List.range 5).map λ j=>decide (j < k) && i.testBit j)) b.ao.length (λ k hk=>?_) (by simp only [fh,bm]; rfl)
  have hb:=t4 i hi k hk
  obtain ⟨x,hx,hb⟩:=af hb
  have hg:((List.range 5).map λ j=>decide (j < k) && i.testBit j)[k]? = some false:=by
   rw [List.getElem?_map,List.getElem?_range (by omega)]
   simp
  simp only [dec_lt hk,bw,hx,hb,Option.bind_some,cj,hg,cK (i:=k) (by omega),Int.toNat_natCast]
  have yO:((List.range 5).map λ j=>decide (j < k) && i.testBit j).set k (i.testBit k)=(List.range 5).map λ j=>decide (j < k+1) && i.testBit j:=by
   apply List.ext_getElem?
   intro q
   rw [List.getElem?_set]
   by_cases hq:q < 5
   ·by_cases hkq:k=q
    ·subst hkq
     simp [hq]
    ·simp only [hkq,if_false,List.getElem?_map,List.getElem?_range hq,Option.map_some]
     by_cases h1:q < k
     ·simp [h1,show q < k+1 by omega]
     ·simp [h1,show ¬ q < k+1 by omega]
   ·rw [if_neg (by omega)]
    simp [hq]
  rw [show ((if i.testBit k=true then (1:Int) else 0) == 1)=i.testBit k by cases i.testBit k <;> rfl,yO]
 ·rw [gp (o:=oG b (hZ b.ao.length i)) ?_]
  have e0:((0:Int),(0:Int))=(λ k:Nat=>(((bJ b).take k).foldl (λ w c=>max w (ER (eF b c (hZ b.ao.length i)))) 0,(k:Int))) 0:=rfl
  rw [e0]
  refine tv (λ k:Nat=>(((bJ b).take k).foldl (λ w c=>max w (ER (eF b c (hZ b.ao.length i)))) 0,(k:Int))) (bJ b).length (λ k hk=>?_) (by simp only [List.length_map,fh,bm,List.take_length]; rfl)
  have hc:(bJ b)[k]∈bJ b:=List.getElem_mem hk
  have hmb:=abB hv hc (hZ b.ao.length i)
  simp only [List.length_map,dec_lt hk,bw,cj,List.getElem?_map,List.getElem?_eq_getElem hk,Option.map_some,Option.bind_some,abO hv hc,cK (i:=k) (by omega)]
  rw [aOh (ajf _ _ _) (by omega) (by omega),List.take_succ_eq_append_getElem hk,List.foldl_append]
  rfl
def Ia(b:aj):gB:=(List.range (2 ^ b.ao.length)).map λ i=>(c7 (hZ b.ao.length i),oG b (hZ b.ao.length i))
theorem mapM_some{α β:Type}{f:α→Option β}{g:α→β}:∀ (l:List α),(∀ a∈l,f a=some (g a))→l.mapM f=some (l.map g)
 | [],_=>rfl
 | a::l,h=>by
  rw [List.mapM_cons,h a (by simp),mapM_some l λ x hx=>h x (by simp [hx])]
  rfl
theorem aOf{b:aj}(hv:Valid b):wE (RB b)=some (Ia b):=by
 unfold wE
 have h5:=hv.n5
 obtain ⟨t1,_,t3,_⟩:=ala (P:=b.ao.length) (by omega)
 have hp:=aPF (n:=b.ao.length) (by omega)
 rw [t3,Option.bind_some,Int.toNat_natCast,mapM_some (g:=λ i=>(c7 (hZ b.ao.length i),oG b (hZ b.ao.length i))) _ (λ i hi=>aPl hv (List.mem_range.1 hi)),Option.bind_some,if_pos]
 ·rfl
 ·refine ⟨rfl,by rw [List.map_map]; exact t1,λ p hp=>?_,Int.natCast_nonneg _,by generalize 2 ^ b.ao.length=q at hp; omega⟩
  obtain ⟨i,_,rfl⟩:=List.mem_map.1 hp
  exact aO3 _
theorem aOC{b:aj}(hv:Valid b){out:List Int}(ho:∀ x∈out,x < (b.ao.length:Int)):mT (Ia b) (c7 out)=oG b out:=by
 have h5:=hv.n5
 obtain ⟨_,_,_,_,t5⟩:=ala (P:=b.ao.length) (by omega)
 obtain ⟨i,hi,he⟩:=t5 out ho
 unfold mT Ia
 have key:∀ l:List Nat,i∈l→((l.map λ i=>(c7 (hZ b.ao.length i),oG b (hZ b.ao.length i))).lookup (c7 out)).getD 0=oG b out:=by
  intro l
  induction l with
  | nil=>intro h; cases h
  | cons a l ih =>
   intro hm
   rw [List.map_cons,List.lookup_cons]
   by_cases hk:c7 out=c7 (hZ b.ao.length a)
   ·rw [show (c7 out == c7 (hZ b.ao.length a))=true by simpa using hk]
    exact aPV λ j hj=>aO2 hk.symm (by omega)
   ·rw [show (c7 out == c7 (hZ b.ao.length a))=false by simpa using hk]
    refine ih ?_
    rcases List.mem_cons.1 hm with rfl | h
    ·exact absurd he.symm hk
    ·exact h
 exact key _ (List.mem_range.2 hi)
end Go.Proofs.YtabamagholjdcaaGreatDoor
namespace Go.Proofs.YtabamagholjdcaaGreatDoor
open Go.Lg Go.Proofs
set_option maxRecDepth 10000
def wS(b:aj)(o:List Int):List (List Int):=(List.range o.length).map λ i=>b.Out++o.take (i+1)
theorem alz{b:aj}(hv:Valid b){o:List Int}(ho:qU o)(hl:o.length≤1000){S:Type}(ys:List Bool→S→Option (S × Bool)){s:S}{r:S × Bool}(hr:hF ys ((wS b o).map c7) s=some r):qZ ys b o s=some r.1:=by
 unfold qZ
 have hos:=hv.small.out
 rw [Mc hv.Zj (by omega),Option.bind_some]
 have e0:(s,(0:Int),c7 b.Out)=(s,(λ q:Nat=>((q:Int),c7 (b.Out++o.take q))) 0):=by simp
 rw [e0]
 refine (gp (RX (ys:=ys) (E:=S) (λ s=>s) (λ q:Nat=>((q:Int),c7 (b.Out++o.take q))) (λ q=>[c7 (b.Out++o.take (q+1))]) o.length (λ q s r hq hr=>?_) (λ s=>?_) (s:=s) (r:=r) ?_)).trans ?_
 rotate_right
 ·cases h2:r.2 with
  | true=>simp
  | false=>simp
 ·have hx:=ho _ (iZ hq)
  have h1:qU [nth o q]:=λ x q8=>by simp at q8; subst q8; exact hx
  simp only [hF] at hr
  obtain ⟨z,hz,hr⟩:=af hr
  have et:b.Out++o.take q++[nth o q]=b.Out++o.take (q+1):=by
   rw [List.append_assoc,List.take_succ_eq_append_getElem hq]
   have:=bz hq
   rw [List.getElem?_eq_getElem hq] at this
   rw [Option.some.inj this]
  simp only [dec_lt hq,bw,cj,bz hq,Option.bind_some,Si h1 (by simp),et,hz,cK (i:=q) (by omega)]
  cases h2:z.2 with
  | true=>rw [h2,if_pos rfl] at hr; cases hr; simp [bm]
  | false=>rw [h2,if_neg (by simp)] at hr; cases hr; simp [bw]
 ·simp only [fh,bm]
 ·rw [← hr,aeY]
  congr 1
  simp [wS,List.map_map]
def r8(b:aj)(o:List Int):Int:=(wS b o).foldl (λ w g=>max w (oG b g)) 0
theorem aOn{b:aj}{o:List Int}(hb:∀ x∈b.Out,x < (b.ao.length:Int))(ho:∀ x∈o,x < (b.ao.length:Int)):∀ g∈wS b o,∀ x∈g,x < (b.ao.length:Int):=λ g hg x hx=>by
 simp only [wS,List.mem_map,List.mem_range] at hg
 obtain ⟨i,_,rfl⟩:=hg
 rcases List.mem_append.1 hx with h | h
 ·exact hb x h
 ·exact ho x (List.mem_of_mem_take h)
theorem aOA{b:aj}(hv:Valid b):∀ x∈b.Out,x < (b.ao.length:Int):=λ x hx=>by
 have:=yE.1 (Rq hv.out x hx)
 omega
def LU(b:aj)(o:List Int):Prop:=∀ x∈o,0≤x∧x < (b.ao.length:Int)
theorem alu{b:aj}(hv:Valid b){o:List Int}(h:LU b o):qU o:=λ x hx=>by
 have:=h x hx
 have:=hv.n5
 omega
theorem aZ7{b:aj}(hv:Valid b){o:List Int}(ho:LU b o)(hl:o.length≤1000):yI ⟨b,(bJ b).map mS,Ia b⟩ o=some (r8 b o):=by
 unfold yI yq
 rw [Option.bind_some]
 dsimp only
 have key:∀ (l:List (List Int)) (w:Int),0≤w→(∀ g∈l,∀ x∈g,x < (b.ao.length:Int))→hF (dq (O:=Empty) λ (x:List Bool) (s:Int)=>some (.inl (fH s [mT (Ia b) x]))) (l.map c7) (.inl w)=some (.inl (l.foldl (λ w g=>max w (oG b g)) w),true):=by
  intro l
  induction l with
  | nil=>intro w _ _; rfl
  | cons g l ih =>
   intro w hw h
   have e:fH w [oG b g]=max w (oG b g):=by
    show (if oG b g > w then oG b g else w)=_
    rw [Int.max_def]
    split <;> split <;> omega
   simp only [List.map_cons,hF,dq,Option.map_some,Option.bind_some,Sum.isLeft_inl,if_true,List.foldl_cons,aOC hv (h g (by simp)),e]
   exact ih _ (by omega) (λ g' L9=>h g' (by simp [L9]))
 rw [alz hv (alu hv ho) hl _ (r:=(.inl (r8 b o),true)) (key _ 0 (by omega) (aOn (aOA hv) λ x hx=>(ho x hx).2))]
 rfl
def q9(b:aj):Nat→List Int→List Int→List (List Int)
 | 0,_,pre=>[pre]
 | j+1,out,pre=>if ju b out=[] then [pre] else (ju b out).flatMap λ n=>q9 b j (out++[n]) (pre++[n])
def Ao(b:aj):List (List Int):=q9 b b.ao.length b.Out []
def left(b:aj)(out:List Int):Nat:=((List.range b.ao.length).filter λ (i:Nat)=>!out.contains (i:Int)).length
theorem Sj{b:aj}{out:List Int}{n:Int}:n∈ju b out↔∃ i:Nat,i < b.ao.length∧n=(i:Int)∧lq b out (i:Int)=true:=by
 simp only [ju,List.mem_filterMap,List.mem_range]
 constructor
 ·rintro ⟨i,hi,h⟩
  split at h
  ·rename_i hc; cases h; exact ⟨i,hi,rfl,hc⟩
  ·cases h
 ·rintro ⟨i,hi,rfl,hc⟩
  exact ⟨i,hi,by rw [if_pos hc]⟩
theorem abW{b:aj}{out:List Int}{p:Int}(h:lq b out p=true):out.contains p=false:=by
 unfold lq at h
 rw [Bool.and_eq_true] at h
 simpa using h.1
theorem ako{p q:Nat→Bool}{i:Nat}:∀ l:List Nat,l.Nodup→i∈l→p i=true→q i=false→(∀ j,j∈l→j≠i→p j=q j)→(l.filter p).length=(l.filter q).length+1
 | [],_,h,_,_,_=>by cases h
 | a::l,hn,hm,hp,hq,he=>by
  rw [List.nodup_cons] at hn
  by_cases ha:a=i
  ·subst ha
   have hl:l.filter p=l.filter q:=List.filter_congr λ j hj=>he j (by simp [hj]) (λ e=>hn.1 (e ▸ hj))
   simp [hp,hq,hl]
  ·have mU:i∈l:=by
    rcases List.mem_cons.1 hm with h | h
    ·exact absurd h.symm ha
    ·exact h
   have ih:=ako l hn.2 mU hp hq (λ j hj=>he j (by simp [hj]))
   have ea:=he a (by simp) ha
   rw [List.filter_cons,List.filter_cons,ea]
   cases q a <;> simp [ih]
theorem abN{b:aj}{out:List Int}{i:Nat}(hi:i < b.ao.length)(h:out.contains (i:Int)=false):left b out=left b (out++[(i:Int)])+1:=by
 unfold left
 refine ako (i:=i) _ List.nodup_range (List.mem_range.2 hi) (by rw [h]; rfl) ?_ λ j hj b7=>?_
 ·simp
 ·simp only [List.contains_eq_mem,List.mem_append,List.mem_singleton,Int.natCast_inj,b7,or_false]
theorem arA{b:aj}{out:List Int}(h:left b out=0):ju b out=[]:=by
 cases hf:ju b out with
 | nil=>rfl
 | cons n l =>
  obtain ⟨i,hi,_,hc⟩:=Sj.1 (show n∈ju b out by rw [hf]; simp)
  have:=abN hi (abW hc)
  omega
theorem aNX{b:aj}(hv:Valid b){out:List Int}(h:ju b out=[]):∀ i:Nat,i < b.ao.length→out.contains (i:Int)=true:=by
 have key:∀ k,k≤b.ao.length→∀ i:Nat,b.ao.length - k≤i→i < b.ao.length→out.contains (i:Int)=true:=by
  intro k
  induction k with
  | zero=>intro _ i h1 h2; omega
  | succ k ih =>
   intro hk i h1 h2
   by_cases hi:b.ao.length - k≤i
   ·exact ih (by omega) i hi h2
   ·cases hc:out.contains (i:Int) with
    | true=>rfl
    | false =>
     have ga:lq b out (i:Int)=true:=by
      unfold lq
      rw [hc,Bool.not_false,Bool.true_and,List.all_eq_true]
      intro j hj
      have hj:=List.mem_range.1 hj
      cases hr:pJ b (i:Int) j with
      | false=>simp
      | true =>
       unfold pJ at hr
       have hon:=abX (hv.each j hj).on (i:Int) (by simpa using hr)
       rw [ih (by omega) j (by omega) hj]
       rfl
     have:=Sj.2 ⟨i,h2,rfl,ga⟩
     rw [h] at this
     cases this
 intro i hi
 exact key _ (Nat.le_refl _) i (by omega) hi
theorem aNJ{b:aj}(hv:Valid b):∀ (j:Nat) (out pre:List Int),left b out≤j→∀ o∈q9 b j out pre,∃ t,o=pre++t∧gx b out t=0∧ju b (out++t)=[]
 | 0,out,pre,hl,o,ho=>by
  simp only [q9,List.mem_singleton] at ho
  exact ⟨[],by simp [ho],rfl,by rw [List.append_nil]; exact arA (by omega)⟩
 | j+1,out,pre,hl,o,ho=>by
  simp only [q9] at ho
  split at ho
  ·rename_i hf
   rw [List.mem_singleton] at ho
   exact ⟨[],by simp [ho],rfl,by rw [List.append_nil]; exact hf⟩
  ·obtain ⟨n,hn,ho⟩:=List.mem_flatMap.1 ho
   obtain ⟨i,hi,rfl,hc⟩:=Sj.1 hn
   have hnc:=abW hc
   obtain ⟨t,e,h1,h2⟩:=aNJ hv j _ _ (by have:=abN hi hnc; omega) o ho
   refine ⟨(i:Int)::t,by simp [e],KO.2 ⟨yE.2 (by omega),hnc,hc,h1⟩,by rw [← List.append_cons] at h2; exact h2⟩
theorem aPE{b:aj}:∀ (j:Nat) (out pre:List Int),q9 b j out pre≠[]
 | 0,_,_=>by simp [q9]
 | j+1,out,pre=>by
  simp only [q9]
  cases hf:ju b out with
  | nil=>simp
  | cons n l =>
   rw [if_neg (by simp),List.flatMap_cons]
   intro h
   exact aPE j _ _ (List.append_eq_nil_iff.1 h).1
theorem H9{b:aj}:∀ (t out:List Int),gx b out t=0→left b out=left b (out++t)+t.length
 | [],out,_=>by simp
 | p::t,out,h=>by
  obtain ⟨h1,h2,_,h4⟩:=KO.1 h
  have hp:=yE.1 h1
  obtain ⟨i,rfl⟩:∃ i:Nat,p=(i:Int):=⟨p.toNat,by omega⟩
  have:=H9 t _ h4
  have:=abN (b:=b) (i:=i) (by omega) h2
  rw [List.append_assoc,List.singleton_append] at *
  simp only [List.length_cons]
  omega
theorem abM(b:aj):left b []=b.ao.length:=by
 unfold left
 rw [List.filter_eq_self.2 (by simp),List.length_range]
theorem alv{b:aj}(hv:Valid b){out:List Int}(h:ju b out=[]):left b out=0:=by
 have:=aNX hv h
 unfold left
 rw [List.filter_eq_nil_iff.2]
 ·rfl
 ·intro i hi
  rw [this i (List.mem_range.1 hi)]
  simp
theorem aHV(b:aj)(out:List Int):left b out≤b.ao.length:=Nat.le_trans (List.length_filter_le _ _) (by simp)
structure Ord (b:aj) (o:List Int):Prop where
 lift:gx b b.Out o=0
 len:b.Out.length+o.length=b.ao.length
theorem Ord.isP{b:aj}{o:List Int}(h:Ord b o):LU b o:=λ x hx=>by
 have:=yE.1 (Rq h.lift x hx)
 omega
theorem alG{b:aj}(hv:Valid b){o:List Int}(h:o∈Ao b):Ord b o:=by
 obtain ⟨t,e,h1,h2⟩:=aNJ hv _ _ _ (aHV b _) o h
 rw [List.nil_append] at e
 subst e
 have e1:=H9 _ _ hv.out
 have e2:=H9 _ _ h1
 have e3:=alv hv h2
 rw [abM,List.nil_append] at e1
 exact ⟨h1,by omega⟩
theorem a0f(b:aj):Ao b≠[]:=aPE _ _ _
theorem aNB{b:aj}(hv:Valid b){S:Type}(ys:List Int→S→Option (S × Bool)):∀ (j k:Nat) (out pre:List Int) (s:S) (r:S × Bool),left b out≤j→j < k→pre.length+j≤100→hF ys (q9 b j out pre) s=some r→yS ys k pre (c7 out) b s=some r
 | j,0,_,_,_,_,_,hk,_,_=>by omega
 | j,k+1,out,pre,s,r,hl,hk,hp,hr=>by
  have h5:=hv.n5
  unfold yS
  rw [aPx hv,Option.bind_some]
  by_cases hf:ju b out=[]
  ·have Rb:hF ys [pre] s=some r:=by
    cases j with
    | zero=>exact hr
    | succ j=>rw [q9,if_pos hf] at hr; exact hr
   rw [hf]
   simp only [List.length_nil,Int.ofNat_zero,beq_self_eq_true,bw]
   simp only [hF] at Rb
   obtain ⟨z,hz,Rb⟩:=af Rb
   rw [hz,Option.bind_some]
   cases h2:z.2 with
   | true=>rw [h2,if_pos rfl] at Rb; cases Rb; rfl
   | false=>rw [h2,if_neg (by simp)] at Rb; cases Rb; rfl
  ·cases j with
   | zero=>exact absurd (arA (by omega)) hf
   | succ j =>
   rw [q9,if_neg hf] at hr
   have hfl:=ajN b out
   have hlz:((ju b out).length == 0)=false:=by
    cases hx:ju b out with
    | nil=>exact absurd hx hf
    | cons _ _=>rfl
   rw [ab6,hlz,bm]
   have e0:(s,(0:Int))=(s,(λ q:Nat=>(q:Int)) 0):=rfl
   rw [e0]
   refine (gp (RX (ys:=ys) (E:=S × Bool) (λ s=>(s,false)) (λ q:Nat=>(q:Int)) (λ q=>q9 b j (out++[nth (ju b out) q]) (pre++[nth (ju b out) q])) (ju b out).length (λ q s r hq hr=>?_) (λ s=>?_) (s:=s) (r:=r) ?_)).trans ?_
   rotate_right
   ·cases h2:r.2 with
    | true=>simp only [if_true,Sum.elim_inl]; rw [← h2]
    | false=>simp only [Bool.false_eq_true,if_false,Sum.elim_inr]; rw [← h2]
   ·obtain ⟨i,hi,hn,hc⟩:=Sj.1 (iZ hq)
    rw [hn] at hr
    have ih:=aNB hv ys j k (out++[(i:Int)]) (pre++[(i:Int)]) s r (by have:=abN hi (abW hc); omega) (by omega) (by simp; omega) hr
    have h1:qU [(i:Int)]:=λ x q8=>by simp at q8; subst q8; omega
    simp only [dec_lt hq,bw,cj,bz hq,hn,Option.bind_some,uo,cK (i:=q) (by omega)]
    rw [mb (by simp; omega),Option.bind_some,Option.bind_some,mb (by simp; omega),Option.bind_some,Si h1 (by simp),Option.bind_some,List.nil_append,ih,Option.bind_some]
    cases r.2 with
    | true=>simp [bm]
    | false=>simp [bw]
   ·simp only [fh,bm]
   ·rw [← hr]
    congr 1
    exact aNv (λ n=>q9 b j (out++[n]) (pre++[n])) _
theorem aN9{b:aj}(hv:Valid b){S:Type}(ys:List Int→S→Option (S × Bool)){s:S}{r:S × Bool}(hr:hF ys (Ao b) s=some r):ss ys b s=some r.1:=by
 unfold ss
 have h5:=hv.n5
 have hos:=hv.small.out
 rw [Mc hv.Zj (by omega),Option.bind_some,aNB hv ys b.ao.length 9 b.Out [] s r (aHV b _) (by omega) (by simp; omega) hr]
 rfl
end Go.Proofs.YtabamagholjdcaaGreatDoor
namespace Go.Proofs.YtabamagholjdcaaGreatDoor
open Go.Lg Go.Proofs
set_option maxRecDepth 10000
def Ml(b:aj)(o:List Int):Int:=if gx b b.Out o≠0 then gx b b.Out o else if b.Out.length+o.length≠b.ao.length then 2 else 0
theorem alH{b:aj}{o:List Int}:Ml b o=0↔Ord b o:=by
 unfold Ml
 constructor
 ·intro h
  split at h
  ·rename_i h1; exact absurd h h1
  ·rename_i h1
   split at h
   ·cases h
   ·rename_i h2; exact ⟨by simpa using h1,by simpa using h2⟩
 ·rintro ⟨h1,h2⟩
  rw [if_neg (by simpa using h1),if_neg (by simpa using h2)]
theorem aPz{b:aj}(hs:Small b)(h1:cY b=0){o:List Int}(hl:o.length≤100):Bw b o=some (Ml b o):=by
 have hv:=r7 hs h1
 have hos:=hs.out
 have h5:=hv.n5
 unfold Bw Ml
 rw [Mc hv.Zj (by omega),Option.bind_some]
 obtain ⟨g,hg,_⟩:=aj1 hs h5 hl b.Out
 rw [hg,Option.bind_some]
 by_cases h2:gx b b.Out o=0
 ·simp only [h2,bne_self_eq_false,bm,ne_eq,not_true_eq_false,if_false]
  rw [dR (by omega) (by omega),show ((b.Out.length:Int)+(o.length:Int))=((b.Out.length+o.length:Nat):Int) by omega,aOu]
  by_cases h3:b.Out.length+o.length=b.ao.length
  ·simp [h3,bm]
  ·simp [h3,bw]
 ·simp only [h2,ne_eq,not_false_eq_true,if_true,ly h2,bw]
def ynB:Bool→(Unit ⊕ Unit) × Bool
 | true=>(.inl (),true)
 | false=>(.inr (),false)
def EO(b:aj)(o:List Int)(c:cR):Bool:=(wS b o).all λ g=>!lY b (eF b c g)
theorem aPk{b:aj}(hv:Valid b){o:List Int}(ho:LU b o)(hl:o.length≤1000){c:cR}(hc:c∈bJ b):Bv (mS c) (RB b) o=some (EO b o c):=by
 unfold Bv yq
 rw [Option.bind_some]
 dsimp only
 have key:∀ l:List (List Int),hF (dq λ (x:List Bool) (_:Unit)=>(pM b (mS c) x).bind λ l6=>(wj b l6).bind λ gr=>ae gr (some (.inr ())) (some (.inl ()):Option (Unit ⊕ Unit))) (l.map c7) (.inl ())=some (ynB (l.all λ g=>!lY b (eF b c g))):=by
  intro l
  induction l with
  | nil=>rfl
  | cons g l ih =>
   have hb:=abB hv hc g
   simp only [List.map_cons,hF,dq,abO hv hc,Option.bind_some,agG (b:=b) (m:=eF b c g) (by omega) (by omega),List.all_cons]
   cases lY b (eF b c g) with
   | true=>rfl
   | false=>simpa [bm] using ih
 rw [alz hv (alu hv ho) hl _ (key _)]
 unfold EO
 cases (wS b o).all λ g=>!lY b (eF b c g) <;> rfl
def yC(n all:Nat):Int:=if n=0 then 2 else if n=all then 1 else 0
theorem aNA{b:aj}(hv:Valid b){f:bt→Option Bool}{p:cR→Bool}(hf:∀ c∈bJ b,f (mS c)=some (p c)):A4 (RB b) f=some (yC ((bJ b).filter p).length (bJ b).length):=by
 unfold A4
 have ga:=A7 hv
 refine (gp (o:=(((bJ b).filter p).length:Int)) ?_).trans ?_
 ·have e0:((0:Int),(0:Int))=(λ k:Nat=>(((((bJ b).take k).filter p).length:Int),(k:Int))) 0:=rfl
  rw [e0]
  refine tv (λ k:Nat=>(((((bJ b).take k).filter p).length:Int),(k:Int))) (bJ b).length (λ k hk=>?_) (by simp only [List.length_map,fh,bm,List.take_length])
  have hc:(bJ b)[k]∈bJ b:=List.getElem_mem hk
  have hfl:(((bJ b).take k).filter p).length≤k:=Nat.le_trans (List.length_filter_le _ _) (by simp; omega)
  simp only [List.length_map,dec_lt hk,bw,cj,List.getElem?_map,List.getElem?_eq_getElem hk,Option.map_some,Option.bind_some,hf _ hc,cK (i:=k) (by omega),cK (i:=(((bJ b).take k).filter p).length) (by omega)]
  rw [List.take_succ_eq_append_getElem hk,List.filter_append,List.length_append]
  cases hp:p (bJ b)[k] with
  | true=>simp [hp,bw]
  | false=>simp [hp,bm]
 ·simp only [List.length_map]
  unfold yC
  by_cases h1:((bJ b).filter p).length=0
  ·rw [if_pos h1,h1]; rfl
  ·rw [if_neg h1,ab6,show (((bJ b).filter p).length == 0)=false by simpa using h1,bm]
   by_cases h2:((bJ b).filter p).length=(bJ b).length
   ·rw [if_pos h2,h2,beq_self_eq_true,bw]
   ·rw [if_neg h2,show ((((bJ b).filter p).length:Int) == ((bJ b).length:Int))=false by simp; omega,bm]
def abT(b:aj)(o:List Int):Int × Int :=
 if cY b≠0 then (0,cY b) else if Ml b o≠0 then (0,Ml b o) else if bJ b=[] then (0,9) else (yC ((bJ b).filter (EO b o)).length (bJ b).length,0)
theorem aOa{b:aj}(hs:Small b){o:List Int}(hl:o.length≤100):oM b o=some (abT b o):=by
 unfold oM abT
 rw [My hs (own:=Ml b o) (λ h1=>aPz hs h1 hl),Option.bind_some]
 unfold EZ
 by_cases h1:cY b=0
 ·have hv:=r7 hs h1
  simp only [h1,ne_eq,not_true_eq_false,if_false]
  by_cases h2:Ml b o=0
  ·simp only [h2,not_true_eq_false,if_false]
   by_cases h3:bJ b=[]
   ·rw [if_pos h3,if_pos h3]; rfl
   ·rw [if_neg h3,if_neg h3]
    simp only [bne_self_eq_false,bm]
    rw [aNA hv λ c hc=>aPk hv (alH.1 h2).isP (by omega) hc]
    rfl
  ·simp only [h2,not_false_eq_true,if_true,ly h2,bw]
 ·simp only [h1,ne_eq,not_false_eq_true,if_true,ly h1,bw]
theorem aOj(b:aj)(o:List Int)(k:Int)(hk:0≤k):r8 b o≤k↔∀ g∈wS b o,oG b g≤k:=by
 unfold r8
 rw [akp]
 exact ⟨λ h=>h.2,λ h=>⟨hk,h⟩⟩
theorem aPD{b:aj}(h5:b.ao.length≤5):∀ (j:Nat) (out pre:List Int),(q9 b j out pre).length≤5 ^ j
 | 0,_,_=>by simp [q9]
 | j+1,out,pre=>by
  have hf:=ajN b out
  have hp:0 < 5 ^ j:=Nat.pow_pos (by omega)
  simp only [q9]
  split
  ·rw [Nat.pow_succ]; simp only [List.length_cons,List.length_nil]; omega
  ·have key:∀ l:List Int,(l.flatMap λ n=>q9 b j (out++[n]) (pre++[n])).length≤l.length * 5 ^ j:=by
    intro l
    induction l with
    | nil=>simp
    | cons n l ih =>
     have:=aPD h5 j (out++[n]) (pre++[n])
     simp only [List.flatMap_cons,List.length_append,List.length_cons,Nat.add_mul,Nat.one_mul]
     omega
   have h1:=key (ju b out)
   have h2:(ju b out).length * 5 ^ j≤5 * 5 ^ j:=Nat.mul_le_mul_right _ (by omega)
   rw [Nat.pow_succ]
   omega
theorem a61{b:aj}(hv:Valid b):(Ao b).length≤3125:=by
 refine Nat.le_trans (aPD hv.n5 _ _ _) ?_
 exact Nat.pow_le_pow_right (by omega) hv.n5
def L6(b:aj)(o:List Int):Bool:=decide (r8 b o≤b.aB)
def aj2(b:aj):Int × Int:=if cY b≠0 then (0,cY b) else if bJ b=[] then (0,9) else (((Ao b).filter (L6 b)).length,0)
theorem ab9{b:aj}(hv:Valid b){o:List Int}(h:Ord b o):o.length≤5:=by
 have:=h.len
 have:=hv.n5
 omega
theorem ak5(b:aj):mC b=some 0:=rfl
theorem aPm{b:aj}(hs:Small b):qS b=some (aj2 b):=by
 unfold qS aj2
 rw [My hs (own:=0) (λ _=>ak5 b),Option.bind_some]
 unfold EZ
 by_cases h1:cY b=0
 ·have hv:=r7 hs h1
  have hol:=a61 hv
  simp only [h1,ne_eq,not_true_eq_false,if_false]
  by_cases h3:bJ b=[]
  ·rw [if_pos h3,if_pos h3]; rfl
  ·rw [if_neg h3,if_neg h3]
   simp only [bne_self_eq_false,bm]
   rw [aOf hv,Option.bind_some]
   have inner:∀ o,Ord b o→qZ (dq λ (x:List Bool) (_:Unit)=>ae (decide (mT (Ia b) x > b.aB)) (some (.inr ())) (some (.inl ()):Option (Unit ⊕ Unit))) b o (.inl ())=some (ynB (L6 b o)).1:=λ o ho=>by
    have br:=aOn (aOA hv) λ x hx=>(ho.isP x hx).2
    have key:∀ l:List (List Int),(∀ g∈l,∀ x∈g,x < (b.ao.length:Int))→hF (dq λ (x:List Bool) (_:Unit)=>ae (decide (mT (Ia b) x > b.aB)) (some (.inr ())) (some (.inl ()):Option (Unit ⊕ Unit))) (l.map c7) (.inl ()) =
      some (ynB (l.all λ g=>decide (oG b g≤b.aB))):=by
     intro l
     induction l with
     | nil=>intro _; rfl
     | cons g l ih =>
      intro h
      have:=ih (λ g' L9=>h g' (by simp [L9]))
      simp only [List.map_cons,hF,dq,aOC hv (h g (by simp)),List.all_cons]
      by_cases hw:oG b g≤b.aB
      ·rw [decide_eq_true hw,show decide (oG b g > b.aB)=false by simp; omega]
       simpa [bm] using this
      ·rw [decide_eq_false hw,show decide (oG b g > b.aB)=true by simp; omega]
       rfl
    rw [alz hv (alu hv ho.isP) (by have:=ab9 hv ho; omega) _ (key _ br)]
    have e:((wS b o).all λ g=>decide (oG b g≤b.aB))=L6 b o:=by
     rw [Bool.eq_iff_iff]
     unfold L6
     simp only [List.all_eq_true,decide_eq_true_eq]
     exact (aOj _ _ _ hv.agA.1).symm
    rw [e]
   have key:∀ (l:List (List Int)) (k:Nat),k+l.length≤4000→(∀ o∈l,Ord b o)→hF (dq (O:=Empty) λ (Ru:List Int) (eP:Int)=>(yq b Ru).bind λ gP =>
     (qZ (dq λ (x:List Bool) (_:Unit)=>ae (decide (mT (Ia b) x > b.aB)) (some (.inr ())) (some (.inl ()):Option (Unit ⊕ Unit))) gP.1 gP.2 (.inl ())).bind (Sum.elim (λ _=>some (.inl (i64 (eP+1)))) λ _=>some (.inl eP))) l (.inl (k:Int))=some (.inl ((k+(l.filter (L6 b)).length:Nat):Int),true):=by
    intro l
    induction l with
    | nil=>intro k _ _; simp [hF]
    | cons o l ih =>
     intro k hk h
     simp only [List.length_cons] at hk
     simp only [hF,dq]
     rw [show yq b o=some (b,o) from rfl,Option.bind_some,inner o (h o (by simp))]
     cases ho:L6 b o with
     | true =>
      simp only [ynB,if_true,Option.bind_some,Sum.elim_inl,Option.map_some,Sum.isLeft_inl,cK (i:=k) (by omega)]
      rw [ih (k+1) (by omega) (λ o' h'=>h o' (by simp [h'])),List.filter_cons,ho]
      simp only [if_true,List.length_cons]
      congr 3
      omega
     | false =>
      simp only [ynB,Option.bind_some,Sum.elim_inr,Option.map_some,Sum.isLeft_inl,if_true]
      rw [ih k (by omega) (λ o' h'=>h o' (by simp [h'])),List.filter_cons,ho]
      rfl
   have hk:=key _ 0 (by omega) λ o ho=>alG hv ho
   rw [show ((0:Nat):Int)=0 from rfl] at hk
   rw [aN9 hv _ hk]
   simp
 ·simp only [h1,ne_eq,not_false_eq_true,if_true,ly h1,bw]
def cQ(b:aj)(t:List Int × Int × Bool)(o:List Int):List Int × Int × Bool:=if (!t.2.2 || decide (r8 b o < t.2.1))=true then (o,r8 b o,true) else t
def HK(b:aj):List Int × Int × Bool:=(Ao b).foldl (cQ b) ([],0,false)
def akc(b:aj):List Int × Int × Int:=if cY b≠0 then ([],0,cY b) else if bJ b=[] then ([],0,9) else ((HK b).1,(HK b).2.1,0)
theorem aZ6{b:aj}(hs:Small b):wc b=some (akc b):=by
 unfold wc akc
 rw [My hs (own:=0) (λ _=>ak5 b),Option.bind_some]
 unfold EZ
 by_cases h1:cY b=0
 ·have hv:=r7 hs h1
  simp only [h1,ne_eq,not_true_eq_false,if_false]
  by_cases h3:bJ b=[]
  ·rw [if_pos h3,if_pos h3]; rfl
  ·rw [if_neg h3,if_neg h3]
   simp only [bne_self_eq_false,bm]
   rw [aOf hv,Option.bind_some]
   have key:∀ (l:List (List Int)) (t:List Int × Int × Bool),(∀ o∈l,Ord b o)→hF (dq (O:=Empty) λ (E6:List Int) (gn:List Int × Int × Bool)=>(yI ⟨b,(bJ b).map mS,Ia b⟩ E6).bind λ dB=>(EX ⟨gn.1,gn.2.1,gn.2.2⟩ E6 dB).bind λ lA=>some (.inl (lA.Rt,lA.number,lA.some_))) l (.inl t)=some (.inl (l.foldl (cQ b) t),true):=by
    intro l
    induction l with
    | nil=>intro t _; rfl
    | cons o l ih =>
     intro t h
     have ho:=h o (by simp)
     have e:(EX ⟨t.1,t.2.1,t.2.2⟩ o (r8 b o)).bind (λ lA=>some ((.inl (lA.Rt,lA.number,lA.some_)):(List Int × Int × Bool) ⊕ Empty))=some (.inl (cQ b t o)):=by
      unfold EX cQ
      obtain ⟨t1,t2,t3⟩:=t
      cases t3 with
      | false=>rfl
      | true =>
       by_cases hw:r8 b o < t2
       ·simp [hw,bm,bw]
       ·simp [hw,bm]
     simp only [hF,dq,aZ7 hv ho.isP (by have:=ab9 hv ho; omega),Option.bind_some,e,Option.map_some,Sum.isLeft_inl,if_true,List.foldl_cons]
     exact ih _ (λ o' h'=>h o' (by simp [h']))
   rw [show (⟨⟨b.aB,⟨b.aa.ai,b.aa.ak⟩,b.ao,b.Out,b.aT⟩,(bJ b).map mS,Ia b⟩:di)=⟨b,(bJ b).map mS,Ia b⟩ from rfl,aN9 hv _ (key _ _ λ o ho=>alG hv ho)]
   rfl
 ·simp only [h1,ne_eq,not_false_eq_true,if_true,ly h1,bw]
theorem aNR(b:aj):∀ (l:List (List Int)) (t:List Int × Int × Bool),t.2.2=true→t.2.1=r8 b t.1→(l.foldl (cQ b) t).2.1=r8 b (l.foldl (cQ b) t).1∧((l.foldl (cQ b) t).1=t.1∨(l.foldl (cQ b) t).1∈l)∧(l.foldl (cQ b) t).2.1≤t.2.1∧∀ o∈l,(l.foldl (cQ b) t).2.1≤r8 b o
 | [],t,_,h=>⟨h,.inl rfl,Int.le_refl _,λ o ho=>by cases ho⟩
 | o::l,t,h1,h2=>by
  rw [List.foldl_cons]
  by_cases hw:r8 b o < t.2.1
  ·have e:cQ b t o=(o,r8 b o,true):=by unfold cQ; rw [h1]; simp [hw]
   obtain ⟨g1,g2,g3,g4⟩:=aNR b l (cQ b t o) (by rw [e]) (by rw [e])
   rw [e] at g1 g2 g3 g4 ⊢
   refine ⟨g1,?_,by simp only at g3; omega,λ o' eC=>?_⟩
   ·rcases g2 with h | h
    ·exact .inr (by rw [h]; simp)
    ·exact .inr (by simp [h])
   ·rcases List.mem_cons.1 eC with rfl | h
    ·exact g3
    ·exact g4 o' h
  ·have e:cQ b t o=t:=by unfold cQ; rw [h1]; simp [hw]
   obtain ⟨g1,g2,g3,g4⟩:=aNR b l t h1 h2
   rw [e]
   refine ⟨g1,?_,g3,λ o' eC=>?_⟩
   ·rcases g2 with h | h
    ·exact .inl h
    ·exact .inr (by simp [h])
   ·rcases List.mem_cons.1 eC with rfl | h
    ·omega
    ·exact g4 o' h
theorem a50(b:aj):(HK b).1∈Ao b∧(HK b).2.1=r8 b (HK b).1∧∀ o∈Ao b,(HK b).2.1≤r8 b o:=by
 unfold HK
 cases hl:Ao b with
 | nil=>exact absurd hl (a0f b)
 | cons o l =>
  rw [List.foldl_cons,show cQ b ([],0,false) o=(o,r8 b o,true) from rfl]
  obtain ⟨g1,g2,g3,g4⟩:=aNR b l (o,r8 b o,true) rfl rfl
  refine ⟨?_,g1,λ o' eC=>?_⟩
  ·rcases g2 with h | h
   ·rw [h]; simp
   ·simp [h]
  ·rcases List.mem_cons.1 eC with rfl | h
   ·exact g3
   ·exact g4 o' h
end Go.Proofs.YtabamagholjdcaaGreatDoor
namespace Go.Proofs.YtabamagholjdcaaGreatDoor
open Go.Lg Go.Proofs
set_option maxRecDepth 10000
def aYl(b:aj):Option (List Int):=(Ao b).find? (L6 b)
def aNW(b:aj):List Int × Bool × Int :=
 if cY b≠0 then ([],false,cY b) else if bJ b=[] then ([],false,9) else match aYl b with | some f=>(f,true,0) | none=>([],false,0)
theorem a7N{b:aj}(hs:Small b):yG b=some (aNW b):=by
 unfold yG aNW
 rw [My hs (own:=0) (λ _=>ak5 b),Option.bind_some]
 unfold EZ
 by_cases h1:cY b=0
 ·have hv:=r7 hs h1
  simp only [h1,ne_eq,not_true_eq_false,if_false]
  by_cases h3:bJ b=[]
  ·rw [if_pos h3,if_pos h3]; rfl
  ·rw [if_neg h3,if_neg h3]
   simp only [bne_self_eq_false,bm]
   rw [aOf hv,Option.bind_some]
   rw [show (⟨⟨b.aB,⟨b.aa.ai,b.aa.ak⟩,b.ao,b.Out,b.aT⟩,(bJ b).map mS,Ia b⟩:di)=⟨b,(bJ b).map mS,Ia b⟩ from rfl]
   have key:∀ l:List (List Int),(∀ o∈l,Ord b o)→hF (dq λ (x:List Int) (_:Unit)=>(yI ⟨b,(bJ b).map mS,Ia b⟩ x).bind λ dB=>ae (decide (dB≤b.aB)) (some (.inr x)) (some (.inl ()):Option (Unit ⊕ List Int))) l (.inl ())=some (match l.find? (L6 b) with | some f=>(.inr f,false) | none=>(.inl (),true)):=by
    intro l
    induction l with
    | nil=>intro _; rfl
    | cons o l ih =>
     intro h
     have ho:=h o (by simp)
     simp only [hF,dq,aZ7 hv ho.isP (by have:=ab9 hv ho; omega),Option.bind_some,List.find?_cons]
     rw [show decide (r8 b o≤b.aB)=L6 b o from rfl]
     cases L6 b o with
     | true=>rfl
     | false =>
      have:=ih λ o' h'=>h o' (by simp [h'])
      simpa [bm] using this
   rw [aN9 hv _ (key _ λ o ho=>alG hv ho)]
   unfold aYl
   cases (Ao b).find? (L6 b) <;> rfl
 ·simp only [h1,ne_eq,not_false_eq_true,if_true,ly h1,bw]
theorem akY{b:aj}:∀ (t u out:List Int),gx b out t=0→gx b (out++t) u=0→gx b out (t++u)=0
 | [],u,out,_,h=>by simpa using h
 | p::t,u,out,h1,h2=>by
  obtain ⟨g1,g2,g3,g4⟩:=KO.1 h1
  rw [List.cons_append]
  exact KO.2 ⟨g1,g2,g3,akY t u _ g4 (by rw [← List.append_cons]; exact h2)⟩
theorem aOc{b:aj}(hs:Small b)(hv:Valid b){l:List Int}(hl:RF l):∃ o,A6 b l=some o∧Ord b o:=by
 unfold A6
 have h5:=hv.n5
 have hos:=hs.out
 rw [mb (by simp; omega),Option.bind_some,List.nil_append]
 have key:∀ (k:Nat) (out:List Int),b.Out.length+out.length+k=b.ao.length→gx b b.Out out=0→∃ o,(bd (λ (dr:((List Int) × (List Int))) =>
   ae (decide ((dr.2.length:Int) < (b.ao.length:Int)))
   ((HX b dr.2).bind λ nQ =>
   ae ((nQ.length:Int) == 0)
   (some (.inr (.inr dr.1)))
   ((Bo l (i64 (6+(dr.1.length:Int)))).bind λ yy =>
   (q6 yy (nQ.length:Int)).bind λ pD =>
   (idx nQ pD).bind λ j5 =>
   (cV dr.1 [j5]).bind λ oJ =>
   (cV dr.2 [j5]).bind λ sf =>
   some (.inl (oJ,sf))))
   (some (.inr (.inl dr.1)):Option (((List Int) × (List Int)) ⊕ ((List Int) ⊕ (List Int))))) (out,b.Out++out))=some (.inl o)∧Ord b o:=by
  intro k
  induction k with
  | zero =>
   intro out hk OI
   refine ⟨out,gW ?_,OI,by omega⟩
   simp only [show decide (((b.Out++out).length:Int) < (b.ao.length:Int))=false by simp; omega,bm]
  | succ k ih =>
   intro out hk OI
   have aNZ:ju b (b.Out++out)≠[]:=λ hf=>by
    have e1:=H9 _ _ hv.out
    have e2:=H9 _ _ OI
    have e3:=alv hv hf
    rw [abM,List.nil_append] at e1
    omega
   have hfl:=ajN b (b.Out++out)
   have hfp:0 < (ju b (b.Out++out)).length:=List.length_pos_iff.2 aNZ
   have qR:=ak6 hl (6+out.length)
   obtain ⟨q,hq⟩:∃ q:Nat,Av l (6+out.length)=(q:Int):=⟨(Av l (6+out.length)).toNat,by omega⟩
   have Mf:q % (ju b (b.Out++out)).length < (ju b (b.Out++out)).length:=Nat.mod_lt _ hfp
   obtain ⟨i,hi,hn,hc⟩:=Sj.1 (iZ Mf)
   have aN0:gx b b.Out (out++[(i:Int)])=0:=akY _ _ _ OI (KO.2 ⟨yE.2 (by omega),abW hc,hc,rfl⟩)
   obtain ⟨o,ho,HF⟩:=ih (out++[(i:Int)]) (by simp; omega) aN0
   refine ⟨o,?_,HF⟩
   rw [← ho]
   refine si ?_
   have e1:i64 (6+(out.length:Int))=((6+out.length:Nat):Int):=by rw [dR (by omega) (by omega)]; omega
   have e2:q6 (q:Int) ((ju b (b.Out++out)).length:Int)=some ((q % (ju b (b.Out++out)).length:Nat):Int):=by
    unfold q6
    rw [if_neg (by omega),Int.ofNat_tmod]
   simp only [show decide (((b.Out++out).length:Int) < (b.ao.length:Int))=true by simp; omega,bw,aOg hs (out:=b.Out++out) (by simp; omega),Option.bind_some,ab6,show ((ju b (b.Out++out)).length == 0)=false by simp; omega,bm,e1,aJt hl,hq,e2,cj,bz Mf,hn]
   rw [mb (by simp; omega),Option.bind_some,mb (by simp; omega),Option.bind_some,List.append_assoc]
 obtain ⟨o,ho,HF⟩:=key (b.ao.length - b.Out.length) [] (by
  have e1:=H9 _ _ hv.out
  rw [abM,List.nil_append] at e1
  simp
  omega) rfl
 rw [List.append_nil] at ho
 refine ⟨o,?_,HF⟩
 rw [gp ho]
 rfl
end Go.Proofs.YtabamagholjdcaaGreatDoor
namespace Go.Proofs.YtabamagholjdcaaGreatDoor
open Go.Lg Go.Proofs
set_option maxRecDepth 10000
theorem aOs(x:Reach):yM x x=true:=by simp [yM]
end Go.Proofs.YtabamagholjdcaaGreatDoor
namespace Go.Proofs.YtabamagholjdcaaGreatDoor
open Go.Lg Go.Proofs
set_option maxRecDepth 10000
theorem aOi{b:aj}(h1:cY b=0)(h3:bJ b≠[]){o:List Int}(ho:Ord b o):abT b o=(yC ((bJ b).filter (EO b o)).length (bJ b).length,0):=by
 unfold abT
 simp only [h1,alH.2 ho,ne_eq,not_true_eq_false,if_false,if_neg h3]
end Go.Proofs.YtabamagholjdcaaGreatDoor
