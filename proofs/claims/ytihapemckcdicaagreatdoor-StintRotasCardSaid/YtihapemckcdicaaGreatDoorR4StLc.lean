/- Plain laws of chapter 5, with what is sorted. Conditions: none. -/
import Derived.Test.YtihapemckcdicaaGreatDoorR4StL
import Derived.Test.YtihapemckcdicaaGreatDoorQHStC
namespace Go.Proofs.YtihapemckcdicaaGreatDoor
open Go.Lg Go.Proofs
set_option maxRecDepth 10000
def xS(n m:Nat):Bool:=match Ud n m with
 | some L=>(L.all λ l=>decide (l.length≤m) && (List.range (2 ^ n)).any λ a=>l == bB n a) && ((List.range (2 ^ n)).all λ a=>decide (m < (bB n a).length) || L.contains (bB n a)) && decide (L.length≤16) && decide L.Nodup
 | none=>false
set_option maxRecDepth 1000000 in
theorem aJc:((List.range 5).all λ n=>(List.range 5).all λ m=>xS n m)=true:=by decide +kernel
theorem aav{n m:Nat}(hn:n < 5)(hm:m < 5):∃ L,zj (n:Int) (m:Int)=some L∧L.length≤16∧L.Nodup∧(∀ l∈L,l.length≤m∧∃ a,a < 2 ^ n∧l=bB n a)∧∀ a,a < 2 ^ n→(bB n a).length≤m→bB n a∈L:=by
 have:=aJc
 simp only [List.all_eq_true,List.mem_range] at this
 have h:=this n hn m hm
 unfold xS at h
 cases hc:Ud n m with
 | none=>rw [hc] at h; cases h
 | some L =>
  rw [hc] at h
  simp only [fy,List.all_eq_true,List.any_eq_true,List.mem_range,beq_iff_eq,decide_eq_true_eq,Bool.or_eq_true,List.contains_iff_mem] at h
  obtain ⟨⟨⟨h1,h2⟩,h3⟩,h4⟩:=h
  exact ⟨L,aDu _ _ _ hc,h3,h4,λ l hl=>⟨(h1 l hl).1,(h1 l hl).2⟩,λ a ha hlen=>(h2 a ha).resolve_left (by omega)⟩
theorem aFA{b:aj}(hv:Valid b){k i:Nat}(hk:k < b.an.length)(hi:i < b.ao.length):GY b (gh b) (k:Int) (i:Int)=some (kZ b i k):=by
 have h27:=Ux hv
 unfold GY kZ
 rw [DX (l:=gh b) (λ c=>vE b c k i) false (λ q hq=>?_) (by simp only [eg,bu])]
 ·cases (gh b).all λ c=>vE b c k i <;> rfl
 ·simp only [dec_lt hq,bT,dG,cw hq,aX,aGx hv (ahV.1 (gS hq)).1.1 hk hi,dr (i:=q) (by omega)]
  cases vE b (nth (gh b) q) k i <;> rfl
theorem aEH{b:aj}(hv:Valid b){r:List (List Int)}(hl:r.length≤b.ao.length)(hr:∀ i,i < r.length→(nth r i).length≤1000):LJ b r=some ((List.range r.length).all (qt b r)):=by
 have hd:=hv.d4
 unfold LJ
 rw [Qp (n:=r.length) (qt b r) false (λ i hi=>?_) (by simp only [eg,bu])]
 ·cases (List.range r.length).all (qt b r) <;> rfl
 ·simp only [dec_lt hi,bT]
  rw [Qp (n:=i) (λ j=>lX b j i || !meet (nth r i) (nth r j)) false (λ j hj=>?_) (by simp only [eg,bu])]
  ·unfold qt
   cases (List.range i).all λ j=>lX b j i || !meet (nth r i) (nth r j) with
   | true=>simp only [if_true,aX,Sum.elim_inl,dr (i:=i) (by omega)]
   | false=>rfl
  ·simp only [dec_lt hj,bT]
   rw [DX (l:=nth r i) (λ k=>!(nth r j).contains k || lX b j i) false (λ q hq=>?_) (by simp only [dG,cw hi,aX,eg,bu])]
   ·have e:((nth r i).all λ k=>!(nth r j).contains k || lX b j i)=(lX b j i || !meet (nth r i) (nth r j)):=by
     cases ha:lX b j i with
     | true=>simp
     | false =>
      rw [Bool.eq_iff_iff,Bool.false_or,Bool.not_eq_true',ahU,List.all_eq_true]
      constructor
      ·intro h k hk Kf
       have:=h k hk
       simp [Kf] at this
      ·intro h k hk
       have:=h k hk
       simpa using this
    rw [e]
    cases (lX b j i || !meet (nth r i) (nth r j)) with
    | true=>simp only [if_true,aX,Sum.elim_inl,dr (i:=j) (by omega)]
    | false=>rfl
   ·simp only [dG,cw hi,cw (show j < r.length by omega),aX,dec_lt hq,bT,cw hq,QB (hr j (by omega)),dr (i:=q) (by have:=hr i hi; omega),aE6 hv (show i < b.ao.length by omega) (show j < b.ao.length by omega),ank b i j]
    cases (nth r j).contains (nth (nth r i) q) with
    | false=>rfl
    | true=>cases lX b j i <;> rfl
def DS(acc:List (List Int))(c:List Int):List (List Int):=acc.takeWhile (λ y=>qP y c)++c::acc.dropWhile (λ y=>qP y c)
theorem ahW{acc:List (List Int)}{c x:List Int}:x∈DS acc c↔x=c∨x∈acc:=by
 unfold DS
 rw [List.mem_append,fa]
 have h:x∈acc↔x∈acc.takeWhile (λ y=>qP y c)∨x∈acc.dropWhile (λ y=>qP y c):=by
  rw [← List.mem_append,List.takeWhile_append_dropWhile]
 rw [h]
 constructor
 ·rintro (h1 | h1 | h1)
  ·exact .inr (.inl h1)
  ·exact .inl h1
  ·exact .inr (.inr h1)
 ·rintro (h1 | h1 | h1)
  ·exact .inr (.inl h1)
  ·exact .inl h1
  ·exact .inr (.inr h1)
theorem agM{m:Nat}:∀ {acc:List (List Int)} {c:List Int},acc.Pairwise nZ→(∀ x∈acc,x.length=m)→c.length=m→c ∉ acc→(DS acc c).Pairwise nZ
 | [],c,_,_,_,_=>by simp [DS]
 | y::acc,c,hp,hm,hc,hn=>by
  rw [List.pairwise_cons] at hp
  have hy:=hm y (by simp)
  unfold DS
  cases he:qP y c with
  | true =>
   rw [List.takeWhile_cons_of_pos (by simpa using he),List.dropWhile_cons_of_pos (by simpa using he),List.cons_append,List.pairwise_cons]
   have bK:nZ y c:=by
    rcases Ol (a:=y) (c:=c) (by omega) with ⟨_,h⟩ | ⟨h,_⟩ | ⟨h,_⟩
    ·exact h
    ·rw [he] at h; cases h
    ·rw [he] at h; cases h
   refine ⟨λ x hx=>?_,agM hp.2 (λ x hx=>hm x (by simp [hx])) hc (λ h=>hn (by simp [h]))⟩
   rcases ahW.1 hx with rfl | h
   ·exact bK
   ·exact hp.1 x h
  | false =>
   rw [List.takeWhile_cons_of_neg (by simp [he]),List.dropWhile_cons_of_neg (by simp [he]),List.nil_append,List.pairwise_cons,List.pairwise_cons]
   have bK:nZ c y:=by
    rcases Ol (a:=y) (c:=c) (by omega) with ⟨h,_⟩ | ⟨_,h⟩ | ⟨_,h⟩
    ·rw [he] at h; cases h
    ·exact h
    ·exact absurd (by simp [h]) hn
   refine ⟨λ x hx=>?_,hp⟩
   rcases fa.1 hx with rfl | hx
   ·exact bK
   ·exact aIU _ _ _ bK (hp.1 x hx)
theorem abn{α:Type}{lt:α→α→Prop}(hi:∀ x,¬ lt x x)(ha:∀ x y,lt x y→¬ lt y x):∀ {l m:List α},l.Pairwise lt→m.Pairwise lt→(∀ x,x∈l↔x∈m)→l=m
 | [],[],_,_,_=>rfl
 | [],y::m,_,_,h=>absurd ((h y).2 (by simp)) (by simp)
 | x::l,[],_,_,h=>absurd ((h x).1 (by simp)) (by simp)
 | x::l,y::m,hl,hm,h=>by
  rw [List.pairwise_cons] at hl hm
  have e:x=y:=by
   rcases fa.1 ((h x).1 (by simp)) with e | h1
   ·exact e
   ·rcases fa.1 ((h y).2 (by simp)) with e | h2
    ·exact e.symm
    ·exact absurd (hl.1 y h2) (ha _ _ (hm.1 x h1))
  subst e
  congr 1
  refine abn hi ha hl.2 hm.2 λ z=>?_
  constructor
  ·intro hz
   rcases fa.1 ((h z).1 (by simp [hz])) with e | h1
   ·subst e; exact absurd (hl.1 _ hz) (hi _)
   ·exact h1
  ·intro hz
   rcases fa.1 ((h z).2 (by simp [hz])) with e | h1
   ·subst e; exact absurd (hm.1 _ hz) (hi _)
   ·exact h1
theorem aJQ{acc:List (List Int)}(p:List Int→Bool):acc.takeWhile p=acc.take (acc.takeWhile p).length∧acc.dropWhile p=acc.drop (acc.takeWhile p).length:=by
 have h:=List.takeWhile_append_dropWhile (p:=p) (l:=acc)
 generalize acc.takeWhile p=A at h ⊢
 generalize acc.dropWhile p=B at h ⊢
 subst h
 simp
theorem aK2{acc:List (List Int)}(p:List Int→Bool):(∀ i,i < (acc.takeWhile p).length→i < acc.length∧p (nth acc i)=true)∧((acc.takeWhile p).length < acc.length→p (nth acc (acc.takeWhile p).length)=false)∧(acc.takeWhile p).length≤acc.length:=by
 induction acc with
 | nil=>simp
 | cons y acc ih =>
  cases hp:p y with
  | true =>
   rw [List.takeWhile_cons_of_pos hp,List.length_cons,List.length_cons]
   refine ⟨λ i hi=>?_,λ h=>?_,by omega⟩
   ·cases i with
    | zero=>exact ⟨by omega,hp⟩
    | succ i =>
     obtain ⟨h1,h2⟩:=ih.1 i (by omega)
     exact ⟨by omega,h2⟩
   ·exact ih.2.1 (by omega)
  | false =>
   rw [List.takeWhile_cons_of_neg (by simp [hp])]
   exact ⟨λ i hi=>by simp at hi,λ _=>hp,by simp⟩
def y7(b:aj)(i:Nat)(c:List Int):Bool:=(c.length:Int) == (nth b.ao i).an && c.all λ k=>kZ b i k.toNat
theorem aFh{b:aj}(hv:Valid b){i:Nat}(hi:i < b.ao.length):LX b (gh b) (i:Int)=some (te b.an.length (nth b.ao i).an.toNat (kZ b i)):=by
 have W0:=hv.m4
 have W1:=(hv.dv hi).qm
 obtain ⟨L,hL,OP,di,nV,p8⟩:=aav (n:=b.an.length) (m:=3) (by omega) (by omega)
 unfold LX
 rw [show (3:Int)=((3:Nat):Int) from rfl,hL,aX]
 have xN:∃ o:List (List Int),bE (O:=(List (List Int))) (λ (fE:((List (List Int)) × Int)) =>
 af (decide (fE.2 < (L.length:Int)))
 ((idx L fE.2).bind λ Ng =>
 (idx b.ao (i:Int)).bind λ SN =>
 (bE (O:=Bool) (λ (oJ:(Bool × Int)) =>
 (idx L fE.2).bind λ uz =>
 af (decide (oJ.2 < (uz.length:Int)))
 (af oJ.1
 ((idx L fE.2).bind λ Nh =>
 (idx Nh oJ.2).bind λ Ni =>
 (GY b (gh b) Ni (i:Int)).bind λ SO =>
 some (.inl (SO,i64 (oJ.2+1))))
 (some (.inl (false,i64 (oJ.2+1)))))
 (some (.inr oJ.1))) ((Ng.length:Int) == SN.an,0)).bind (λ (Hw:Bool) =>
 af (!Hw)
 (some (.inl (fE.1,i64 (fE.2+1))))
 ((bE (O:=Int) (λ (mH:Int) =>
 af (decide (mH < (fE.1.length:Int)))
 ((idx fE.1 mH).bind λ Fe =>
 (idx L fE.2).bind λ Nk =>
 (tF Fe Nk).bind λ wA =>
 af wA
 (some (.inl (i64 (mH+1))))
 (some (.inr mH)))
 (some (.inr mH))) 0).bind (λ (BK:Int) =>
 (kF fE.1 0 BK).bind λ SR =>
 (eV [] SR).bind λ sT =>
 (idx L fE.2).bind λ Ff =>
 (eV sT [Ff]).bind λ SS =>
 (kF fE.1 BK (fE.1.length:Int)).bind λ An =>
 (eV SS An).bind λ Nl =>
 some (.inl (Nl,i64 (fE.2+1)))))))
 (some (.inr fE.1))) ([],0)=some o∧o.Pairwise nZ∧∀ c,c∈o↔c∈L∧y7 b i c=true:=by
  refine Qo (S:=List (List Int) × Int) (O:=List (List Int)) L.length (λ q s=>s.2=(q:Int)∧s.1.Pairwise nZ∧s.1.length≤q∧∀ c,c∈s.1↔c∈L.take q∧y7 b i c=true) (λ (o:List (List Int))=>o.Pairwise nZ∧∀ c,c∈o↔c∈L∧y7 b i c=true) (λ q s hq hI=>?_) (λ s hI=>?_) L.length 0 ([],0) (by omega) ⟨rfl,.nil,by simp,by simp⟩
  ·left
   obtain ⟨acc,x⟩:=s
   obtain ⟨rfl,tv,hlen,ix⟩:=hI
   simp only at tv hlen ix
   have hc:=nV _ (gS hq)
   have et:L.take (q+1)=L.take q++[nth L q]:=by rw [List.take_add_one,cw hq]; rfl
   have af5:nth L q ∉ L.take q:=λ h=>by
    have:=di
    rw [← List.take_append_drop (q+1) L,et,List.append_assoc,List.nodup_append] at this
    exact this.2.2 _ h _ (by simp) rfl
   simp only [dec_lt hq,bT,dG,cw hq,cw hi,aX]
   generalize hcc:nth L q=c at hc et af5
   obtain ⟨fh,a,ha,ea⟩:=hc
   have hcb:∀ k∈c,0≤k∧k < (b.an.length:Int):=λ k hk=>by rw [ea] at hk; exact Mo hk
   rw [jA (o:=y7 b i c) ?_]
   ·cases Ph:y7 b i c with
    | false =>
     rw [Bool.not_false,bT,dr (by omega)]
     refine ⟨_,rfl,rfl,tv,by simp only; omega,λ y=>?_⟩
     simp only
     rw [ix,et,List.mem_append,List.mem_singleton]
     constructor
     ·rintro ⟨h1,h2⟩; exact ⟨.inl h1,h2⟩
     ·rintro ⟨h1 | rfl,h2⟩
      ·exact ⟨h1,h2⟩
      ·rw [Ph] at h2; cases h2
    | true =>
     rw [Bool.not_true,bu]
     have Kj:∀ x∈acc,x.length=(nth b.ao i).an.toNat:=λ x hx=>by
      have:=((ix x).1 hx).2
      unfold y7 at this
      rw [fy,beq_iff_eq] at this
      omega
     have JY:c.length=(nth b.ao i).an.toNat:=by
      unfold y7 at Ph
      rw [fy,beq_iff_eq] at Ph
      omega
     obtain ⟨w1,w2,w3⟩:=aK2 (acc:=acc) (λ y=>qP y c)
     obtain ⟨t1,t2⟩:=aJQ (acc:=acc) (λ y=>qP y c)
     generalize hW:(acc.takeWhile λ y=>qP y c).length=W at w1 w2 w3 t1 t2
     rw [jA (o:=(W:Int)) ?_]
     ·rw [aek w3,aX,pU (by simp; omega),aX,List.nil_append,pU (by simp; omega),aX]
      rw [show kF acc (W:Int) (acc.length:Int)=some (acc.drop W) by simp [kF,w3],aX,pU (by simp; omega),aX,dr (by omega)]
      have er:acc.take W++[c]++acc.drop W=DS acc c:=by unfold DS; rw [t1,t2]; simp
      rw [er]
      refine ⟨_,rfl,rfl,agM tv Kj JY (λ h=>af5 ((ix c).1 h).1),?_,λ y=>?_⟩
      ·simp only
       rw [← er]
       simp
       omega
      ·simp only
       rw [ahW,ix,et,List.mem_append,List.mem_singleton]
       constructor
       ·rintro (rfl | ⟨h1,h2⟩)
        ·exact ⟨.inr rfl,Ph⟩
        ·exact ⟨.inl h1,h2⟩
       ·rintro ⟨h1 | rfl,h2⟩
        ·exact .inr ⟨h1,h2⟩
        ·exact .inl rfl
     ·have key:∀ d k,k+d=W→bE (O:=Int) (λ (mH:Int) =>
 af (decide (mH < (acc.length:Int)))
 ((idx acc mH).bind λ Fe =>
 (tF Fe c).bind λ wA =>
 af wA
 (some (.inl (i64 (mH+1))))
 (some (.inr mH)))
 (some (.inr mH))) (k:Int)=some (W:Int):=by
       intro d
       induction d with
       | zero =>
        intro k hk
        obtain rfl:k=W:=by omega
        refine vx ?_
        by_cases bK:k < acc.length
        ·rw [dec_lt bK,bT,dG,cw bK,aX,LD (by have:=Kj _ (gS bK); omega) (by omega),aX,w2 bK,bu]
        ·obtain rfl:k=acc.length:=by omega
         rw [eg,bu]
       | succ d ih =>
        intro k hk
        obtain ⟨h1,h2⟩:=w1 k (by omega)
        refine (DW (s':=((k+1:Nat):Int)) ?_).trans (ih (k+1) (by omega))
        rw [dec_lt h1,bT,dG,cw h1,aX,LD (by have:=Kj _ (gS h1); omega) (by omega),aX,h2,bT,dr (by omega)]
      exact key W 0 (by omega)
   ·unfold y7
    have e0:((c.length:Int) == (nth b.ao i).an,(0:Int))=(λ j:Nat=>((c.length:Int) == (nth b.ao i).an && (c.take j).all λ k=>kZ b i k.toNat,(j:Int))) 0:=by simp
    rw [e0]
    refine nm (λ j:Nat=>((c.length:Int) == (nth b.ao i).an && (c.take j).all λ k=>kZ b i k.toNat,(j:Int))) c.length (λ j hj=>?_) (by simp only [eg,bu,List.take_length])
    have hk:=hcb _ (gS hj)
    have e1:c.take (j+1)=c.take j++[nth c j]:=by rw [List.take_add_one,cw hj]; rfl
    simp only [dec_lt hj,bT,dr (i:=j) (by omega),e1,List.all_append,List.all_cons,List.all_nil,Bool.and_true,← Bool.and_assoc]
    have ej:idx c (j:Int)=some (nth c j):=by rw [dG]; exact cw hj
    generalize nth c j=k at hk ej
    obtain ⟨k',rfl⟩:=Int.eq_ofNat_of_zero_le hk.1
    cases ((c.length:Int) == (nth b.ao i).an && (c.take j).all λ k=>kZ b i k.toNat) with
    | true =>
     rw [bT,ej,aX,aFA hv (show k' < b.an.length by omega) hi,aX,Bool.true_and,n9]
    | false=>rw [bu,Bool.false_and]
  ·obtain ⟨acc,x⟩:=s
   obtain ⟨rfl,tv,hlen,ix⟩:=hI
   simp only at tv ix
   exact ⟨acc,by simp only [eg,bu],tv,λ c=>by rw [ix,List.take_length]⟩
 obtain ⟨o,ho,tv,ix⟩:=xN
 refine (jA ho).trans ?_
 congr 1
 refine abn HD abi tv (UC _ _ _) λ c=>?_
 rw [ix,tK]
 unfold y7
 rw [fy,beq_iff_eq,List.all_eq_true]
 constructor
 ·rintro ⟨h1,h2,h3⟩
  obtain ⟨_,a,ha,rfl⟩:=nV c h1
  exact ⟨by omega,aaG _ _,λ k hk=>⟨(Mo hk).1,(Mo hk).2,h3 k hk⟩⟩
 ·rintro ⟨h1,h2,h3⟩
  obtain ⟨a,ha,rfl⟩:=ahR h2 (λ k hk=>⟨(h3 k hk).1,(h3 k hk).2.1⟩)
  exact ⟨p8 a ha (by omega),by omega,λ k hk=>(h3 k hk).2.2⟩
def fC(b:aj)(outs:List Int):RB:={ qq b with out:=λ i=>outs.contains (i:Int) }
theorem ahT(c:List Int):meet [] c=false:=rfl
theorem aH8{b:aj}{outs:List Int}{i:Nat}{p:List (List Int)}(hp:p∈lvl (fS (fC b outs)) i):p.length=i∧∀ k,k < i→qt b p k=true∧(nth p k=[]∨nth p k∈te b.an.length (nth b.ao k).an.toNat (kZ b k)):=by
 obtain ⟨h1,h2⟩:=Es.1 hp
 refine ⟨h1,λ k hk=>?_⟩
 have h3:=h2 k hk
 unfold fS at h3
 by_cases ho:(fC b outs).out k=true
 ·rw [if_pos ho,List.mem_singleton] at h3
  refine ⟨?_,.inl h3⟩
  unfold qt
  rw [h3]
  simp [ahT]
 ·rw [if_neg ho,List.mem_filter] at h3
  refine ⟨?_,.inr h3.1⟩
  unfold qt
  rw [List.all_eq_true]
  intro j hj
  rw [List.mem_range] at hj
  have h4:=h3.2
  unfold mG at h4
  rw [List.all_eq_true] at h4
  have:=h4 j (by rw [List.mem_range,kT]; omega)
  rw [oB hj] at this
  exact this
theorem aIy{b:aj}{p:List (List Int)}(hp:∀ k,k < p.length→qt b p k=true)(c:List Int)(outs:List Int):(List.range (p++[c]).length).all (qt b (p++[c]))=mG (fC b outs) p p.length c:=by
 have e1:∀ k,k < p.length→qt b (p++[c]) k=qt b p k:=λ k hk=>by
  unfold qt
  refine all_congr λ j hj=>?_
  rw [sz hk,sz (by omega)]
 have e2:qt b (p++[c]) p.length=mG (fC b outs) p p.length c:=by
  unfold qt mG
  refine all_congr λ j hj=>?_
  rw [vI,sz hj]
  rfl
 rw [show (p++[c]).length=p.length+1 by simp,List.range_succ,List.all_append,List.all_cons,List.all_nil,Bool.and_true,e2]
 rw [show (List.range p.length).all (qt b (p++[c]))=true by
  rw [List.all_eq_true]; intro k hk; rw [List.mem_range] at hk; rw [e1 k hk]; exact hp k hk,Bool.true_and]
theorem aH6{i:Nat}(h:i≤4):16 ^ i≤65536:=by
 match i,h with
 | 0,_=>decide
 | 1,_=>decide
 | 2,_=>decide
 | 3,_=>decide
 | 4,_=>decide
theorem LM{b:aj}(hv:Valid b){outs:List Int}(ho:outs.length≤1000):xI b (gh b) outs=some (kP (fC b outs)):=by
 have W0:=hv.m4
 have hd4:=hv.d4
 have ata:∀ i,(te b.an.length (nth b.ao i).an.toNat (kZ b i)).length≤16:=λ i=>UB W0
 have Kv:∀ i p,(fS (fC b outs) i p).length≤16:=λ i p=>by
  unfold fS
  split
  ·simp
  ·exact Nat.le_trans (List.length_filter_le _ _) (UB W0)
 unfold xI
 refine (jA (o:=kP (fC b outs)) ?_).trans rfl
 have e0:(([[]]:List (List (List Int))),(0:Int))=(λ i:Nat=>(lvl (fS (fC b outs)) i,(i:Int))) 0:=rfl
 rw [e0]
 refine nm (λ i:Nat=>(lvl (fS (fC b outs)) i,(i:Int))) b.ao.length (λ i hi=>?_) (by simp only [eg,bu]; rfl)
 have hlv:(lvl (fS (fC b outs)) i).length≤65536:=Nat.le_trans (aaj Kv i) (aH6 (by omega))
 simp only [dec_lt hi,bT,aFh hv hi,QB ho,aX]
 have hC:∃ C:List (List Int),af (outs.contains (i:Int)) (some [[]]) (some (te b.an.length (nth b.ao i).an.toNat (kZ b i)))=some C∧C.length≤16∧(∀ c∈C,c.length≤1000)∧∀ p:List (List Int),p.length=i→(fS (fC b outs) i p)=C.filter (mG (fC b outs) p i):=by
  cases afX:outs.contains (i:Int) with
  | true =>
   refine ⟨[[]],rfl,by simp,by simp,λ p hp=>?_⟩
   unfold fS
   rw [show (fC b outs).out i=true from afX,if_pos rfl]
   have:mG (fC b outs) p i []=true:=by unfold mG; simp [ahT]
   simp [this]
  | false =>
   refine ⟨_,rfl,ata i,λ c hc=>?_,λ p hp=>?_⟩
   ·have:=(tK.1 hc).1
    have W1:=(hv.dv hi).qm
    omega
   ·unfold fS
    rw [show (fC b outs).out i=false from afX,if_neg (by simp)]
    rfl
 obtain ⟨C,hC1,hC2,hC3,hC4⟩:=hC
 rw [hC1,aX]
 rw [jA (o:=lvl (fS (fC b outs)) (i+1)) ?_,dr (i:=i) (by omega)]
 have q0:(([]:List (List (List Int))),(0:Int))=([],(λ j:Nat=>(j:Int)) 0):=rfl
 rw [q0,show lvl (fS (fC b outs)) (i+1)=[]++(List.range (lvl (fS (fC b outs)) i).length).flatMap (λ j=>(fS (fC b outs) i (nth (lvl (fS (fC b outs)) i) j)).map λ c=>nth (lvl (fS (fC b outs)) i) j++[c]) by rw [List.nil_append,Va (λ p=>(fS (fC b outs) i p).map λ c=>p++[c])]; rfl]
 refine Qn (λ j:Nat=>(j:Int)) (λ j=>(fS (fC b outs) i (nth (lvl (fS (fC b outs)) i) j)).map λ c=>nth (lvl (fS (fC b outs)) i) j++[c]) (lvl (fS (fC b outs)) i).length 16 [] (λ j _=>by rw [List.length_map]; exact Kv _ _) (λ j l hj hl=>?_) (λ l=>by simp only [eg,bu])
 have hpr:=aH8 (gS hj)
 have yP:(lvl (fS (fC b outs)) i)[j]? = some (nth (lvl (fS (fC b outs)) i) j):=cw hj
 simp only [dec_lt hj,bT]
 generalize nth (lvl (fS (fC b outs)) i) j=p at hpr yP
 obtain ⟨hp1,hp2⟩:=hpr
 simp only [List.length_nil,Nat.zero_add] at hl
 rw [jA (o:=l++(fS (fC b outs) i p).map λ c=>p++[c]) ?_,dr (i:=j) (by omega)]
 have q1:(l,(0:Int))=(l,(λ q:Nat=>(q:Int)) 0):=rfl
 rw [q1,hC4 p hp1,show (C.filter (mG (fC b outs) p i)).map (λ c=>p++[c])=(List.range C.length).flatMap (λ q=>if mG (fC b outs) p i (nth C q)=true then [p++[nth C q]] else []) by
  rw [Va (λ c=>if mG (fC b outs) p i c=true then [p++[c]] else []),← afs,List.map_flatMap]
  congr 1
  funext c
  split <;> rfl]
 refine Qn (λ q:Nat=>(q:Int)) (λ q=>if mG (fC b outs) p i (nth C q)=true then [p++[nth C q]] else []) C.length 1 l (λ q _=>by split <;> simp) (λ q l' hq hl'=>?_) (λ l'=>by simp only [eg,bu])
 have JU:j * 16≤65536 * 16:=Nat.mul_le_mul_right 16 (by omega)
 simp only [dec_lt hq,bT,dG,yP,cw hq,aX]
 rw [pU (by simp; omega),aX,List.nil_append,pU (by simp; omega),aX]
 rw [aEH hv (by simp; omega) (λ k hk=>by
  by_cases e:k=p.length
  ·subst e; rw [vI]; exact hC3 _ (gS hq)
  ·have Kf:k < p.length:=by simp at hk; omega
   rw [sz Kf]
   rcases (hp2 k (by omega)).2 with h | h
   ·rw [h]; simp
   ·have:=(tK.1 h).1
    have W1:=(hv.dv (i:=k) (by omega)).qm
    omega),aX,aIy (λ k hk=>(hp2 k (by omega)).1) (nth C q) outs,hp1]
 cases mG (fC b outs) p i (nth C q) with
 | true =>
  rw [bT,pU (by simp only [List.length_cons,List.length_nil]; omega),aX,dr (i:=q) (by omega)]
  rfl
 | false =>
  rw [bu,dr (i:=q) (by omega)]
  simp
theorem Rx{b:aj}(hv:Valid b):kP (fC b [])=fK b :=
 abn aIQ (λ _ _=>aIP) (aiV _) (aiV _) λ r=>by
  rw [Et,abf hv]
  exact il.same (A:=fC b []) (C:=qq b) rfl rfl (λ _ _=>rfl) (λ _ _ _ _=>rfl) (λ _ _ _ _=>⟨rfl,rfl⟩) (λ _ _=>rfl)
theorem aGa{b:aj}(hs:Small b):Ma b=some (Rw b):=by
 unfold Ma Rw
 rw [Ml hs,aX]
 unfold DU
 by_cases h:gW b 0=0
 ·obtain ⟨hv,_,_⟩:=qS h
  simp only [h,ne_eq,kV,if_false,bne_self_eq_false,bu,LM hv (outs:=[]) (by simp),aX,Rx hv]
 ·simp only [h,ne_eq,not_false_eq_true,if_true,qp h,bT]
theorem aGd{b:aj}(hs:Small b):Mb b=some (CU b):=by
 unfold Mb CU
 rw [Ml hs,aX]
 unfold DU
 by_cases h:gW b 0=0
 ·obtain ⟨hv,_,_⟩:=qS h
  simp only [h,ne_eq,kV,if_false,bne_self_eq_false,bu,LM hv (outs:=[]) (by simp),aX,Rx hv]
  cases fK b with
  | nil=>rfl
  | cons r l =>
   rw [show ((((r::l).length:Nat):Int) == 0)=false by simp; omega,bu]
   rfl
 ·simp only [h,ne_eq,not_false_eq_true,if_true,qp h,bT]
theorem adK(w:List (List Int)→Int):∀ (l:List (List (List Int))) (x y:List (List Int)),jG w x (l++[y])=if w y < w (jG w x l) then y else jG w x l
 | [],_,_=>rfl
 | _::l,_,y=>adK w l _ y
theorem aGg{b:aj}(hs:Small b):Mc b=some (CR b):=by
 unfold Mc CR
 rw [Ml hs,aX]
 unfold DU
 by_cases h:gW b 0=0
 ·obtain ⟨hv,_,_⟩:=qS h
  have hl:=MN hv (iq b) 0
  rw [show kP (eQ b (iq b) 0)=fK b from rfl] at hl
  have Bl:∀ r∈fK b,m64 b r=some (l9 b r):=λ r hr=>aGu hv (Ru hv hr).len ((Ru hv hr).rl hv)
  simp only [h,ne_eq,kV,if_false,bne_self_eq_false,bu,LM hv (outs:=[]) (by simp),aX,Rx hv]
  cases hc:fK b with
  | nil=>rfl
  | cons r l =>
   rw [hc] at hl Bl
   simp only [List.length_cons] at hl
   rw [show ((((r::l).length:Nat):Int) == 0)=false by simp; omega,bu]
   rw [show idx (r::l) 0=some r from rfl,aX]
   rw [jA (o:=jG (l9 b) r l) ?_]
   ·rw [Bl _ (I3 (l9 b) l r)]
    rfl
   ·have e0:(r,(1:Int))=(λ i:Nat=>(jG (l9 b) r (l.take i),((i+1:Nat):Int))) 0:=rfl
    rw [e0]
    refine nm (λ i:Nat=>(jG (l9 b) r (l.take i),((i+1:Nat):Int))) l.length (λ i hi=>?_) ?_
    ·have ei:idx (r::l) ((i+1:Nat):Int)=some (nth l i):=by
      rw [dG,List.getElem?_cons_succ]
      exact cw hi
     have hb:jG (l9 b) r (l.take i)∈r::l:=by
      rcases fa.1 (I3 (l9 b) (l.take i) r) with h | h
      ·rw [h]; simp
      ·exact List.mem_cons_of_mem _ (List.mem_of_mem_take h)
     have et:l.take (i+1)=l.take i++[nth l i]:=by rw [List.take_add_one,cw hi]; rfl
     simp only [dec_lt (show i+1 < (r::l).length by simp; omega),bT,ei,aX,Bl _ (List.mem_cons_of_mem _ (gS hi)),Bl _ hb,dr (i:=i+1) (by omega),et,adK]
     by_cases hw:l9 b (nth l i) < l9 b (jG (l9 b) r (l.take i))
     ·rw [wE hw,bT,if_pos hw]
     ·rw [Cf hw,bu,if_neg hw]
    ·simp only [List.length_cons,eg,bu,List.take_length]
 ·simp only [h,ne_eq,not_false_eq_true,if_true,qp h,bT]
theorem ahu{n:Nat}(hn:n≤100):GC (n:Int)=some (iP n):=by
 unfold GC
 refine (jA (o:=iP n) ?_).trans rfl
 have e0:(([]:List Int),(0:Int))=(λ i:Nat=>(iP i,(i:Int))) 0:=rfl
 rw [e0]
 refine nm (λ i:Nat=>(iP i,(i:Int))) n (λ i hi=>?_) (by simp only [eg,bu])
 rw [dec_lt hi,bT,pU (by rw [ajr]; simp only [List.length_cons,List.length_nil]; omega),aX,dr (by omega),ajt]
theorem aGM{D a i:Nat}(hi:i < D):(bB D a).contains (i:Int)=a.testBit i:=by
 rw [Bool.eq_iff_iff,List.contains_iff_mem,aaI,n9]
 exact ⟨λ h=>h.2,λ h=>⟨⟨by omega,by omega⟩,h⟩⟩
theorem abb{b:aj}(hv:Valid b){a:Nat}:decide (((kP (fC b (bB b.ao.length a))).length:Int) > 0)=AP b a:=by
 rw [Bool.eq_iff_iff,decide_eq_true_eq]
 show _↔lO b (iq b) a=true
 rw [OO]
 have e:∀ r,il (eQ b (iq b) a) r↔il (fC b (bB b.ao.length a)) r:=λ r=>by
  rw [abc hv.m4]
  exact il.same (A:={ qq b with out:=λ i=>a.testBit i }) (C:=fC b (bB b.ao.length a)) rfl rfl (λ _ _=>rfl) (λ _ _ _ _=>rfl) (λ _ _ _ _=>⟨rfl,rfl⟩) (λ i hi=>(aGM (show i < b.ao.length from hi)).symm)
 simp only [e]
 constructor
 ·intro h
  have:0 < (kP (fC b (bB b.ao.length a))).length:=by omega
  obtain ⟨r,hr⟩:=List.exists_mem_of_length_pos this
  exact ⟨r,Et.1 hr⟩
 ·rintro ⟨r,hr⟩
  have:=List.length_pos_of_mem (Et.2 hr)
  omega
theorem aGm{b:aj}(hs:Small b):Me b=some (CE b):=by
 unfold Me CE
 rw [Ml hs,aX]
 unfold DU
 by_cases h:gW b 0=0
 ·obtain ⟨hv,_,_⟩:=qS h
  have hd:=hv.d4
  have hn:b.ao.length < 5:=by omega
  have awR:=Nat.two_pow_pos b.ao.length
  obtain ⟨L,hL,OP,di,nV,p8⟩:=aav (n:=b.ao.length) (m:=b.ao.length) hn hn
  simp only [h,ne_eq,kV,if_false,bne_self_eq_false,bu,ahu (n:=b.ao.length) (by omega),aX,hL]
  have xN:=Qo (S:=List Int × Int) (O:=List Int) (body:=λ (jN:((List Int) × Int)) =>
 af (decide (jN.2 < (L.length:Int)))
 (((((idx L jN.2).bind λ Ag =>
 (vD Ag jN.1).bind λ Ah =>
 af Ah
 ((idx L jN.2).bind λ H9 =>
 (xI b (gh b) H9).bind λ Ia =>
 some (decide ((Ia.length:Int) > 0)))
 (some false)):Option Bool)).bind (λ (Hn:Bool) =>
 af Hn
 ((idx L jN.2).bind λ SI =>
 some (.inl (SI,i64 (jN.2+1))))
 (some (.inl (jN.1,i64 (jN.2+1))))))
 (some (.inr jN.1))) L.length (λ q s=>s.2=(q:Int)∧(∃ a,a < 2 ^ b.ao.length∧AP b a=true∧s.1=bB b.ao.length a)∧∀ c,c < 2 ^ b.ao.length→bB b.ao.length c∈L.take q→AP b c=true→iF (bB b.ao.length c) s.1=false)
   (λ o=>cz b.ao.length (AP b) o) (λ q s hq hI=>?_) (λ s hI=>?_) L.length 0 (iP b.ao.length,0) (by omega) ⟨rfl,⟨2 ^ b.ao.length - 1,by omega,aev hv,QG.symm⟩,by simp⟩
  ·obtain ⟨o,ho,Vu⟩:=xN
   rw [jA ho,Vu.uniq (aoH hv)]
  ·left
   obtain ⟨I2,x⟩:=s
   obtain ⟨rfl,⟨a,ha,hP,ea⟩,qc⟩:=hI
   simp only at ea qc
   obtain ⟨JY,c,hc,ec⟩:=nV _ (gS hq)
   have et:L.take (q+1)=L.take q++[nth L q]:=by rw [List.take_add_one,cw hq]; rfl
   simp only [dec_lt hq,bT,dG,cw hq,aX,dr (i:=q) (by omega)]
   rw [ec] at et ⊢
   rw [ea,(Mn hn hc ha).1,aX]
   cases hf:iF (bB b.ao.length c) (bB b.ao.length a) with
   | false =>
    rw [bu,aX,bu]
    refine ⟨_,rfl,rfl,⟨a,ha,hP,rfl⟩,λ c' lj hm pZ=>?_⟩
    rw [et,List.mem_append,List.mem_singleton] at hm
    simp only
    rcases hm with hm | hm
    ·rw [← ea]; exact qc c' lj hm pZ
    ·rw [hm]; exact hf
   | true =>
    rw [bT,LM hv (by have:=QH hn hc; omega),aX,abb hv,aX]
    cases pZ:AP b c with
    | false =>
     rw [bu]
     refine ⟨_,rfl,rfl,⟨a,ha,hP,rfl⟩,λ c' lj hm tj=>?_⟩
     rw [et,List.mem_append,List.mem_singleton] at hm
     simp only
     rcases hm with hm | hm
     ·rw [← ea]; exact qc c' lj hm tj
     ·exfalso
      have e1:=abb hv (a:=c')
      rw [hm,abb hv,pZ,tj] at e1
      cases e1
    | true =>
     rw [bT]
     refine ⟨_,rfl,rfl,⟨c,hc,pZ,rfl⟩,λ c' lj hm tj=>?_⟩
     rw [et,List.mem_append,List.mem_singleton] at hm
     simp only
     rcases hm with hm | hm
     ·cases hx:iF (bB b.ao.length c') (bB b.ao.length c) with
      | false=>rfl
      | true =>
       have:=qc c' lj hm tj
       rw [ea,U6 hx hf] at this
       cases this
     ·rw [hm]; exact Js _
  ·obtain ⟨I2,x⟩:=s
   obtain ⟨rfl,hex,qc⟩:=hI
   refine ⟨I2,by simp only [eg,bu],hex,λ c hc hP=>qc c hc ?_ hP⟩
   rw [List.take_length]
   exact p8 c hc (by
    have:=aDg (b:=b) (a:=c)
    omega)
 ·simp only [h,ne_eq,not_false_eq_true,if_true,qp h,bT]
theorem aEP{b:aj}(hv:Valid b){r:List (List Int)}(h:IG b r){S:List Int}(hS:S.length≤1000):D8 r S=some (wu S r):=by
 have hd:=hv.d4
 have hl:=h.len
 unfold D8 wu
 rw [DX (l:=r) (λ c=>c.all λ k=>S.contains k) false (λ i hi=>?_) (by simp only [eg,bu])]
 ·cases r.all λ c=>c.all λ k=>S.contains k <;> rfl
 ·have hrl:=h.rl hv i (by omega)
  simp only [dec_lt hi,bT]
  rw [DX (l:=nth r i) (λ k=>S.contains k) false (λ q hq=>?_) (by simp only [dG,cw hi,aX,eg,bu])]
  ·cases (nth r i).all λ k=>S.contains k with
   | true=>simp only [if_true,aX,Sum.elim_inl,dr (i:=i) (by omega)]
   | false=>rfl
  ·simp only [dG,cw hi,aX,dec_lt hq,bT,cw hq,QB hS,dr (i:=q) (by omega)]
   cases S.contains (nth (nth r i) q) <;> rfl
theorem UA{b:aj}(hv:Valid b){a:Nat}:uR b a=(fK b).any (wu (bB b.an.length a)):=by
 rw [Bool.eq_iff_iff,List.any_eq_true]
 show lO b (gD (bB b.an.length a)) 0=true↔_
 rw [OO]
 simp only [aiK hv.m4,abf hv]
theorem aGN(n a:Nat):(bB n a).length≤n:=by
 unfold bB
 rw [List.length_map]
 exact Nat.le_trans (List.length_filter_le _ _) (by simp)
theorem aos{b:aj}(hv:Valid b){L:List (List Int)}(_:L.length≤16){q a c:Nat}(hq:q < L.length)(ha:a < 2 ^ b.an.length)(hc:c < 2 ^ b.an.length)(e:nth L q=bB b.an.length c) :
  bE (O:=(List Int)) (λ (iN:((List Int) × Int)) =>
 af (decide (iN.2 < ((fK b).length:Int)))
 (((((idx (fK b) iN.2).bind λ sU =>
 (idx L (q:Int)).bind λ Ca =>
 (D8 sU Ca).bind λ Ig =>
 af Ig
 ((idx L (q:Int)).bind λ Fg =>
 (vD Fg iN.1).bind λ uA =>
 some uA)
 (some false)):Option Bool)).bind (λ (BL:Bool) =>
 af BL
 ((idx L (q:Int)).bind λ Ii =>
 some (.inl (Ii,i64 (iN.2+1))))
 (some (.inl (iN.1,i64 (iN.2+1))))))
 (some (.inr iN.1))) (bB b.an.length a,0)=some (if (uR b c && iF (bB b.an.length c) (bB b.an.length a))=true then bB b.an.length c else bB b.an.length a):=by
 have hm:=hv.m4
 have hn:b.an.length < 5:=by omega
 have hl:=MN hv (iq b) 0
 rw [show kP (eQ b (iq b) 0)=fK b from rfl] at hl
 have e0:(bB b.an.length a,(0:Int))=(λ k:Nat=>(if (((fK b).take k).any (wu (bB b.an.length c)) && iF (bB b.an.length c) (bB b.an.length a))=true then bB b.an.length c else bB b.an.length a,(k:Int))) 0:=by simp
 rw [e0]
 refine nm (λ k:Nat=>(if (((fK b).take k).any (wu (bB b.an.length c)) && iF (bB b.an.length c) (bB b.an.length a))=true then bB b.an.length c else bB b.an.length a,(k:Int))) (fK b).length (λ k hk=>?_) ?_
 ·have et:(fK b).take (k+1)=(fK b).take k++[nth (fK b) k]:=by rw [List.take_add_one,cw hk]; rfl
  have hp:=Ru hv (gS hk)
  have hml:=QH hn hc
  simp only [dec_lt hk,bT,dG,cw hk,cw hq,e,aX,aEP hv hp (show (bB b.an.length c).length≤1000 by omega),dr (i:=k) (by omega),et,List.any_append,List.any_cons,List.any_nil,Bool.or_false]
  have hcc:iF (bB b.an.length c) (bB b.an.length c)=false:=Js _
  cases hw:wu (bB b.an.length c) (nth (fK b) k) with
  | false=>rw [bu,aX,bu,Bool.or_false]
  | true =>
   rw [bT,Bool.or_true,Bool.true_and]
   cases hf:iF (bB b.an.length c) (bB b.an.length a) with
   | false =>
    rw [Bool.and_false,if_neg (by simp),(Mn hn hc ha).1,aX,hf,aX,bu]
   | true =>
    rw [Bool.and_true,if_pos rfl]
    by_cases hy:((fK b).take k).any (wu (bB b.an.length c))=true
    ·rw [if_pos hy,(Mn hn hc hc).1,aX,hcc,aX,bu]
    ·rw [if_neg hy,(Mn hn hc ha).1,aX,hf,aX,bT]
 ·simp only [eg,bu,List.take_length,UA hv]
theorem aGj{b:aj}(hs:Small b):Md b=some (CC b):=by
 unfold Md CC
 rw [Ml hs,aX]
 unfold DU
 by_cases h:gW b 0=0
 ·obtain ⟨hv,_,_⟩:=qS h
  have hm:=hv.m4
  have hn:b.an.length < 5:=by omega
  have awR:=Nat.two_pow_pos b.an.length
  obtain ⟨L,hL,OP,di,nV,p8⟩:=aav (n:=b.an.length) (m:=b.an.length) hn hn
  simp only [h,ne_eq,kV,if_false,bne_self_eq_false,bu,LM hv (outs:=[]) (by simp),aX,Rx hv,hL]
  by_cases hz:fK b=[]
  ·have hg:lO b (iq b) 0=false:=by
    show (!(fK b).isEmpty)=false
    rw [hz]; rfl
   rw [aot hv hg,hz]
   rfl
  ·have hg:lO b (iq b) 0=true:=by
    show (!(fK b).isEmpty)=true
    cases hc:fK b with
    | nil=>exact absurd hc hz
    | cons x l=>rfl
   obtain ⟨h2,Vu⟩:=aou hg
   have ZW:(((fK b).length:Int) == 0)=false:=by
    have:=List.length_pos_iff.2 hz
    simp; omega
   rw [ZW,bu,ahu (n:=b.an.length) (by omega),aX]
   have xN:=Qo (S:=List Int × Int) (O:=List Int) (body:=λ (lR:((List Int) × Int)) =>
 af (decide (lR.2 < (L.length:Int)))
 ((bE (O:=(List Int)) (λ (iN:((List Int) × Int)) =>
 af (decide (iN.2 < ((fK b).length:Int)))
 (((((idx (fK b) iN.2).bind λ sU =>
 (idx L lR.2).bind λ Ca =>
 (D8 sU Ca).bind λ Ig =>
 af Ig
 ((idx L lR.2).bind λ Fg =>
 (vD Fg iN.1).bind λ uA =>
 some uA)
 (some false)):Option Bool)).bind (λ (BL:Bool) =>
 af BL
 ((idx L lR.2).bind λ Ii =>
 some (.inl (Ii,i64 (iN.2+1))))
 (some (.inl (iN.1,i64 (iN.2+1))))))
 (some (.inr iN.1))) (lR.1,0)).bind (λ (Hx:(List Int)) =>
 some (.inl (Hx,i64 (lR.2+1)))))
 (some (.inr lR.1))) L.length (λ q s=>s.2=(q:Int)∧(∃ a,a < 2 ^ b.an.length∧uR b a=true∧s.1=bB b.an.length a)∧∀ c,c < 2 ^ b.an.length→bB b.an.length c∈L.take q→uR b c=true→iF (bB b.an.length c) s.1=false)
    (λ o=>cz b.an.length (uR b) o) (λ q s hq hI=>?_) (λ s hI=>?_) L.length 0 (iP b.an.length,0) (by omega) ⟨rfl,⟨2 ^ b.an.length - 1,by omega,by
     show lO b (gD (bB b.an.length (2 ^ b.an.length - 1))) 0=true
     rw [QG]; exact hg,QG.symm⟩,by simp⟩
   ·obtain ⟨o,ho,hLo⟩:=xN
    rw [jA ho,hLo.uniq Vu,h2]
   ·left
    obtain ⟨I2,x⟩:=s
    obtain ⟨rfl,⟨a,ha,hP,ea⟩,qc⟩:=hI
    simp only at ea qc
    obtain ⟨JY,c,hc,ec⟩:=nV _ (gS hq)
    have et:L.take (q+1)=L.take q++[nth L q]:=by rw [List.take_add_one,cw hq]; rfl
    simp only [dec_lt hq,bT]
    rw [ea,aos hv OP hq ha hc ec,aX,dr (i:=q) (by omega)]
    rw [ec] at et
    rw [et]
    cases pZ:uR b c with
    | false =>
     rw [Bool.false_and,if_neg (by simp)]
     refine ⟨_,rfl,rfl,⟨a,ha,hP,rfl⟩,λ c' lj hm tj=>?_⟩
     rw [List.mem_append,List.mem_singleton] at hm
     simp only
     rcases hm with hm | hm
     ·rw [← ea]; exact qc c' lj hm tj
     ·exfalso
      rw [UA hv,hm,← UA hv,pZ] at tj
      cases tj
    | true =>
     rw [Bool.true_and]
     cases hf:iF (bB b.an.length c) (bB b.an.length a) with
     | false =>
      rw [if_neg (by simp)]
      refine ⟨_,rfl,rfl,⟨a,ha,hP,rfl⟩,λ c' lj hm tj=>?_⟩
      rw [List.mem_append,List.mem_singleton] at hm
      simp only
      rcases hm with hm | hm
      ·rw [← ea]; exact qc c' lj hm tj
      ·rw [hm]; exact hf
     | true =>
      rw [if_pos rfl]
      refine ⟨_,rfl,rfl,⟨c,hc,pZ,rfl⟩,λ c' lj hm tj=>?_⟩
      rw [List.mem_append,List.mem_singleton] at hm
      simp only
      rcases hm with hm | hm
      ·cases hx:iF (bB b.an.length c') (bB b.an.length c) with
       | false=>rfl
       | true =>
        have:=qc c' lj hm tj
        rw [ea,U6 hx hf] at this
        cases this
      ·rw [hm]; exact Js _
   ·obtain ⟨I2,x⟩:=s
    obtain ⟨rfl,hex,qc⟩:=hI
    refine ⟨I2,by simp only [eg,bu],hex,λ c hc hP=>qc c hc ?_ hP⟩
    rw [List.take_length]
    exact p8 c hc (aGN _ _)
 ·simp only [h,ne_eq,not_false_eq_true,if_true,qp h,bT]
theorem ahF{r:List (List Int)}(h:r.length≤1000)(h2:∀ c∈r,c.length≤1000):sm r r=some true:=by
 unfold sm
 simp only [bne_self_eq_false,bu]
 rw [DX (l:=r) (λ _=>true) false (λ i hi=>?_) (by simp only [eg,bu])]
 ·simp
 ·simp only [dec_lt hi,bT,dG,cw hi,aX,Qz rfl (h2 _ (gS hi)),decide_true,Bool.not_true,bu,if_true,dr (i:=i) (by omega)]
theorem aiS{b:aj}(hv:Valid b){r:List (List Int)}(h:r∈fK b):sm r r=some true:=by
 have hp:=Ru hv h
 have hd:=hv.d4
 have hl:=hp.len
 refine ahF (by omega) λ c hc=>?_
 obtain ⟨i,hi,rfl⟩:=List.mem_iff_getElem.1 hc
 have e:=cw hi
 rw [oa hi,iS] at e
 rw [e]
 exact hp.rl hv i (by omega)
theorem aDj(b:aj):m4 b=some true:=by
 unfold m4
 rw [aFy,aIL,aX]
 cases hg:Jv b with
 | true=>rfl
 | false =>
 have hs:=ash hg
 rw [bu,aF9 hs,aGa hs,aGc hs,aGd hs,aGf hs,aGg hs,aGi hs,aGj hs,aGl hs,aGm hs]
 have QO:sm [] []=some true:=ahF (by simp) (by simp)
 have e1:sm (CU b).1 (CU b).1=some true:=by
  unfold CU
  by_cases h:gW b 0=0
  ·obtain ⟨hv,_,_⟩:=qS h
   rw [if_neg (by simpa using h)]
   cases hc:fK b with
   | nil=>exact QO
   | cons r l=>exact aiS hv (by rw [hc]; simp)
  ·rw [if_pos h]; exact QO
 have e2:sm (CR b).1 (CR b).1=some true:=by
  unfold CR
  by_cases h:gW b 0=0
  ·obtain ⟨hv,_,_⟩:=qS h
   rw [if_neg (by simpa using h)]
   cases hc:fK b with
   | nil=>exact QO
   | cons r l=>exact aiS hv (by rw [hc]; exact I3 _ _ _)
  ·rw [if_pos h]; exact QO
 have n27:rf [] []=some true:=by rw [Qz rfl (by simp)]; rfl
 have hsm:∀ n P,n < 5→(fM n P (2 ^ n)).1.length≤1000:=λ n P hn=>by
  cases Kx:(fM n P (2 ^ n)).2 with
  | true =>
   obtain ⟨c,hc,e⟩:=ai3 Kx
   rw [e]
   have:=QH hn hc
   omega
  | false =>
   rcases MR n P (2 ^ n) with ⟨_,h1,_⟩ | ⟨h1,_⟩
   ·rw [h1]; simp
   ·rw [h1] at Kx; cases Kx
 have e3:rf (CC b).1 (CC b).1=some true:=by
  unfold CC
  by_cases h:gW b 0=0
  ·obtain ⟨hv,_,_⟩:=qS h
   have hm:=hv.m4
   rw [if_neg (by simpa using h),Qz rfl (hsm _ _ (by omega)),wE rfl]
  ·rw [if_pos h]; exact n27
 have e4:rf (CE b).1 (CE b).1=some true:=by
  unfold CE
  by_cases h:gW b 0=0
  ·obtain ⟨hv,_,_⟩:=qS h
   have hd:=hv.d4
   rw [if_neg (by simpa using h),Qz rfl (hsm _ _ (by omega)),wE rfl]
  ·rw [if_pos h]; exact n27
 simp only [aX,bne_self_eq_false,bu,e1,e2,e3,e4,Bool.not_true,beq_self_eq_true,bT]
end Go.Proofs.YtihapemckcdicaaGreatDoor
