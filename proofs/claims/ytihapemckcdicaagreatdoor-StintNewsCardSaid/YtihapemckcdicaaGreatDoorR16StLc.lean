/- Plain laws of chapter 5, with what is sorted. Conditions: none. -/
import Derived.Test.YtihapemckcdicaaGreatDoorR16StLb
import Derived.Test.YtihapemckcdicaaGreatDoorQFStC
namespace Go.Proofs.YtihapemckcdicaaGreatDoor
open Go.Lg Go.Proofs
set_option maxRecDepth 10000
def vI(n m:Nat):Bool:=match Qu n m with
 | some L=>(L.all λ l=>decide (l.length≤m) && (List.range (2 ^ n)).any λ a=>l == cp n a) && ((List.range (2 ^ n)).all λ a=>decide (m < (cp n a).length) || L.contains (cp n a)) && decide (L.length≤16) && decide L.Nodup
 | none=>false
set_option maxRecDepth 1000000 in
theorem aDu:((List.range 5).all λ n=>(List.range 5).all λ m=>vI n m)=true:=by decide +kernel
theorem azB{n m:Nat}(hn:n < 5)(hm:m < 5):∃ L,B8 (n:Int) (m:Int)=some L∧L.length≤16∧L.Nodup∧(∀ l∈L,l.length≤m∧∃ a,a < 2 ^ n∧l=cp n a)∧∀ a,a < 2 ^ n→(cp n a).length≤m→cp n a∈L:=by
 have:=aDu
 simp only [List.all_eq_true,List.mem_range] at this
 have h:=this n hn m hm
 unfold vI at h
 cases hc:Qu n m with
 | none=>rw [hc] at h; cases h
 | some L =>
  rw [hc] at h
  simp only [Bool.and_eq_true,List.all_eq_true,List.any_eq_true,List.mem_range,beq_iff_eq,decide_eq_true_eq,Bool.or_eq_true,List.contains_iff_mem] at h
  obtain ⟨⟨⟨h1,h2⟩,h3⟩,h4⟩:=h
  exact ⟨L,aym _ _ _ hc,h3,h4,λ l hl=>⟨(h1 l hl).1,(h1 l hl).2⟩,λ a ha hlen=>(h2 a ha).resolve_left (by omega)⟩
end Go.Proofs.YtihapemckcdicaaGreatDoor
namespace Go.Proofs.YtihapemckcdicaaGreatDoor
open Go.Lg Go.Proofs
set_option maxRecDepth 10000
theorem azD{n:Nat}(hn:n≤100):Jo (n:Int)=some (sF n):=by
 unfold Jo
 refine (oq (o:=sF n) ?_).trans rfl
 have e0:(([]:List Int),(0:Int))=(λ i:Nat=>(sF i,(i:Int))) 0:=rfl
 rw [e0]
 refine tL (λ i:Nat=>(sF i,(i:Int))) n (λ i hi=>?_) (by simp only [gB,bI])
 rw [dec_lt hi,b9,kF (by rw [aEp]; simp only [List.length_cons,List.length_nil]; omega),Option.bind_some,fH (by omega),aEq]
end Go.Proofs.YtihapemckcdicaaGreatDoor
namespace Go.Proofs.YtihapemckcdicaaGreatDoor
open Go.Lg Go.Proofs
set_option maxRecDepth 10000
theorem aBv(n a:Nat):(cp n a).length≤n:=by
 unfold cp
 rw [List.length_map]
 exact Nat.le_trans (List.length_filter_le _ _) (by simp)
end Go.Proofs.YtihapemckcdicaaGreatDoor
namespace Go.Proofs.YtihapemckcdicaaGreatDoor
open Go.Lg Go.Proofs
set_option maxRecDepth 10000
def yS(b:ao):List Int × Int:=if gr b≠0 then ([],gr b) else (Ha b,0)
theorem aA3{b:ao}(hs:Small b):tP b=some (yS b):=by
 unfold yS
 by_cases h:gr b=0
 ·rw [aA2 (oz.1 h),if_neg (by simpa using h)]
 ·unfold tP
  rw [zI hs,Option.bind_some,pb h,b9,if_pos h]
theorem ajq{b:ao}:(((dm b).length:Int) == 0)=!nE b:=by
 unfold nE
 cases dm b with
 | nil=>rfl
 | cons x l=>simp; omega
theorem aA9{b:ao}(hs:Small b):JH b=some (yS b):=by
 unfold JH yS
 rw [Nk hs,Option.bind_some]
 by_cases h:gr b=0
 ·have hv:=oz.1 h
  have h3:=hv.s3
  have hn:b.aN.length < 5:=by omega
  have aMx:=Nat.two_pow_pos b.aN.length
  rw [h]
  simp only [bne_self_eq_false,bI,ne_eq,not_true_eq_false,if_false,Wy hv,Option.bind_some,ajr]
  cases hc:nE b with
  | true=>rw [b9,aaa hc]
  | false =>
   obtain ⟨L,hL,h16,dL,wS,tf⟩:=azB (n:=b.aN.length) (m:=b.aN.length) hn hn
   simp only [bI,azD (n:=b.aN.length) (by omega),Option.bind_some,hL]
   have Fj:=M9 (S:=List Int × Int) (O:=List Int) (body:=λ (jw:((List Int) × Int)) =>
 ag (decide (jw.2 < (L.length:Int)))
 (((((idx L jw.2).bind λ vT =>
 (zH vT jw.1).bind λ Ku =>
 ag Ku
 ((idx L jw.2).bind λ Ga =>
 (Fb b Ga).bind λ jA =>
 (zK jA).bind λ Ak =>
 some ((Ak.length:Int) == 0))
 (some false)):Option Bool)).bind (λ (FB:Bool) =>
 ag FB
 ((idx L jw.2).bind λ Db =>
 some (.inl (Db,i64 (jw.2+1))))
 (some (.inl (jw.1,i64 (jw.2+1))))))
 (some (.inr jw.1))) L.length (λ q s=>s.2=(q:Int)∧(∃ a,a < 2 ^ b.aN.length∧sa b a=true∧s.1=cp b.aN.length a)∧∀ c,c < 2 ^ b.aN.length→cp b.aN.length c∈L.take q→sa b c=true→lq (cp b.aN.length c) s.1=false)
    (λ o=>cj b.aN.length (sa b) o) (λ q s hq hI=>?_) (λ s hI=>?_) L.length 0 (sF b.aN.length,0) (by omega) ⟨rfl,⟨2 ^ b.aN.length - 1,by omega,by
     unfold sa
     rw [adY,hc]; rfl,aBu.symm⟩,by simp⟩
   ·obtain ⟨o,ho,hLo⟩:=Fj
    rw [oq ho,hLo.uniq (aab hc)]
   ·left
    obtain ⟨Zz,x⟩:=s
    obtain ⟨rfl,⟨a,ha,hP,ea⟩,zj⟩:=hI
    simp only at ea zj
    obtain ⟨hcl,c,Mj,ec⟩:=wS _ (l8 hq)
    have et:L.take (q+1)=L.take q++[nth L q]:=by rw [List.take_add_one,dQ hq]; rfl
    have hml:=WE hn Mj
    simp only [dec_lt hq,b9,fZ,dQ hq,Option.bind_some,fH (i:=q) (by omega)]
    rw [ec] at et ⊢
    rw [ea,(adJ hn Mj ha).1,Option.bind_some,et]
    cases hf:lq (cp b.aN.length c) (cp b.aN.length a) with
    | false =>
     rw [bI,Option.bind_some,bI]
     refine ⟨_,rfl,rfl,⟨a,ha,hP,rfl⟩,λ c' oV hm ql=>?_⟩
     rw [List.mem_append,List.mem_singleton] at hm
     simp only
     rcases hm with hm | hm
     ·rw [← ea]; exact zj c' oV hm ql
     ·rw [hm]; exact hf
    | true =>
     rw [b9,aA4 (by omega) (λ k hk=>Nq hk),Option.bind_some,Wy (hv.only Mj),Option.bind_some,ajq,Option.bind_some]
     rw [show (!nE (zR b (cp b.aN.length c)))=sa b c from rfl]
     cases ql:sa b c with
     | false =>
      rw [bI]
      refine ⟨_,rfl,rfl,⟨a,ha,hP,rfl⟩,λ c' oV hm D9=>?_⟩
      rw [List.mem_append,List.mem_singleton] at hm
      simp only
      rcases hm with hm | hm
      ·rw [← ea]; exact zj c' oV hm D9
      ·exfalso
       unfold sa at ql D9
       rw [hm,ql] at D9
       cases D9
     | true =>
      rw [b9]
      refine ⟨_,rfl,rfl,⟨c,Mj,ql,rfl⟩,λ c' oV hm D9=>?_⟩
      rw [List.mem_append,List.mem_singleton] at hm
      simp only
      rcases hm with hm | hm
      ·cases hx:lq (cp b.aN.length c') (cp b.aN.length c) with
       | false=>rfl
       | true =>
        have:=zj c' oV hm D9
        rw [ea,abu hx hf] at this
        cases this
      ·rw [hm]; exact Rm _
   ·obtain ⟨Zz,x⟩:=s
    obtain ⟨rfl,hex,zj⟩:=hI
    refine ⟨Zz,by simp only [gB,bI],hex,λ c eO hP=>zj c eO ?_ hP⟩
    rw [List.take_length]
    exact tf c eO (aBv _ _)
 ·rw [pb h,b9,if_pos h]
def K9(b:ao):Int × Int × Int × Int:=if j3 b 0≠0 then (0,0,0,j3 b 0) else ((yL b).1,(yL b).2.1,(yL b).2.2,0)
theorem aA7{b:ao}(hs:Small b):tQ b=some (K9 b):=by
 unfold K9
 by_cases h:gr b=0
 ·have hv:=oz.1 h
  rw [aA6 hv,alo hv]
  by_cases hc:dm b=[]
  ·rw [if_pos hc,if_pos hc]; rfl
  ·rw [if_neg hc,if_neg hc]; rfl
 ·have he:j3 b 0=gr b:=by unfold j3; rw [if_pos h]
  unfold tQ
  rw [WA hs (own:=0) (λ _=>rfl),Option.bind_some]
  unfold Fy
  rw [he,if_pos h,if_pos h,pb h,b9]
theorem azQ{b:ao}(hv:Valid b){i j:Nat}(hi:i < b.aO.length):ES (dm b) (i:Int) (j:Int)=some (BU b (i,j)):=by
 have Rp:=LD hv
 have an0:=wx b (i,j)
 unfold ES
 rw [oq (o:=(yU b (i,j):Int)) ?_]
 ·rw [rS (by omega) (by omega),adK]
  rfl
 ·have e0:((0:Int),(0:Int))=(λ q:Nat=>(((((dm b).take q).filter λ c=>decide (nth c i≤(j:Int))).length:Int),(q:Int))) 0:=rfl
  rw [e0]
  refine tL (λ q:Nat=>(((((dm b).take q).filter λ c=>decide (nth c i≤(j:Int))).length:Int),(q:Int))) (dm b).length (λ q hq=>?_) ?_
  ·have hl:=(adL.1 (l8 hq)).1.1
   have et:(dm b).take (q+1)=(dm b).take q++[nth (dm b) q]:=by rw [List.take_add_one,dQ hq]; rfl
   have hle:(((dm b).take q).filter λ c=>decide (nth c i≤(j:Int))).length≤27:=Nat.le_trans (List.length_filter_le _ _) (by rw [List.length_take]; omega)
   simp only [dec_lt hq,b9,fZ,dQ hq,Option.bind_some,dQ (show i < (nth (dm b) q).length by omega),et,List.filter_append,List.length_append,fH (i:=q) (by omega)]
   by_cases hd:nth (nth (dm b) q) i≤(j:Int)
   ·rw [decide_eq_true hd,b9,fH (by omega)]
    simp [hd]
   ·rw [decide_eq_false hd,bI]
    simp [hd]
  ·simp only [gB,bI,List.take_length]
   rfl
theorem aBb{b:ao}(hs:Small b):JI b=some (K9 b):=by
 unfold JI K9
 rw [adE hs,Option.bind_some]
 unfold M1
 by_cases h:j3 b 0=0
 ·obtain ⟨hv,_,_⟩:=alm h
  have h3:=hv.p3
  simp only [h,ne_eq,not_true_eq_false,if_false,bne_self_eq_false,bI]
  refine (oq (o:=yL b) ?_).trans rfl
  refine acZ (w:=BU b) (inner:=λ (i:Int) (s:Int × Int × Int × Int)=>ag (decide (s.2.2.2≤30)) ((ES (dm b) i s.2.2.2).bind λ x=>ag (decide (x < s.2.2.1)) (some (.inl (i,s.2.2.2,x,i64 (s.2.2.2+1)))) (some (.inl (s.1,s.2.1,s.2.2.1,i64 (s.2.2.2+1))))) (some (.inr (s.1,s.2.1,s.2.2.1)))) h3 (λ i j s hi hj=>?_) (λ i s hi=>by rw [show decide ((31:Int)≤30)=false from rfl,bI]) (-1,-1,((dm b).length:Int))
  simp only [show decide ((j:Int)≤30)=true by simp; omega,b9]
  rw [azQ hv hi,Option.bind_some,fH (i:=j) (by omega)]
  unfold mb
  by_cases hl:BU b (i,j) < s.2.2
  ·simp only [hl,decide_true,b9,if_true]; rfl
  ·simp only [hl,decide_false,bI,if_false]
 ·simp only [h,ne_eq,not_false_eq_true,if_true,pb h,b9]
abbrev yJ(b:ao)(s:cz):ao:=yq b (b.aN++[s])
def CV(b:ao)(s:cz):ao × Int:=if gr b≠0 then (qO,gr b) else if j3 (yJ b s) 0≠0 then (qO,j3 (yJ b s) 0) else (yJ b s,0)
theorem Qa{b:ao}(hv:Valid b)(s:cz):Small (yJ b s):=by
 have hs:=hv.sm
 have h3:=hv.s3
 exact ⟨hs.rows,hs.places,hs.qM,hs.DW,by show (b.aN++[s]).length≤20; simp; omega,hs.each⟩
theorem aBd{b:ao}(hs:Small b)(s:cz):JJ b s=some (CV b s):=by
 unfold JJ CV
 rw [zI hs,Option.bind_some]
 by_cases h:gr b=0
 ·have hv:=oz.1 h
  have h3:=hv.s3
  have Ep:=Qa hv s
  have hr:=hs.rows
  rw [h]
  simp only [bne_self_eq_false,bI,ne_eq,not_true_eq_false,if_false]
  unfold xw
  rw [kF (by simp; omega)]
  simp only [Option.bind_some,List.nil_append]
  rw [kF (by simp; omega),Option.bind_some]
  rw [show (⟨b.Rest,b.Rows,b.aO,b.aH,b.aR,b.aN++[s]⟩:ao)=yJ b s from rfl,WA Ep (own:=0) (λ _=>rfl),Option.bind_some]
  unfold Fy
  by_cases he:j3 (yJ b s) 0=0
  ·rw [he]
   simp only [ne_eq,not_true_eq_false,if_false,bne_self_eq_false,bI]
   rw [adk Ep (by show b.Rows.length≤1000; omega)]
   rfl
  ·simp only [he,ne_eq,not_false_eq_true,if_true,pb he,b9]
   rfl
 ·rw [pb h,b9,if_pos h]
  rfl
theorem aBf{b:ao}(hs:Small b)(s:cz):JK b s=some (CV b s):=by
 unfold JK CV
 rw [Nk hs,Option.bind_some]
 by_cases h:gr b=0
 ·have hv:=oz.1 h
  have h3:=hv.s3
  have Ep:=Qa hv s
  rw [h]
  simp only [bne_self_eq_false,bI,ne_eq,not_true_eq_false,if_false]
  rw [aAW (by omega),Option.bind_some,adE Ep,Option.bind_some]
  unfold M1
  by_cases he:j3 (yJ b s) 0=0
  ·simp only [he,ne_eq,not_true_eq_false,if_false,bne_self_eq_false,bI]
  ·simp only [he,ne_eq,not_false_eq_true,if_true,pb he,b9]
   rfl
 ·rw [pb h,b9,if_pos h]
  rfl
def BF(b:ao)(d t:Int):ao × Int:=if gr b≠0 then (qO,gr b) else if (cD d 1 30 && cD t 1 60)=false then (qO,1) else GJ b d t
theorem aAY{b:ao}(hs:Small b)(d t:Int):qL b d t=some (BF b d t):=by
 unfold BF
 by_cases h:gr b=0
 ·rw [if_neg (by simpa using h)]
  cases h1:cD d 1 30 with
  | true =>
   cases h2:cD t 1 60 with
   | true=>rw [aAX (oz.1 h) (iE.1 h1) (iE.1 h2)]; rfl
   | false =>
    unfold qL
    rw [zI hs,Option.bind_some,h]
    simp only [bne_self_eq_false,bI,qJ,h1,h2,Option.bind_some,Bool.not_true,Bool.not_false,b9]
    rfl
  | false =>
   unfold qL
   rw [zI hs,Option.bind_some,h]
   simp only [bne_self_eq_false,bI,qJ,h1,Option.bind_some,Bool.not_false,b9]
   rfl
 ·unfold qL
  rw [zI hs,Option.bind_some,pb h,b9,if_pos h]
  rfl
theorem aBh{b:ao}(hs:Small b)(d t:Int):JL b d t=some (BF b d t):=by
 have hr:=hs.rows
 unfold BF JL
 rw [Nk hs,Option.bind_some]
 by_cases h:gr b=0
 ·rw [if_neg (by simpa using h),h]
  simp only [bne_self_eq_false,bI,pV,Option.bind_some]
  cases h1:cD d 1 30 with
  | true =>
   cases h2:cD t 1 60 with
   | true =>
    simp only [Bool.not_true,bI,Option.bind_some,azo hr,aA0 (show b.Rows.length≤1000 by omega),Bool.and_self,Bool.true_eq_false,if_false]
    unfold GJ
    by_cases bE:t > Ad b d
    ·rw [decide_eq_true bE,b9,if_pos bE]; rfl
    ·rw [decide_eq_false bE,bI,if_neg bE]
     have e:decide (((UP b d t).Rows.length:Int) > 4)=decide (4 < (kj d t false b.Rows).length):=uN (m:=4)
     rw [e]
     by_cases h4:4 < (kj d t false b.Rows).length
     ·rw [decide_eq_true h4,b9,if_pos h4]; rfl
     ·rw [decide_eq_false h4,bI,if_neg h4]
   | false=>rfl
  | false=>rfl
 ·rw [pb h,b9,if_pos h]
  rfl
theorem Ft:Small qO:=⟨by simp [qO],by simp [qO],by simp [qO],by simp [qO],by simp [qO],by simp [qO]⟩
theorem aeD{b:ao}(h:Small b):xx b b=some true:=by
 obtain ⟨h1,h2,h3,h4,h5,_⟩:=h
 exact aAZ (by omega) (by omega) (by omega) (by omega) (by omega)
theorem ayb(b:ao)(s:cz)(d t:Int):Nh b s d t=some true:=by
 unfold Nh
 rw [aAi,aDa,Option.bind_some]
 cases hg:Hn b with
 | true=>rfl
 | false =>
 have hs:=am7 hg
 rw [bI,aA3 hs,aA9 hs,aA7 hs,aBb hs,aBd hs,aBf hs,aAY hs,aBh hs]
 have e1:tO (yS b).1 (yS b).1=some true:=by
  have hl:(yS b).1.length≤1000:=by
   unfold yS
   by_cases h:gr b=0
   ·have h3:=(oz.1 h).s3
    rw [if_neg (by simpa using h)]
    cases hc:nE b with
    | true=>simp only; rw [aaa hc]; simp
    | false =>
     obtain ⟨a,ha,_,e⟩:=(aab hc).ex
     simp only
     rw [e]
     have:=WE (n:=b.aN.length) (by omega) ha
     omega
   ·rw [if_pos h]; simp
  rw [aAQ rfl hl,decide_eq_true rfl]
 have e2:xx (CV b s).1 (CV b s).1=some true:=by
  refine aeD ?_
  unfold CV
  by_cases h:gr b=0
  ·rw [if_neg (by simpa using h)]
   by_cases he:j3 (yJ b s) 0=0
   ·rw [if_neg (by simpa using he)]; exact Qa (oz.1 h) s
   ·rw [if_pos he]; exact Ft
  ·rw [if_pos h]; exact Ft
 have e3:xx (BF b d t).1 (BF b d t).1=some true:=by
  refine aeD ?_
  unfold BF
  by_cases h:gr b=0
  ·rw [if_neg (by simpa using h)]
   by_cases h2:(cD d 1 30 && cD t 1 60)=false
   ·rw [if_pos h2]; exact Ft
   ·rw [if_neg h2]
    unfold GJ
    by_cases h3:t > Ad b d
    ·rw [if_pos h3]; exact Ft
    ·rw [if_neg h3]
     by_cases h4:4 < (kj d t false b.Rows).length
     ·rw [if_pos h4]; exact Ft
     ·rw [if_neg h4]
      exact ⟨by show (kj d t false b.Rows).length≤20; omega,hs.places,hs.qM,hs.DW,hs.Oa,hs.each⟩
  ·rw [if_pos h]; exact Ft
 simp only [Option.bind_some,bne_self_eq_false,bI,e1,e2,e3,Bool.not_true,beq_self_eq_true,b9]
end Go.Proofs.YtihapemckcdicaaGreatDoor
