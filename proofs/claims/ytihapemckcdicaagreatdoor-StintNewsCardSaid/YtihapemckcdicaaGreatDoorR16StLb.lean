/- Plain laws of chapter 5, the rest. Conditions: none. -/
import Derived.Test.YtihapemckcdicaaGreatDoorR16StL
import Derived.Test.YtihapemckcdicaaGreatDoorQFStP
namespace Go.Proofs.YtihapemckcdicaaGreatDoor
open Go.Lg Go.Proofs
set_option maxRecDepth 10000
theorem alo{b:ao}(hv:Valid b):j3 b 0=if dm b=[] then 9 else 0:=by unfold j3; simp [oz.2 hv]
theorem aBu{n:Nat}:cp n (2 ^ n - 1)=sF n:=by
 unfold cp sF
 rw [List.filter_eq_self.2 λ i hi=>abD i (List.mem_range.1 hi)]
end Go.Proofs.YtihapemckcdicaaGreatDoor
namespace Go.Proofs.YtihapemckcdicaaGreatDoor
open Go.Lg Go.Proofs
set_option maxRecDepth 10000
theorem M9{S O:Type}{body:S→Option (S ⊕ O)}(n:Nat)(I:Nat→S→Prop)(Q:O→Prop)(h:∀ i s,i < n→I i s→(∃ s',body s=some (.inl s')∧I (i+1) s')∨∃ o,body s=some (.inr o)∧Q o)(hn:∀ s,I n s→∃ o,body s=some (.inr o)∧Q o) :
  ∀ (k i:Nat) (s:S),i+k=n→I i s→∃ o,bD body s=some o∧Q o
 | 0,i,s,hi,hI=>by
  obtain rfl:i=n:=by omega
  obtain ⟨o,h1,h2⟩:=hn s hI
  exact ⟨o,vz h1,h2⟩
 | k+1,i,s,hi,hI=>by
  rcases h i s (by omega) hI with ⟨s',h1,h2⟩ | ⟨o,h1,h2⟩
  ·obtain ⟨o,h3,h4⟩:=M9 n I Q h hn k (i+1) s' (by omega) h2
   exact ⟨o,by rw [EH h1,h3],h4⟩
  ·exact ⟨o,vz h1,h2⟩
end Go.Proofs.YtihapemckcdicaaGreatDoor
namespace Go.Proofs.YtihapemckcdicaaGreatDoor
open Go.Lg Go.Proofs
set_option maxRecDepth 10000
theorem Wk{a c:List Int}(ha:a.length≤1000)(_:c.length≤1000):xr a c=some (DX a c):=by
 unfold xr DX
 refine (vO (AP a c) c.length (d:=false) (λ i hi=>?_) (by simp only [gB,bI]) rfl)
 simp only [dec_lt hi,b9,fZ,dQ hi]
 unfold AP
 by_cases h1:a.length≤i
 ·rw [show decide ((i:Int) ≥ (a.length:Int))=true by simp; omega,b9,if_pos h1]
  rfl
 ·rw [show decide ((i:Int) ≥ (a.length:Int))=false by simp; omega,bI,if_neg h1]
  simp only [dQ (show i < a.length by omega),Option.bind_some]
  by_cases h2:nth a i < nth c i
  ·rw [decide_eq_true h2,if_pos h2]; rfl
  ·rw [decide_eq_false h2,if_neg h2,bI]
   by_cases h3:nth a i > nth c i
   ·rw [decide_eq_true h3,if_pos h3]; rfl
   ·rw [decide_eq_false h3,if_neg h3,bI,fH (i:=i) (by omega)]
theorem aEb{α:Type}[Inhabited α]{a c:List α}{k:Nat}(ha:k≤a.length)(hc:k≤c.length)(h:∀ m,m < k→nth a m=nth c m):a.take k=c.take k :=
 JR (by rw [List.length_take,List.length_take]; omega) λ i hi=>by
  rw [List.length_take] at hi
  rw [vG (by omega),vG (by omega)]
  exact h i (by omega)
theorem aau{a c:List Int}(h:a.length=c.length):(DX a c=true∧J5 a c)∨(DX a c=false∧J5 c a)∨(DX a c=false∧a=c):=by
 unfold DX
 cases he:eL (AP a c) 0 c.length with
 | none =>
  rw [rI] at he
  refine .inr (.inr ⟨rfl,JR h λ i hi=>?_⟩)
  have:=he i (by omega) (by omega)
  unfold AP at this
  rw [if_neg (by omega)] at this
  split at this
  ·cases this
  ·split at this
   ·cases this
   ·omega
 | some o =>
  obtain ⟨j,_,hj,Be,hb⟩:=wB he
  have heq:∀ m,m < j→nth a m=nth c m:=λ m hm=>by
   have:=hb m (by omega) hm
   unfold AP at this
   rw [if_neg (by omega)] at this
   split at this
   ·cases this
   ·split at this
    ·cases this
    ·omega
  have ht:=aEb (a:=a) (c:=c) (k:=j) (by omega) (by omega) heq
  unfold AP at Be
  rw [if_neg (by omega)] at Be
  split at Be
  ·rename_i bE
   cases Be
   exact .inl ⟨rfl,j,by omega,by omega,ht,bE⟩
  ·split at Be
   ·rename_i hgt
    cases Be
    exact .inr (.inl ⟨rfl,j,by omega,by omega,ht.symm,hgt⟩)
   ·cases Be
theorem aAQ{a c:List Int}(h:a.length=c.length)(ha:a.length≤1000):tO a c=some (decide (a=c)):=by
 unfold tO
 rw [Wk ha (by omega),Option.bind_some]
 rcases aau h with ⟨e,hl⟩ | ⟨e,hl⟩ | ⟨e,rfl⟩
 ·rw [e]
  have:a≠c:=λ hh=>aeC a (by rw [← hh] at hl; exact hl)
  rw [decide_eq_false this]
  rfl
 ·rw [e,Bool.not_false,b9,Wk (by omega) ha,Option.bind_some]
  have eH:a≠c:=λ hh=>aeC a (by rw [← hh] at hl; exact hl)
  rw [decide_eq_false eH]
  rcases aau h.symm with ⟨e2,_⟩ | ⟨_,hl2⟩ | ⟨_,e3⟩
  ·rw [e2]; rfl
  ·exact absurd hl2 (aDe _ _ hl)
  ·exact absurd e3.symm eH
 ·rw [e,Bool.not_false,b9,Wk ha ha,e,decide_eq_true rfl]
  rfl
end Go.Proofs.YtihapemckcdicaaGreatDoor
namespace Go.Proofs.YtihapemckcdicaaGreatDoor
open Go.Lg Go.Proofs
set_option maxRecDepth 10000
def kj(d t:Int):Bool→List da→List da
 | _,[]=>[]
 | cut,r::l=>if r.cF < d then r::kj d t cut l else (if cut=false∧r.cF > d then [⟨d,t⟩] else [])++⟨r.cF,min r.dS t⟩::kj d t true l
def UP(b:ao)(d t:Int):ao:=⟨b.Rest,kj d t false b.Rows,b.aO,b.aH,b.aR,b.aN⟩
end Go.Proofs.YtihapemckcdicaaGreatDoor
namespace Go.Proofs.YtihapemckcdicaaGreatDoor
open Go.Lg Go.Proofs
set_option maxRecDepth 10000
theorem aas{l:List da}{i:Nat}(h:i < l.length):l.drop i=nth l i::l.drop (i+1):=aar h
theorem Hb{α:Type}{l:List α}(hl:l.length≤1000):(eJ [] l).bind (λ x=>some x)=some l:=by
 rw [kF (by simp; omega)]
 rfl
theorem adk{b:ao}(hs:Small b)(hr:b.Rows.length≤1000):zA b=some b:=by
 have h1:=hs.places
 have h2:=hs.qM
 have h3:=hs.DW
 have h4:=hs.Oa
 unfold zA Cd Ce Cf Cg xw
 rw [Hb hr,Hb (show b.aO.length≤1000 by omega),Hb (show b.aH.length≤1000 by omega),Hb (show b.aR.length≤1000 by omega),Hb (show b.aN.length≤1000 by omega)]
 rfl
theorem J7{α:Type}[Inhabited α]{l:List α}{eq:α→α→Bool}(hl:l.length≤1000)(he:∀ x,eq x x=true):bD (O:=(Unit ⊕ Bool)) (λ (s:Int)=>ag (decide (s < (l.length:Int))) ((idx l s).bind λ x=>(idx l s).bind λ y=>ag (!(eq x y == true)) (some (.inr (.inr false))) (some (.inl (i64 (s+1))))) (some (.inr (.inl ())))) 0=some (.inl ()):=by
 rw [ay8 (n:=l.length) (λ _=>true) false (λ i hi=>?_) (by simp only [gB,bI])]
 ·simp
 ·simp only [dec_lt hi,b9,fZ,dQ hi,Option.bind_some,he,beq_self_eq_true,Bool.not_true,bI,if_true,fH (i:=i) (by omega)]
theorem aiV(s:ByteArray):(s == s)=true:=by
 obtain ⟨d⟩:=s
 show ByteArray.beq ⟨d⟩ ⟨d⟩=true
 unfold ByteArray.beq
 simp
theorem aAZ{b:ao}(h1:b.Rows.length≤1000)(h2:b.aO.length≤1000)(h3:b.aH.length≤1000)(h4:b.aR.length≤1000)(h5:b.aN.length≤1000):xx b b=some true:=by
 unfold xx
 simp only [bne_self_eq_false,bI,Option.bind_some]
 rw [J7 h1 (λ x=>by simp [AT]),Option.bind_some,Sum.elim_inl,J7 h2 (λ x=>by simp [Hi]),Option.bind_some,Sum.elim_inl,J7 h3 (λ x=>by simp [Rc,aiV]),Option.bind_some,Sum.elim_inl,J7 h4 (λ x=>by simp [Rb]),Option.bind_some,Sum.elim_inl,J7 h5 (λ x=>by simp [Rd])]
 rfl
def qO:ao:=⟨0,[],[],[],[],[]⟩
def GJ(b:ao)(d t:Int):ao × Int:=if t > Ad b d then (qO,7) else if 4 < (kj d t false b.Rows).length then (qO,2) else (UP b d t,0)
theorem aAX{b:ao}(hv:Valid b){d t:Int}(hd:1≤d∧d≤30)(ht:1≤t∧t≤60):qL b d t=some (GJ b d t):=by
 have hr4:=hv.r4
 have hs:=hv.sm
 unfold qL GJ
 rw [zI hs,oz.2 hv,Option.bind_some]
 simp only [bne_self_eq_false,bI,qJ,iE.2 hd,iE.2 ht,Option.bind_some,Bool.not_true]
 rw [show (⟨b.Rest,b.Rows,b.aO,b.aH,b.aR,b.aN⟩:ao)=b from rfl,azn (by omega),Option.bind_some]
 by_cases bE:t > Ad b d
 ·rw [decide_eq_true bE,b9,if_pos bE]; rfl
 rw [decide_eq_false bE,bI,if_neg bE]
 have main:=M9 (O:=List da) (body:=λ (jr:((List da) × Bool × Int)) =>
 ag (decide (jr.2.2 < (b.Rows.length:Int)))
 ((idx b.Rows jr.2.2).bind λ lh =>
 (((ag (decide (lh.cF > d))
 (some (!jr.2.1))
 (some false)):Option Bool)).bind (λ (FF:Bool) =>
 (((ag FF
 ((eJ jr.1 [(⟨d,t⟩:da)]).bind λ Al =>
 some (Al,true))
 (some (jr.1,jr.2.1))):Option ((List da) × Bool))).bind (λ (xE:((List da) × Bool)) =>
 (((ag (decide (lh.cF ≥ d))
 (some (true,vE lh.dS [t]))
 (some (xE.2,lh.dS))):Option (Bool × Int))).bind (λ (vJ:(Bool × Int)) =>
 (eJ xE.1 [(⟨lh.cF,vJ.2⟩:da)]).bind λ Pe =>
 some (.inl (Pe,vJ.1,i64 (jr.2.2+1)))))))
 (some (.inr jr.1))) b.Rows.length (λ i s=>s.2.2=(i:Int)∧s.1++kj d t s.2.1 (b.Rows.drop i)=kj d t false b.Rows∧s.1.length≤2 * i) (λ o=>o=kj d t false b.Rows) (λ i s hi hI=>?_) (λ s hI=>?_) b.Rows.length 0 ([],false,0) (by omega) ⟨rfl,rfl,by simp⟩
 ·obtain ⟨o,ho,rfl⟩:=main
  rw [oq ho]
  have e:decide (((kj d t false b.Rows).length:Int) > 4)=decide (4 < (kj d t false b.Rows).length):=uN (m:=4)
  rw [e]
  by_cases h4:4 < (kj d t false b.Rows).length
  ·rw [decide_eq_true h4,b9,if_pos h4]; rfl
  ·rw [decide_eq_false h4,bI,if_neg h4,adk (b:=⟨b.Rest,kj d t false b.Rows,b.aO,b.aH,b.aR,b.aN⟩) ⟨by show (kj d t false b.Rows).length≤20; omega,hs.places,hs.qM,hs.DW,hs.Oa,hs.each⟩ (by show (kj d t false b.Rows).length≤1000; omega)]
   rfl
 ·left
  obtain ⟨acc,cut,x⟩:=s
  obtain ⟨rfl,hI,hl⟩:=hI
  simp only at hI hl
  rw [aas hi] at hI
  simp only [kj] at hI
  simp only [dec_lt hi,b9,fZ,dQ hi,Option.bind_some,fH (i:=i) (by omega)]
  by_cases h1:(nth b.Rows i).cF < d
  ·rw [if_pos h1] at hI
   rw [show decide ((nth b.Rows i).cF > d)=false by simp; omega,bI,Option.bind_some,bI,Option.bind_some,show decide ((nth b.Rows i).cF ≥ d)=false by simp; omega,bI,Option.bind_some]
   simp only
   rw [kF (by simp only [List.length_cons,List.length_nil]; omega),Option.bind_some]
   exact ⟨_,rfl,rfl,by rw [← hI]; simp,by simp only [List.length_append,List.length_cons,List.length_nil]; omega⟩
  ·rw [if_neg h1] at hI
   rw [show decide ((nth b.Rows i).cF ≥ d)=true by simp; omega]
   by_cases h2:(nth b.Rows i).cF > d
   ·rw [decide_eq_true h2,b9,Option.bind_some]
    cases cut with
    | false =>
     rw [if_pos ⟨rfl,h2⟩] at hI
     rw [Bool.not_false,b9,kF (by simp only [List.length_cons,List.length_nil]; omega)]
     simp only [Option.bind_some,b9,Fo]
     rw [kF (by simp only [List.length_append,List.length_cons,List.length_nil]; omega),Option.bind_some]
     exact ⟨_,rfl,rfl,by rw [← hI]; simp,by simp only [List.length_append,List.length_cons,List.length_nil]; omega⟩
    | true =>
     rw [if_neg (by simp)] at hI
     simp only [Bool.not_true,bI,Option.bind_some,b9,Fo]
     rw [kF (by simp only [List.length_cons,List.length_nil]; omega),Option.bind_some]
     exact ⟨_,rfl,rfl,by rw [← hI]; simp,by simp only [List.length_append,List.length_cons,List.length_nil]; omega⟩
   ·rw [if_neg (λ h=>h2 h.2)] at hI
    rw [decide_eq_false h2,bI]
    simp only [Option.bind_some,bI,b9,Fo]
    rw [kF (by simp only [List.length_cons,List.length_nil]; omega),Option.bind_some]
    exact ⟨_,rfl,rfl,by rw [← hI]; simp,by simp only [List.length_append,List.length_cons,List.length_nil]; omega⟩
 ·obtain ⟨acc,cut,x⟩:=s
  obtain ⟨rfl,hI,hl⟩:=hI
  rw [List.drop_length] at hI
  simp only [kj,List.append_nil] at hI
  exact ⟨acc,by simp only [gB,bI],hI⟩
theorem aA0{b:ao}(hr:b.Rows.length≤1000)(d t:Int):JG b d t=some (UP b d t):=by
 unfold JG
 have main:=M9 (O:=List da) (body:=λ (iw:(Bool × Int × (List da))) =>
 ag (decide (iw.2.1 < (b.Rows.length:Int)))
 ((idx b.Rows iw.2.1).bind λ jA =>
 ag (decide (jA.cF < d))
 ((eJ iw.2.2 [jA]).bind λ oA =>
 some (.inl (iw.1,i64 (iw.2.1+1),oA)))
 ((((ag (!iw.1)
 (some (decide (jA.cF > d)))
 (some false)):Option Bool)).bind (λ (FC:Bool) =>
 (((ag FC
 ((eJ iw.2.2 [(⟨d,t⟩:da)]).bind λ Kv =>
 some Kv)
 (some iw.2.2)):Option (List da))).bind (λ (FE:(List da)) =>
 (eJ FE ([(⟨jA.cF,vE jA.dS [t]⟩:da)])).bind λ Pd =>
 some (.inl (true,i64 (iw.2.1+1),Pd))))))
 (some (.inr iw.2.2))) b.Rows.length (λ i s=>s.2.1=(i:Int)∧s.2.2++kj d t s.1 (b.Rows.drop i)=kj d t false b.Rows∧s.2.2.length≤2 * i) (λ o=>o=kj d t false b.Rows) (λ i s hi hI=>?_) (λ s hI=>?_) b.Rows.length 0 (false,0,[]) (by omega) ⟨rfl,rfl,by simp⟩
 ·obtain ⟨o,ho,rfl⟩:=main
  exact (oq ho).trans rfl
 ·left
  obtain ⟨cut,x,acc⟩:=s
  obtain ⟨rfl,hI,hl⟩:=hI
  simp only at hI hl
  rw [aas hi] at hI
  simp only [kj] at hI
  simp only [dec_lt hi,b9,fZ,dQ hi,Option.bind_some,fH (i:=i) (by omega)]
  by_cases h1:(nth b.Rows i).cF < d
  ·rw [if_pos h1] at hI
   rw [decide_eq_true h1,b9,kF (by simp only [List.length_cons,List.length_nil]; omega),Option.bind_some]
   exact ⟨_,rfl,rfl,by rw [← hI]; simp,by simp only [List.length_append,List.length_cons,List.length_nil]; omega⟩
  ·rw [if_neg h1] at hI
   rw [decide_eq_false h1,bI]
   cases cut with
   | false =>
    by_cases h2:(nth b.Rows i).cF > d
    ·rw [if_pos ⟨rfl,h2⟩] at hI
     rw [Bool.not_false,b9,decide_eq_true h2,Option.bind_some,b9,kF (by simp only [List.length_cons,List.length_nil]; omega)]
     simp only [Option.bind_some,Fo]
     rw [kF (by simp only [List.length_append,List.length_cons,List.length_nil]; omega),Option.bind_some]
     exact ⟨_,rfl,rfl,by rw [← hI]; simp,by simp only [List.length_append,List.length_cons,List.length_nil]; omega⟩
    ·rw [if_neg (λ h=>h2 h.2)] at hI
     rw [Bool.not_false,b9,decide_eq_false h2,Option.bind_some,bI]
     simp only [Option.bind_some,Fo]
     rw [kF (by simp only [List.length_cons,List.length_nil]; omega),Option.bind_some]
     exact ⟨_,rfl,rfl,by rw [← hI]; simp,by simp only [List.length_append,List.length_cons,List.length_nil]; omega⟩
   | true =>
    rw [if_neg (by simp)] at hI
    simp only [Bool.not_true,bI,Option.bind_some,Fo]
    rw [kF (by simp only [List.length_cons,List.length_nil]; omega),Option.bind_some]
    exact ⟨_,rfl,rfl,by rw [← hI]; simp,by simp only [List.length_append,List.length_cons,List.length_nil]; omega⟩
 ·obtain ⟨cut,x,acc⟩:=s
  obtain ⟨rfl,hI,hl⟩:=hI
  rw [List.drop_length] at hI
  simp only [kj,List.append_nil] at hI
  exact ⟨acc,by simp only [gB,bI],hI⟩
end Go.Proofs.YtihapemckcdicaaGreatDoor
