/- What reckon does in company; the arguments of the statements. Conditions: none. -/
import Derived.Test.YtabamagholjdcaaGreatDoorQHHuF
import Derived.Test.YtabamagholjdcaaGreatDoorQHLgD
import Derived.Test.YtabamagholjdcaaGreatDoorQHHuW
import Derived.Test.YtabamagholjdcaaGreatDoorTie
import Derived.Stop.Joined
import Derived.LaidOnce
import Derived.ProofKit
import Derived.OpenShut
namespace Go.Proofs.YtabamagholjdcaaGreatDoor
open Go.Lg Go.Proofs Go.Conc Tryz
set_option maxRecDepth 100000
set_option maxHeartbeats 4000000
section
variable {B:Base} {R:aE} {H:an}
abbrev pt(b:Nat):Value:=.pointer (some ⟨b,0,none⟩)
theorem aNa{cf cd b0 b1 b2:Nat}(k:Nat)(hk:k≤1048576)(Ck:aR R [] b0 0 [iv (k:Int)])(c6:aR R [] b1 0 [.chan (some cd)])(bD:aR R [] b2 0 [.chan (some cf)]) :
  Own prog B false (CK prog B cf cd k) R [] (bA (Frame.enter prog 148 #[pt b0,pt b1,pt b2] .deferred) [pC prog]):=by
 refine ahh (args:=[pt b0,pt b1,pt b2]) func148 rfl (n:=10) rfl rfl ?_
 refine At.seq ?_
 refine At.seq ?_
 refine At.jo (n:=2) (is:=[0,1]) rfl rfl ?_
 refine At.cQ rfl rfl rfl (Ox.bl rfl rfl aS (Ck.any.one (j:=0) rfl) rfl (.put rfl) ?_)
 refine At.cQ rfl rfl rfl (Ox.move rfl rfl rfl (.put rfl) ?_)
 refine At.eH ?_
 refine At.block ?_
 refine At.enterLoop ?_
 refine countdown (ι:=Unit) (J:=λ n _=>tK prog B false (CK prog B cf cd n)) (C:=λ n _ R' H' st=>R'=R∧H'=[]∧n≤k∧aH st [(1,pt b1),(2,pt b2),(3,iv (k:Int)),(4,iv ((k - n:Nat):Int))]) ?_ ?_ k () _ _ _ ⟨rfl,rfl,Nat.le_refl _,dT.sub ⟨rfl,rfl,rfl,by simp,trivial⟩⟩
 ·rintro _ R' H' st ⟨rfl,rfl,_,ct⟩
  refine At.sub ct ?_
  refine At.seq ?_
  refine At.jo (n:=1) (is:=[0]) rfl rfl ?_
  refine At.cQ rfl rfl rfl (Ox.cmp rfl rfl rfl rfl rfl (.put rfl) ?_)
  refine At.eH ?_
  refine At.seq ?_
  refine At.FA rfl (by simp) ?_
  refine At.exit rfl ?_
  refine At.jo (n:=2) (is:=[0,1]) rfl rfl ?_
  refine At.cQ rfl rfl rfl (Ox.bl rfl rfl Pv (bD.any.one (j:=0) rfl) rfl (.put rfl) ?_)
  exact λ tmps ht=>Own.stop _ _ _ _ (aLS rfl rfl rfl rfl rfl ht λ _=>ahw func148 rfl)
 ·rintro n ih _ R' H' st ⟨rfl,rfl,hn,ct⟩
  refine At.sub ct ?_
  refine At.seq ?_
  refine At.jo (n:=1) (is:=[0]) rfl rfl ?_
  refine At.cQ rfl rfl rfl (Ox.cmp rfl rfl rfl rfl rfl (.put rfl) ?_)
  refine At.eH ?_
  refine At.seq ?_
  refine At.FB rfl (by simp; omega) ?_
  refine At.skip ?_
  refine At.seq ?_
  refine At.block ?_
  refine At.jo (n:=2) (is:=[0,1]) rfl rfl ?_
  refine At.cQ rfl rfl rfl (Ox.bl rfl rfl Z6 (c6.any.one (j:=0) rfl) rfl (.put rfl) ?_)
  refine λ tmps ht=>Own.stop _ _ _ _ ⟨.bool false,aaJ rfl rfl rfl rfl underlying168 (λ _=>⟨by kernel_rfl,by kernel_rfl⟩) rfl ht (λ v lU zP=>?_) (λ _ _=>trivial)⟩
  refine (?_:At (tK prog B false (CK prog B cf cd n)) _ _ _ _ _) lU zP
  refine At.eH ?_
  refine At.inBlock ?_
  refine At.jo (n:=2) (is:=[0,1]) rfl rfl ?_
  refine At.cQ rfl rfl rfl (Ox.ar rfl rfl rfl rfl rfl (.put rfl) ?_)
  refine At.cQ rfl rfl rfl (Ox.move rfl rfl rfl (.put rfl) ?_)
  refine At.eH ?_
  have e:i64 (((k - (n+1):Nat):Int)+1)=((k - n:Nat):Int):=by rw [Zg (by omega)]; omega
  refine At.inLoop ?_
  exact ih () _ _ _ ⟨rfl,rfl,by omega,dT.sub ⟨rfl,rfl,rfl,congrArg (λ z=>some (iv z)) e,trivial⟩⟩
theorem ag2{α β:Type}{f:α→Option β}:∀ {xs:List α} {ys:List β},xs.mapM f=some ys→ys.length=xs.length∧∀ (i:Nat) (x:α),xs[i]? = some x→∃ y,ys[i]? = some y∧f x=some y
 | [],ys,h=>by
  simp at h; subst h
  exact ⟨rfl,λ i x hx=>by simp at hx⟩
 | a::xs,ys,h=>by
  rw [List.mapM_cons] at h
  cases ha:f a with
  | none=>rw [ha] at h; simp at h
  | some b =>
   cases hr:xs.mapM f with
   | none=>rw [ha,hr] at h; simp at h
   | some bs =>
    rw [ha,hr] at h
    simp at h
    subst h
    obtain ⟨h1,h2⟩:=ag2 hr
    refine ⟨by simp [h1],λ i x hx=>?_⟩
    cases i with
    | zero=>simp at hx; subst hx; exact ⟨b,rfl,ha⟩
    | succ i=>exact h2 i x (by simpa using hx)
theorem aJE{c:Ctx}{st ab:St}{o:Oper}{x y z:Operand}{v:Value}{m:gB}{k:List Bool}{w:Int}{Hs:an}{C:aE→an→St→Prop}(aJ:o.op = .mapUpdate 104 x y z)(hx:bg st x=some v)(hy:bg st y=some (nu k))(hz:bg st z=some (iv w))(hm:na v m Hs)(Cu:m≠mD)(hk:k.length=5)(hn:k ∉ m.map (·.1))
  (G:an→an) (hG:gF G) (hd:o.dst=none) (ct:aH st ab) (h:∀ bF,na v (m++[(k,w)]) bF→C R (G bF) ab):aM prog B c o R (G Hs) st C:=by
 rcases hm with ⟨_,h2,_⟩ | ⟨b,es,cl,rfl,rfl,h3,h4⟩
 ·exact absurd h2 Cu
 ·refine Ox.aJD aJ hx hy hz ZY h3 hk hn hG.set hd ct (h _ (.inr ⟨b,_,_,rfl,rfl,?_,?_⟩))
  ·rw [Array.toList_push]; exact rh.push rfl rfl hk h3
  ·rw [List.map_append,List.nodup_append]
   refine ⟨h4,by simp,λ a ha b hb=>?_⟩
   simp only [List.map_cons,List.map_nil,List.mem_singleton] at hb
   subst hb
   intro e; subst e; exact hn ha
def mJ(l:List (List Bool × Int))(n:Nat):List Value:=((l.take (l.length - n)).map xR).reverse
theorem aLj(l:List (List Bool × Int)):mJ l l.length=[]:=by simp [mJ]
theorem aLl{l:List (List Bool × Int)}{n:Nat}{p:List Bool × Int}(hn:n+1≤l.length)(hp:l[l.length - (n+1)]? = some p):xR p::mJ l (n+1)=mJ l n:=by
 have e:l.length - n=(l.length - (n+1))+1:=by omega
 unfold mJ
 rw [e,List.take_add_one,hp]
 simp
theorem aLk{l:List (List Bool × Int)}:(mJ l 0).length=l.length:=by simp [mJ]
theorem aLm(l:List (List Bool × Int)):(mJ l 0).Perm (l.map xR):=by
 unfold mJ
 simp only [Nat.sub_zero,List.take_length]
 exact List.reverse_perm _
theorem aKR{ck:Value→World→Prop}:zb (K2 prog B ck):=by
 intro R H x0 v3 v4 v5 v6 v7 Hs h3 h4 h5 h6 h7 r hr
 unfold wE at hr
 obtain ⟨many,axF,hr⟩:=af hr
 obtain ⟨l,hl,hr⟩:=af hr
 split at hr
 case isFalse=>cases hr
 rename_i hc
 obtain ⟨Cu,cP,We,FW,OJ⟩:=hc
 obtain rfl:=ad hr
 obtain ⟨N,rfl⟩:∃ N:Nat,many=(N:Int):=⟨many.toNat,by omega⟩
 rw [Int.toNat_natCast] at hl
 obtain ⟨hlen,sU⟩:=ag2 hl
 rw [List.length_range] at hlen
 have auN:∀ i,i < N→∃ p,l[i]? = some p∧yR x0 (i:Int)=some p:=λ i hi=>sU i i (by simp [hi])
 refine ax.aY (args:=[.agg #[iv x0.book.aB,iv x0.book.aa.ai,iv x0.book.aa.ak,v3,v4,v5,v6,v7]]) func91 rfl (n:=32) rfl rfl λ fr cs hk=>?_
 refine At.seq ?_
 refine At.jo (n:=1) (is:=[0]) rfl rfl ?_
 refine At.cQ rfl rfl rfl (Ox.adD rfl rfl rfl λ b1 _ _=>⟨_,(.put rfl),?_⟩)
 refine At.eH ?_
 refine At.seq ?_
 refine At.jo (n:=3) (is:=[0,1,2]) rfl rfl ?_
 refine At.cQ rfl rfl rfl (Ox.makeChan rfl rfl underlying167 (zW (by decide +kernel)) rfl λ cf _ _=>⟨_,(.put rfl),?_⟩)
 refine At.cQ rfl rfl rfl (Ox.alloc (cs:=#[.chan none]) rfl aNg rfl λ b2 _ _=>⟨_,(.put rfl),?_⟩)
 refine At.cQ rfl rfl rfl (Ox.dX (cs':=#[_]) rfl rfl rfl Pv rfl .here rfl rfl rfl (.refl _) ?_)
 refine At.eH ?_
 refine At.seq ?_
 refine At.jo (n:=3) (is:=[0,1,2]) rfl rfl ?_
 refine At.cQ rfl rfl rfl (Ox.makeChan rfl rfl underlying168 (zW (by decide +kernel)) rfl λ cd _ _=>⟨_,(.put rfl),?_⟩)
 refine At.cQ rfl rfl rfl (Ox.alloc (cs:=#[.chan none]) rfl aNh rfl λ b3 _ _=>⟨_,(.put rfl),?_⟩)
 refine At.cQ rfl rfl rfl (Ox.dX (cs':=#[_]) rfl rfl rfl Z6 rfl .here rfl rfl rfl (.refl _) ?_)
 refine At.eH ?_
 refine At.seq ?_
 refine At.jo (n:=8) (is:=[0,1,2,3,4,5,6,7]) rfl rfl ?_
 refine At.cQ rfl rfl rfl (Ox.fieldAddr rfl rfl aeQ rfl (.put rfl) ?_)
 refine At.cQ rfl rfl rfl (Ox.fieldAddr rfl rfl aeP rfl (.put rfl) ?_)
 refine At.cQ rfl rfl rfl (Ox.fieldAddr rfl rfl aeU rfl (.put rfl) ?_)
 refine At.cQ rfl rfl rfl (Ox.bl rfl rfl cL ((aR.box (L:=[iv x0.book.aB,iv x0.book.aa.ai,iv x0.book.aa.ak,v3,v4,v5,v6,v7]) (.tail _ (.tail _ (.tail _ (.tail _ (.head _)))))).one (j:=3) rfl) rfl (.put rfl) ?_)
 refine At.cQ rfl rfl rfl (Ox.sm (K:=bn) (k:=5) (xs:=x0.book.ao) rfl rfl h3 underlying24 rfl (.put rfl) ?_)
 refine At.cQ rfl rfl rfl (Ox.shl rfl rfl rfl axF rfl (.put rfl) ?_)
 refine At.cQ rfl rfl rfl (Ox.alloc (cs:=#[iv 0]) rfl uk rfl λ b4 _ _=>⟨_,(.put rfl),?_⟩)
 refine At.cQ rfl rfl rfl (Ox.dX (cs':=#[_]) rfl rfl rfl aS rfl .here rfl rfl rfl (.refl _) ?_)
 refine At.eH ?_
 refine At.seq ?_
 refine At.seq ?_
 refine At.jo (n:=2) (is:=[0,1]) rfl rfl ?_
 refine At.cQ rfl rfl rfl (Ox.bl rfl rfl aS ((aR.box (L:=[iv (N:Int)]) (.head _)).one (j:=0) rfl) rfl (.put rfl) ?_)
 refine At.cQ rfl rfl rfl (Ox.move rfl rfl rfl (.put rfl) ?_)
 refine At.eH ?_
 refine At.block ?_
 refine At.o1 (H2:=(b3,_)::(cd,_)::(b2,_)::(cf,_)::(b1,_)::(Hs++H)) (λ X=>X++((b3,_)::(cd,_)::(b2,_)::(cf,_)::(b1,_)::(Hs++H))) .id rfl (λ R4 hR4 cq=>?_)
 refine At.o1 (H2:=(cd,_)::(b2,_)::(cf,_)::(b1,_)::(Hs++H)) (λ X=>X++((cd,_)::(b2,_)::(cf,_)::(b1,_)::(Hs++H))) .id rfl (λ R3 hR3 bP=>?_)
 refine At.o1 (H2:=(cd,_)::(cf,_)::(b1,_)::(Hs++H)) (λ X=>(cd,_)::X++((cf,_)::(b1,_)::(Hs++H))) (.cons .id) rfl (λ R2 zu bD=>?_)
 refine At.o1 (H2:=(cd,_)::(cf,_)::(Hs++H)) (λ X=>(cd,_)::(cf,_)::X++(Hs++H)) (.cons (.cons .id)) rfl (λ Rz OC c6=>?_)
 replace cq:=((cq.up (H:=[]) hR3).up (H:=[]) zu).up (H:=[]) OC
 replace bP:=(bP.up (H:=[]) zu).up (H:=[]) OC
 replace bD:=bD.up (H:=[]) OC
 have hR:aN R Rz:=((hR4.trans hR3).trans zu).trans OC
 replace h3:=h3.mono hR
 replace h4:=h4.mono hR
 replace h5:=h5.mono hR
 replace h6:=h6.mono hR
 suffices hsw:At (tK prog B true (rk prog B cf cd (MJ prog B ck) N (mJ l N))) _ _ _ _ _ from λ tmps ht=>MJ.crowd (n:=N) (by
  have e:mJ l N=[]:=by rw [← hlen]; exact aLj l
  rw [← e]; exact hsw tmps ht)
 refine At.enterLoop ?_
 refine countdown (ι:=Unit) (J:=λ n _=>tK prog B true (rk prog B cf cd (MJ prog B ck) n (mJ l n))) (C:=λ n _ R' H' st=>aN Rz R'∧H'=Hs++H∧n≤N∧aH st [(1,pt b1),(2,pt b2),(3,pt b3),(4,pt b4),(15,iv (N:Int)),(16,iv ((N - n:Nat):Int))]) ?_ ?_ N () _ _ _ ⟨aN.refl _,rfl,Nat.le_refl _,dT.sub ⟨rfl,rfl,rfl,rfl,rfl,by simp,trivial⟩⟩
 ·rintro _ R' H' st ⟨sK,rfl,_,ct⟩
  replace c6:=c6.up (H:=[]) sK
  replace bD:=bD.up (H:=[]) sK
  replace bP:=bP.up (H:=[]) sK
  replace cq:=cq.up (H:=[]) sK
  refine At.sub ct ?_
  refine At.seq ?_
  refine At.jo (n:=1) (is:=[0]) rfl rfl ?_
  refine At.cQ rfl rfl rfl (Ox.cmp rfl rfl rfl rfl rfl (.put rfl) ?_)
  refine At.eH ?_
  refine At.seq ?_
  refine At.FA rfl (by simp) ?_
  refine At.exit rfl ?_
  refine At.seq ?_
  refine At.jo (n:=2) (is:=[0,1]) rfl rfl ?_
  refine At.cQ rfl rfl rfl (Ox.makeFunc (vs:=#[]) (us:=#[_,_,_]) rfl rfl rfl rfl (.put rfl) ?_)
  refine λ tmps ht=>Own.stop _ _ _ _ ⟨rfl,λ w hw=>⟨_,_,ahX (d:=⟨.fn (.func 148) #[pt b4,pt b3,pt b2],#[]⟩) rfl rfl rfl ht (ahz rfl rfl rfl) rfl,?_,?_⟩⟩
  ·rw [aLk,hlen]
   exact Own.child rfl (ah6 apE) (aNa N (by omega) cq bP bD)
  ·refine (?_:At (tK prog B true (m9 prog B cf (MJ prog B ck) (mJ l 0).length (mJ l 0))) _ _ _ _ _) _ (ht.put undef rfl)
   refine At.eH ?_
   refine At.seq ?_
   refine At.jo (n:=1) (is:=[0]) rfl rfl ?_
   refine At.cQ rfl rfl rfl (Ox.bl rfl rfl Pv (bD.any.one (j:=0) rfl) rfl (.put rfl) ?_)
   refine At.eH ?_
   refine At.block ?_
   refine At.enterLoop ?_
   refine countdown (ι:=List Value) (J:=λ n rem=>tK prog B true (m9 prog B cf (MJ prog B ck) n rem)) (C:=λ n rem R2 H2 st=>∃ (m td:gB) (bF:an),aN R' R2∧rem.Perm (td.map xR)∧(m++td).Perm l∧na v7 m bF∧H2=bF++H∧n=rem.length∧aH st [(1,pt b1),(22,.chan (some cf))]) ?_ ?_ _ _ _ _ _ ⟨[],l,Hs,aN.refl _,aLm l,by simp,Cu ▸ h7,rfl,rfl,dT.sub ⟨rfl,rfl,trivial⟩⟩
   ·rintro rem R2 H2 st ⟨m,td,bF,zu,JN,rD,hm,rfl,hn,ct⟩
    refine At.sub ct ?_
    refine At.seq ?_
    refine At.jo (n:=2) (is:=[0,1]) rfl rfl ?_
    refine λ tmps ht=>Own.stop _ _ _ _ ⟨.agg #[.bool false,.bool false,.bool false,.bool false,.bool false,.int .i64 0],aaJ rfl rfl rfl rfl underlying167 (λ _=>⟨by kernel_rfl,by kernel_rfl⟩) rfl ht (λ _ _ _=>trivial) λ lU zP=>?_⟩
    refine (?_:At (K2 prog B ck) _ _ _ _ _) lU zP
    refine At.cQ rfl rfl rfl (Ox.extract rfl rfl rfl rfl (.put rfl) ?_)
    refine At.eH ?_
    refine At.seq ?_
    refine At.FA rfl rfl ?_
    refine At.exit rfl ?_
    refine At.FI (H2:=H) (λ X=>X++H) .id rfl hm (λ R6 hR6 hm6=>?_)
    refine At.qe func91 .nil (hk _ _ _ ⟨[],⟨((hR.trans sK).trans zu).trans hR6,?_,rfl,rfl⟩,rfl⟩)
    have OY:td=[]:=by
     have h1:=JN.length_eq
     rw [← hn,List.length_map] at h1
     exact List.length_eq_zero_iff.1 h1.symm
    subst OY
    rw [List.append_nil] at rD
    rcases hm6 with ⟨e1,e2⟩ | ⟨b,es,cl,m',e1,e2,e3,e4,e5⟩
    ·exfalso
     rw [e2] at rD
     have:=We ([],0) (rD.mem_iff.1 (by simp [mD]))
     cases this
    ·exact .inr ⟨b,es,cl,m',e1,e2,e3,e4,e5.trans rD⟩
   ·rintro n ih rem R2 H2 st ⟨m,td,bF,zu,JN,rD,hm,rfl,hn,ct⟩
    refine At.sub ct ?_
    refine At.seq ?_
    refine At.jo (n:=2) (is:=[0,1]) rfl rfl ?_
    refine λ tmps ht=>Own.stop _ _ _ _ ⟨.agg #[.bool false,.bool false,.bool false,.bool false,.bool false,.int .i64 0],aaJ rfl rfl rfl rfl underlying167 (λ _=>⟨by kernel_rfl,by kernel_rfl⟩) rfl ht (λ v lU zP rest WK=>?_) λ _ _=>trivial⟩
    obtain ⟨p,hp,rfl⟩:=List.mem_map.1 (JN.mem_iff.1 (WK.mem_iff.2 (List.mem_cons_self)))
    have OY:td.Perm (p::td.erase p):=List.perm_cons_erase hp
    have azh:rest.Perm ((td.erase p).map xR):=by
     have:=WK.symm.trans (JN.trans (OY.map xR))
     simpa using this
    have ES:p∈l:=rD.mem_iff.1 (List.mem_append.2 (.inr hp))
    have axI:((m++[p])++td.erase p).Perm l:=by
     rw [List.append_assoc]
     exact (List.Perm.append_left m OY.symm).trans rD
    have axJ:p.1 ∉ m.map (·.1):=by
     have h1:((m++td).map (·.1)).Nodup:=(rD.map _).nodup_iff.2 cP
     rw [List.map_append,List.nodup_append] at h1
     intro hx
     exact h1.2.2 _ hx _ (List.mem_map.2 ⟨p,hp,rfl⟩) rfl
    have hmn:m≠mD:=by
     intro e
     have:=We ([],0) (rD.mem_iff.1 (by rw [e]; simp [mD]))
     cases this
    have Wy:=We p ES
    obtain ⟨g,LD⟩:=p
    obtain ⟨a0,a1,a2,a3,a4,rfl⟩:=B5 Wy
    replace c6:=c6.up (H:=[]) zu
    refine (?_:At (tK prog B true (m9 prog B cf (MJ prog B ck) n rest)) _ _ _ _ _) lU zP
    refine At.cQ rfl rfl rfl (Ox.extract rfl rfl rfl rfl (.put rfl) ?_)
    refine At.eH ?_
    refine At.seq ?_
    refine At.FB rfl rfl ?_
    refine At.skip ?_
    refine At.block ?_
    refine At.seq ?_
    refine At.jo (n:=3) (is:=[0,1,2]) rfl rfl ?_
    refine At.cQ rfl rfl rfl (Ox.extract rfl rfl rfl rfl (.put rfl) ?_)
    refine At.cQ rfl rfl rfl (Ox.alloc (cs:=#[.bool false,.bool false,.bool false,.bool false,.bool false,.int .i64 0]) rfl aNi rfl λ b6 _ _=>⟨_,(.put rfl),?_⟩)
    refine At.cQ rfl rfl rfl (Ox.da (cs':=#[_,_,_,_,_,_]) rfl rfl rfl aop rfl (bc rfl (bc rfl (bc rfl (bc rfl (bc rfl (bc rfl bu)))))) .here rfl rfl rfl (.refl _) ?_)
    refine At.eH ?_
    refine At.jo (n:=7) (is:=[0,1,2,3,4,5,6]) rfl rfl ?_
    refine At.cQ rfl rfl rfl (Ox.fieldAddr rfl rfl aeR rfl (.put rfl) ?_)
    refine At.cQ rfl rfl rfl (Ox.bl rfl rfl Z4 (c6.any.one (j:=7) rfl) rfl (.put rfl) ?_)
    refine At.cQ rfl rfl rfl (Ox.fieldAddr rfl rfl aeS rfl (.put rfl) ?_)
    refine At.cQ rfl rfl rfl (Ox.bL (vs:=[_,_,_,_,_]) rfl rfl dC rfl ((aR.box (L:=[.bool a0,.bool a1,.bool a2,.bool a3,.bool a4,iv LD]) (.head _)).part (j:=0) (n:=5) rfl) rfl (.put rfl) ?_)
    refine At.cQ rfl rfl rfl (Ox.fieldAddr rfl rfl aeT rfl (.put rfl) ?_)
    refine At.cQ rfl rfl rfl (Ox.bl rfl rfl aS ((aR.box (L:=[.bool a0,.bool a1,.bool a2,.bool a3,.bool a4,iv LD]) (.head _)).one (j:=5) rfl) rfl (.put rfl) ?_)
    refine At.cQ rfl rfl rfl (aJE (k:=[a0,a1,a2,a3,a4]) (w:=LD) rfl rfl rfl rfl hm hmn rfl axJ (λ X=>(b6,_)::X++H) (.cons .id) rfl (.refl _) λ Hs2 Me=>?_)
    refine At.eH ?_
    refine At.inBlock ?_
    refine At.inLoop ?_
    refine At.drop (List.Sublist.cons _ (List.Sublist.refl _)) ?_
    refine ih rest _ _ _ ⟨m++[([a0,a1,a2,a3,a4],LD)],td.erase ([a0,a1,a2,a3,a4],LD),Hs2,zu,azh,axI,Me,rfl,?_,dT.sub ⟨rfl,rfl,trivial⟩⟩
    have:=WK.length_eq
    simp only [List.length_cons] at this
    omega
 ·rintro n ih _ R' H' st ⟨sK,rfl,hn,ct⟩
  have hi:N - (n+1) < N:=by omega
  obtain ⟨p,hp,hmp⟩:=auN _ hi
  refine At.sub ct ?_
  refine At.seq ?_
  refine At.jo (n:=1) (is:=[0]) rfl rfl ?_
  refine At.cQ rfl rfl rfl (Ox.cmp rfl rfl rfl rfl rfl (.put rfl) ?_)
  refine At.eH ?_
  refine At.seq ?_
  refine At.FB rfl (by simp; omega) ?_
  refine At.skip ?_
  refine At.seq ?_
  refine At.block ?_
  refine At.seq ?_
  refine At.jo (n:=3) (is:=[0,1,2]) rfl rfl ?_
  refine At.cQ rfl rfl rfl (Ox.move rfl rfl rfl (.put rfl) ?_)
  refine At.cQ rfl rfl rfl (Ox.alloc (cs:=#[iv 0]) rfl uk rfl λ b5 _ _=>⟨_,(.put rfl),?_⟩)
  refine At.cQ rfl rfl rfl (Ox.dX (cs':=#[_]) rfl rfl rfl aS rfl .here rfl rfl rfl (.refl _) ?_)
  refine At.eH ?_
  refine At.o1 (H2:=Hs++H) (λ X=>X++(Hs++H)) .id rfl (λ R5 hR5 hc5=>?_)
  have zx:aN Rz R5:=sK.trans hR5
  refine At.jo (n:=2) (is:=[0,1]) rfl rfl ?_
  refine At.cQ rfl rfl rfl (Ox.makeFunc (vs:=#[]) (us:=#[_,_,_,_]) rfl rfl rfl rfl (.put rfl) ?_)
  refine λ tmps ht=>Own.stop _ _ _ _ ⟨rfl,λ w hw=>⟨_,_,xR p,ahX (d:=⟨.fn (.func 147) #[pt b1,pt b5,pt b2,pt b3],#[]⟩) rfl rfl rfl ht (ahz rfl rfl rfl) rfl,?_,?_⟩⟩
  ·exact Own.child rfl (ah6 apD) (aM9 x0 ((N - (n+1):Nat):Int) (c6.up (H:=[]) zx) (h3.mono zx) (h4.mono zx) (h5.mono zx) (h6.mono zx) hc5 (bD.up (H:=[]) zx) (bP.up (H:=[]) zx) hmp)
  ·have JO:xR p::mJ l (n+1)=mJ l n:=aLl (by omega) (by rw [hlen]; exact hp)
   rw [JO]
   refine (?_:At (tK prog B true (rk prog B cf cd (MJ prog B ck) n (mJ l n))) _ _ _ _ _) _ (ht.put undef rfl)
   refine At.eH ?_
   refine At.inBlock ?_
   refine At.jo (n:=2) (is:=[0,1]) rfl rfl ?_
   refine At.cQ rfl rfl rfl (Ox.ar rfl rfl rfl rfl rfl (.put rfl) ?_)
   refine At.cQ rfl rfl rfl (Ox.move rfl rfl rfl (.put rfl) ?_)
   refine At.eH ?_
   refine At.inLoop ?_
   have e:i64 (((N - (n+1):Nat):Int)+1)=((N - n:Nat):Int):=by rw [Zg (by omega)]; omega
   exact ih () _ _ _ ⟨zx,rfl,by omega,dT.sub ⟨rfl,rfl,rfl,rfl,rfl,congrArg (λ z=>some (iv z)) e,trivial⟩⟩
end
end Go.Proofs.YtabamagholjdcaaGreatDoor
namespace Go.Proofs.YtabamagholjdcaaGreatDoor
open Go.Lg Go.Proofs Go.ChangeShapes Go.WideShapes Go.ChangeAt Go.RowKit Go.Conc Tryz
set_option maxRecDepth 100000
theorem GO:fO prog 3 (CI .i64) 1:=fO.int (by kernel_rfl) underlying3
theorem aKN:fO prog 45 (CI .i64) 1:=fO.int (by kernel_rfl) underlying45
theorem aKQ:fO prog 9 CS 1:=fO.str (by kernel_rfl) underlying9
theorem aan:fO prog 25 (m7 (CI .i64) 1) 1:=fO.slice (by kernel_rfl) underlying25 (by decide) GO
theorem aam:fO prog 23 acz 2:=⟨by kernel_rfl,λ W T enc sp held fuel cs x h=>by
 obtain ⟨xs,n,_,_,hl,hx,hf⟩:=DataW.trod_struct underlying23 h
 have hc:cs.length=2:=hl.trans (by kernel_rfl)
 match cs,hc with
 | [c0,c1],_ =>
  obtain ⟨a0,h0⟩:=GO.field [c0] hx (hf 0 _ rfl)
  obtain ⟨a1,h1⟩:=GO.field [c1] hx (hf 1 _ rfl)
  cases h0; cases h1
  exact ⟨rfl,⟨a0,a1⟩,rfl⟩⟩
theorem ahy:fO prog 47 bh 2:=⟨by kernel_rfl,λ W T enc sp held fuel cs x h=>by
 obtain ⟨xs,n,_,_,hl,hx,hf⟩:=DataW.trod_struct underlying47 h
 have hc:cs.length=2:=hl.trans (by kernel_rfl)
 match cs,hc with
 | [c0,c1],_ =>
  obtain ⟨a0,h0⟩:=GO.field [c0] hx (hf 0 _ rfl)
  obtain ⟨a1,h1⟩:=aKN.field [c1] hx (hf 1 _ rfl)
  cases h0; cases h1
  exact ⟨rfl,⟨a0,a1⟩,rfl⟩⟩
theorem aKO:fO prog 58 bn 5:=⟨by kernel_rfl,λ W T enc sp held fuel cs x h=>by
 obtain ⟨xs,n,_,_,hl,hx,hf⟩:=DataW.trod_struct underlying58 h
 have hc:cs.length=5:=hl.trans (by kernel_rfl)
 match cs,hc with
 | [c0,c1,c2,c3,c4],_ =>
  obtain ⟨a0,h0⟩:=aKQ.field [c0] hx (hf 0 _ rfl)
  obtain ⟨a1,h1⟩:=GO.field [c1] hx (hf 1 _ rfl)
  obtain ⟨a2,h2⟩:=aam.field [c2,c3] hx (hf 2 _ rfl)
  obtain ⟨a3,v3,h3,g3⟩:=aan.field [c4] hx (hf 3 _ rfl)
  cases h0; cases h1; cases h2; cases h3
  exact ⟨rfl,⟨a0,a1,a2,a3⟩,c4,g3,rfl⟩⟩
theorem aKK:fO prog 24 (m7 bn 5) 1:=fO.slice (by kernel_rfl) underlying24 (by decide) aKO
theorem aKL:fO prog 26 (m7 bh 2) 1:=fO.slice (by kernel_rfl) underlying26 (by decide) ahy
theorem aKM:fO prog 28 SA 6:=⟨by kernel_rfl,λ W T enc sp held fuel cs x h=>by
 obtain ⟨xs,n,_,_,hl,hx,hf⟩:=DataW.trod_struct underlying28 h
 have hc:cs.length=6:=hl.trans (by kernel_rfl)
 match cs,hc with
 | [c0,c1,c2,c3,c4,c5],_ =>
  obtain ⟨a0,h0⟩:=GO.field [c0] hx (hf 0 _ rfl)
  obtain ⟨a1,h1⟩:=aam.field [c1,c2] hx (hf 1 _ rfl)
  obtain ⟨a2,v2,h2,g2⟩:=aKK.field [c3] hx (hf 2 _ rfl)
  obtain ⟨a3,v3,h3,g3⟩:=aan.field [c4] hx (hf 3 _ rfl)
  obtain ⟨a4,v4,h4,g4⟩:=aKL.field [c5] hx (hf 4 _ rfl)
  cases h0; cases h1; cases h2; cases h3; cases h4
  exact ⟨rfl,⟨a0,a1,a2,a3,a4⟩,c3,c4,c5,g2,g3,g4,rfl⟩⟩
theorem aKJ:fO prog 157 (CW .u16) 1:=fO.aG1 (by kernel_rfl) underlying157
theorem aKP:fO prog 63 (m7 (CW .u16) 1) 1:=fO.slice (by kernel_rfl) underlying63 (by decide) aKJ
section
variable {W:World} {T:Type} {enc:TypeId × Value→T} {b0:Nat} {v:Value} {d:DataW T} {p:List MemPlace}
theorem aoy(hv:Value.okWide prog W .any b0 28 v)(h:DataW.Trod enc prog W 0 (λ _=>true) true 28 v d p) :
  ∃ (x:aj) (v3 v4 v5:Value),v = .agg #[iv x.aB,iv x.aa.ai,iv x.aa.ak,v3,v4,v5]∧au bn 5 (qh W) v3 x.ao∧au (CI .i64) 1 (qh W) v4 x.Out∧au bh 2 (qh W) v5 x.aT:=by
 obtain ⟨cs,rfl,_⟩:=okWide_struct underlying28 hv
 obtain ⟨fuel,hf⟩:=h
 obtain ⟨_,x,v3,v4,v5,h3,h4,h5,e⟩:=aKM.rd _ _ _ _ _ _ _ _ hf
 exact ⟨x,v3,v4,v5,by rw [← Array.toArray_toList (xs:=cs),show cs.toList=_ from e],h3,h4,h5⟩
theorem aOO(hv:Value.okWide prog W .any b0 25 v)(h:DataW.Trod enc prog W 0 (λ _=>true) true 25 v d p):∃ xs,au (CI .i64) 1 (qh W) v xs:=by
 obtain ⟨a,len,cap,rfl⟩:=okWide_slice underlying25 hv
 obtain ⟨fuel,hf⟩:=h
 obtain ⟨_,x,v1,e,h1⟩:=aan.rd _ _ _ _ _ _ _ _ hf
 cases e
 exact ⟨x,h1⟩
theorem aNo(hv:Value.okWide prog W .any b0 63 v)(h:DataW.Trod enc prog W 0 (λ _=>true) true 63 v d p):∃ xs,au (CI .u16) 1 (qh W) v xs∧∀ x∈xs,0≤x∧x≤65535:=by
 obtain ⟨a,len,cap,rfl⟩:=okWide_slice underlying63 hv
 obtain ⟨fuel,hf⟩:=h
 obtain ⟨_,x,v1,e,h1⟩:=aKP.rd _ _ _ _ _ _ _ _ hf
 cases e
 refine ⟨x,h1.aNb λ y es hy=>hy.1,λ y hy=>?_⟩
 obtain ⟨_,_,h2⟩:=h1.each y hy
 exact h2
theorem alk(hv:Value.okWide prog W .any b0 5 v)(h:DataW.Trod enc prog W 0 (λ _=>true) true 5 v d p):∃ x:Nat,v = .int .u8 x∧x < 256:=by
 obtain ⟨x,rfl,_,_,hw⟩:=open_int underlying5 hv h
 simp only [Lit.wf,Bool.and_eq_true,IntKind.min,IntKind.max,IntKind.signed,IntKind.bits] at hw
 simp at hw
 exact ⟨x.toNat,by rw [Int.toNat_of_nonneg (by omega)],by omega⟩
theorem aOP(hv:Value.okWide prog W .any b0 3 v)(h:DataW.Trod enc prog W 0 (λ _=>true) true 3 v d p):∃ x:Int,v=iv x ∧ -9223372036854775808≤x∧x≤9223372036854775807:=by
 obtain ⟨x,rfl,_,_,hw⟩:=open_int underlying3 hv h
 simp only [Lit.wf,Bool.and_eq_true,decide_eq_true_eq] at hw
 exact ⟨x,rfl,hw⟩
theorem aOQ(hv:Value.okWide prog W .any b0 47 v)(h:DataW.Trod enc prog W 0 (λ _=>true) true 47 v d p):∃ x:bV,v = .agg #[iv x.dd,iv x.dM]:=by
 obtain ⟨cs,rfl,_⟩:=okWide_struct underlying47 hv
 obtain ⟨fuel,hf⟩:=h
 obtain ⟨_,x,e⟩:=ahy.rd _ _ _ _ _ _ _ _ hf
 exact ⟨x,by rw [← Array.toArray_toList (xs:=cs),show cs.toList=_ from e]⟩
theorem aON(hv:Value.okWide prog W .any b0 23 v)(h:DataW.Trod enc prog W 0 (λ _=>true) true 23 v d p):∃ x:Reach,v = .agg #[iv x.ai,iv x.ak]:=by
 obtain ⟨cs,rfl,_⟩:=okWide_struct underlying23 hv
 obtain ⟨fuel,hf⟩:=h
 obtain ⟨_,x,e⟩:=aam.rd _ _ _ _ _ _ _ _ hf
 exact ⟨x,by rw [← Array.toArray_toList (xs:=cs),show cs.toList=_ from e]⟩
end
theorem arD:prog.globalNamed "lagan/hull.checks"=some 0:=by kernel_rfl
theorem aLO:(prog.globals[0]?).map (·.type)=some 164:=by kernel_rfl
abbrev KM:List (String × DataW Unit):=[("lagan/hull.checks",Rows.laid_lagan_hull_checks)]
theorem apg(os:Os)(args:Array Value):laidMetH prog KM ((World.doorLaid prog 14 os).forCall (λ _ _=>0) ⟨#[],args,[]⟩).memory :=
 laidMetH_of_parts3 (fuel:=8) (laidMet_of_run' 8 (by kernel_rfl) (by kernel_rfl)) (by kernel_rfl) (by kernel_rfl)
theorem aJT{W:World}(h:laidMetH prog KM W):fN (qh W):=by
 obtain ⟨g,t,cs,fuel,p,hg,ht,hv,hd⟩:=h.funcs (n := "lagan/hull.checks") (List.mem_cons_self ..)
 obtain rfl:=Option.some.inj (arD.symm.trans hg)
 obtain rfl:=Option.some.inj (aLO.symm.trans ht)
 obtain ⟨xs,n,_,hx,hlen,hn,kY⟩:=DataW.trod_array underlying164 (show DataW.trod (funcToken prog) prog W 0 (λ _=>true) true fuel 164 cs.toList=some (.agg [.held [40,108,97,103,97,110,47,104,117,108,108,46,98,111,111,107,41,46,104,117,108,108],.held [40,108,97,103,97,110,47,104,117,108,108,46,98,111,111,107,41,46,112,105,101,99,101,115],.held [40,108,97,103,97,110,47,104,117,108,108,46,98,111,111,107,41,46,111,117,116],.held [40,108,97,103,97,110,47,104,117,108,108,46,98,111,111,107,41,46,104,101,101,108,115]],p) from hd)
 rw [show prog.cellsOf 109=1 by kernel_rfl] at kY
 have hl:cs.toList.length=4:=hlen.trans (by kernel_rfl)
 obtain ⟨cs⟩:=cs
 simp only at hl kY
 match xs,hn,cs,hl with
 | [x0,x1,x2,x3],_,[c0,c1,c2,c3],_ =>
  simp only [Prod.mk.injEq,DataW.agg.injEq,List.map_cons,List.map_nil,List.cons.injEq,and_true] at hx
  obtain ⟨⟨e0,e1,e2,e3⟩,_⟩:=hx
  obtain ⟨x0,q0⟩:=x0
  obtain ⟨x1,q1⟩:=x1
  obtain ⟨x2,q2⟩:=x2
  obtain ⟨x3,q3⟩:=x3
  simp only at e0 e1 e2 e3
  subst e0 e1 e2 e3
  obtain rfl:=func_of_trod (f0:=211) underlying109 (by kernel_rfl) (kY 0 (by decide))
  obtain rfl:=func_of_trod (f0:=212) underlying109 (by kernel_rfl) (kY 1 (by decide))
  obtain rfl:=func_of_trod (f0:=213) underlying109 (by kernel_rfl) (kY 2 (by decide))
  obtain rfl:=func_of_trod (f0:=214) underlying109 (by kernel_rfl) (kY 3 (by decide))
  intro j v hj
  rw [Nat.zero_add]
  refine ao9 ?_
  rw [World.var?_cell hg hv j]
  simpa using hj
end Go.Proofs.YtabamagholjdcaaGreatDoor
