/- What reckon does in company; the arguments of the statement. Conditions: none. -/
import Derived.Test.YtoaoffinglajbaaGreatDoorQBHbF
import Derived.Test.YtoaoffinglajbaaGreatDoorQBLgD
import Derived.Test.YtoaoffinglajbaaGreatDoorQBHbW
import Derived.Test.YtoaoffinglajbaaGreatDoorTie
import Derived.Stop.Joined
import Derived.LaidOnce
import Derived.ProofKit
import Derived.OpenShut
namespace Go.Proofs.YtoaoffinglajbaaGreatDoor
open Go.Lg Go.Proofs Go.Conc Tryz
set_option maxRecDepth 100000
set_option maxHeartbeats 4000000
section
variable {B:Base} {R:ay} {H:aj}
abbrev pt(b:Nat):Value:=.pointer (some ⟨b,0,none⟩)
theorem Ml{cf cd b0 f g:Nat}(k:Nat)(I:k≤1048576)(y:aK R [] b0 0 [iv (k:Int)])(A:aK R [] f 0 [.chan (some cd)])(D:aK R [] g 0 [.chan (some cf)]) :
  Own prog B false (CK prog B cf cd k) R [] (bk (Frame.enter prog 117 #[pt b0,pt f,pt g] .deferred) [hr prog]):=by
 refine zV (args:=[pt b0,pt f,pt g]) func117 rfl (n:=10) rfl rfl ?_
 refine U.seq ?_
 refine U.seq ?_
 refine U.eZ (n:=2) (is:=[0,1]) rfl rfl ?_
 refine U.cI rfl rfl rfl (Ox.gQ rfl rfl aI (y.any.one (j:=0) rfl) rfl (.put rfl) ?_)
 refine U.cI rfl rfl rfl (Ox.move rfl rfl rfl (.put rfl) ?_)
 refine U.ds ?_
 refine U.aP ?_
 refine U.enterLoop ?_
 refine countdown (ι:=Unit) (J:=λ n _=>jb prog B false (CK prog B cf cd n)) (C:=λ n _ R' H' st=>R'=R∧H'=[]∧n≤k∧aA st [(1,pt f),(2,pt g),(3,iv (k:Int)),(4,iv ((k - n:Nat):Int))]) ?_ ?_ k () _ _ _ ⟨rfl,rfl,ct _,cV.sub ⟨rfl,rfl,rfl,by simp,trivial⟩⟩
 ·rintro _ R' H' st ⟨rfl,rfl,_,m⟩
  refine U.sub m ?_
  refine U.seq ?_
  refine U.eZ (n:=1) (is:=[0]) rfl rfl ?_
  refine U.cI rfl rfl rfl (Ox.cmp rfl rfl rfl rfl rfl (.put rfl) ?_)
  refine U.ds ?_
  refine U.seq ?_
  refine U.nk rfl (by simp) ?_
  refine U.bw rfl ?_
  refine U.eZ (n:=2) (is:=[0,1]) rfl rfl ?_
  refine U.cI rfl rfl rfl (Ox.gQ rfl rfl rT (D.any.one (j:=0) rfl) rfl (.put rfl) ?_)
  exact λ tmps s=>Own.stop _ _ _ _ (L5 rfl rfl rfl rfl rfl s λ _=>Ab func117 rfl)
 ·rintro n F _ R' H' st ⟨rfl,rfl,K,m⟩
  refine U.sub m ?_
  refine U.seq ?_
  refine U.eZ (n:=1) (is:=[0]) rfl rfl ?_
  refine U.cI rfl rfl rfl (Ox.cmp rfl rfl rfl rfl rfl (.put rfl) ?_)
  refine U.ds ?_
  refine U.seq ?_
  refine U.nm rfl (by simp; omega) ?_
  refine U.skip ?_
  refine U.seq ?_
  refine U.aP ?_
  refine U.eZ (n:=2) (is:=[0,1]) rfl rfl ?_
  refine U.cI rfl rfl rfl (Ox.gQ rfl rfl u7 (A.any.one (j:=0) rfl) rfl (.put rfl) ?_)
  refine λ tmps s=>Own.stop _ _ _ _ ⟨.bool false,vB rfl rfl rfl rfl underlying186 (λ _=>⟨by kernel_rfl,by kernel_rfl⟩) rfl s (λ v G E=>?_) (λ _ _=>trivial)⟩
  refine (?_:U (jb prog B false (CK prog B cf cd n)) _ _ _ _ _) G E
  refine U.ds ?_
  refine U.a0 ?_
  refine U.eZ (n:=2) (is:=[0,1]) rfl rfl ?_
  refine U.cI rfl rfl rfl (Ox.ar rfl rfl rfl rfl rfl (.put rfl) ?_)
  refine U.cI rfl rfl rfl (Ox.move rfl rfl rfl (.put rfl) ?_)
  refine U.ds ?_
  have e:i64 (((k - (n+1):Nat):Int)+1)=((k - n:Nat):Int):=by rw [rf (by omega)]; omega
  refine U.inLoop ?_
  exact F () _ _ _ ⟨rfl,rfl,by omega,cV.sub ⟨rfl,rfl,rfl,congrArg (λ z=>some (iv z)) e,trivial⟩⟩
theorem zz{α β:Type}{f:α→Option β}:∀ {xs:List α} {ys:List β},xs.mapM f=some ys→ys.length=xs.length∧∀ (i:Nat) (x:α),xs[i]? = some x→∃ y,ys[i]? = some y∧f x=some y
 | [],ys,h=>by
  simp at h; subst h
  exact ⟨rfl,λ i x g=>by simp at g⟩
 | a::xs,ys,h=>by
  rw [List.mapM_cons] at h
  cases m:f a with
  | none=>rw [m] at h; simp at h
  | some b =>
   cases s:xs.mapM f with
   | none=>rw [m,s] at h; simp at h
   | some C =>
    rw [m,s] at h
    simp at h
    subst h
    obtain ⟨z,A⟩:=zz s
    refine ⟨by simp [z],λ i x g=>?_⟩
    cases i with
    | zero=>simp at g; subst g; exact ⟨b,rfl,m⟩
    | succ i=>exact A i x (by simpa using g)
theorem JD{c:Ctx}{st aa:St}{o:Oper}{x y z:Operand}{v:Value}{m:ev}{k:List Bool}{w:Int}{Hs:aj}{C:ay→aj→St→Prop}(L:o.op = .mapUpdate 128 x y z)(N:a2 st x=some v)(O:a2 st y=some (gB k))(P:a2 st z=some (iv w))(hm:gu v m Hs)(K:m≠gh)(s:k.length=5)(A:k ∉ m.map (·.1))
  (G:aj→aj) (F:eu G) (J:o.dst=none) (M:aA st aa) (h:∀ f,gu v (m++[(k,w)]) f→C R (G f) aa):aJ prog B c o R (G Hs) st C:=by
 rcases hm with ⟨_,D,_⟩ | ⟨b,es,cl,rfl,rfl,g,E⟩
 ·exact absurd D K
 ·refine Ox.JC L N O P uT g s A F.set J M (h _ (.inr ⟨b,_,_,rfl,rfl,?_,?_⟩))
  ·rw [Array.toList_push]; exact hY.push rfl rfl s g
  ·rw [List.map_append,List.nodup_append]
   refine ⟨E,by simp,λ a I b hb=>?_⟩
   simp only [List.map_cons,List.map_nil,List.mem_singleton] at hb
   subst hb
   intro e; subst e; exact A I
def gk(l:List (List Bool × Int))(n:Nat):List Value:=((l.take (l.length - n)).map km).reverse
theorem LG(l:List (List Bool × Int)):gk l l.length=[]:=by simp [gk]
theorem LI{l:List (List Bool × Int)}{n:Nat}{p:List Bool × Int}(g:n+1≤l.length)(f:l[l.length - (n+1)]? = some p):km p::gk l (n+1)=gk l n:=by
 have e:l.length - n=(l.length - (n+1))+1:=by omega
 unfold gk
 rw [e,List.take_add_one,f]
 simp
theorem LH{l:List (List Bool × Int)}:(gk l 0).length=l.length:=by simp [gk]
theorem LJ(l:List (List Bool × Int)):(gk l 0).Perm (l.map km):=by
 unfold gk
 simp only [Nat.sub_zero,List.take_length]
 exact List.reverse_perm _
theorem KR{bP:Value→World→Prop}:kC (pW prog B bP):=by
 intro R H D v3 v4 v5 v6 v7 Hs au aG aJ aM bd r G
 unfold jD at G
 obtain ⟨many,bq,G⟩:=ae G
 obtain ⟨l,a4,G⟩:=ae G
 split at G
 case isFalse=>cases G
 rename_i bh
 obtain ⟨bx,bu,aN,bN,bO⟩:=bh
 obtain rfl:=av G
 obtain ⟨N,rfl⟩:∃ N:Nat,many=(N:Int):=⟨many.toNat,by omega⟩
 rw [cm] at a4
 obtain ⟨hlen,bk⟩:=zz a4
 rw [List.length_range] at hlen
 have bm:∀ i,i < N→∃ p,l[i]? = some p∧j1 D (i:Int)=some p:=λ i hi=>bk i i (by simp [hi])
 refine aL.rQ (args:=[.agg #[iv D.book.ax,iv D.book.ad.ai,iv D.book.ad.ak,v3,v4,v5,v6,v7]]) func81 rfl (n:=32) rfl rfl λ fr cs bn=>?_
 refine U.seq ?_
 refine U.eZ (n:=1) (is:=[0]) rfl rfl ?_
 refine U.cI rfl rfl rfl (Ox.wo rfl rfl rfl λ y _ _=>⟨_,(.put rfl),?_⟩)
 refine U.ds ?_
 refine U.seq ?_
 refine U.eZ (n:=3) (is:=[0,1,2]) rfl rfl ?_
 refine U.cI rfl rfl rfl (Ox.makeChan rfl rfl underlying185 (iK (by decide +kernel)) rfl λ cf _ _=>⟨_,(.put rfl),?_⟩)
 refine U.cI rfl rfl rfl (Ox.alloc (cs:=#[.chan none]) rfl Mw rfl λ I _ _=>⟨_,(.put rfl),?_⟩)
 refine U.cI rfl rfl rfl (Ox.dE (cs':=#[_]) rfl rfl rfl rT rfl .here rfl rfl rfl (.refl _) ?_)
 refine U.ds ?_
 refine U.seq ?_
 refine U.eZ (n:=3) (is:=[0,1,2]) rfl rfl ?_
 refine U.cI rfl rfl rfl (Ox.makeChan rfl rfl underlying186 (iK (by decide +kernel)) rfl λ cd _ _=>⟨_,(.put rfl),?_⟩)
 refine U.cI rfl rfl rfl (Ox.alloc (cs:=#[.chan none]) rfl Mx rfl λ ac _ _=>⟨_,(.put rfl),?_⟩)
 refine U.cI rfl rfl rfl (Ox.dE (cs':=#[_]) rfl rfl rfl u7 rfl .here rfl rfl rfl (.refl _) ?_)
 refine U.ds ?_
 refine U.seq ?_
 refine U.eZ (n:=8) (is:=[0,1,2,3,4,5,6,7]) rfl rfl ?_
 refine U.cI rfl rfl rfl (Ox.fieldAddr rfl rfl xT rfl (.put rfl) ?_)
 refine U.cI rfl rfl rfl (Ox.fieldAddr rfl rfl xS rfl (.put rfl) ?_)
 refine U.cI rfl rfl rfl (Ox.fieldAddr rfl rfl xX rfl (.put rfl) ?_)
 refine U.cI rfl rfl rfl (Ox.gQ rfl rfl cZ ((aK.box (L:=[iv D.book.ax,iv D.book.ad.ai,iv D.book.ad.ak,v3,v4,v5,v6,v7]) (.tail _ (.tail _ (.tail _ (.tail _ (.head _)))))).one (j:=3) rfl) rfl (.put rfl) ?_)
 refine U.cI rfl rfl rfl (Ox.iM (K:=bz) (k:=5) (xs:=D.book.ao) rfl rfl au underlying24 rfl (.put rfl) ?_)
 refine U.cI rfl rfl rfl (Ox.shl rfl rfl rfl bq rfl (.put rfl) ?_)
 refine U.cI rfl rfl rfl (Ox.alloc (cs:=#[iv 0]) rfl iw rfl λ a1 _ _=>⟨_,(.put rfl),?_⟩)
 refine U.cI rfl rfl rfl (Ox.dE (cs':=#[_]) rfl rfl rfl aI rfl .here rfl rfl rfl (.refl _) ?_)
 refine U.ds ?_
 refine U.seq ?_
 refine U.seq ?_
 refine U.eZ (n:=2) (is:=[0,1]) rfl rfl ?_
 refine U.cI rfl rfl rfl (Ox.gQ rfl rfl aI ((aK.box (L:=[iv (N:Int)]) (.head _)).one (j:=0) rfl) rfl (.put rfl) ?_)
 refine U.cI rfl rfl rfl (Ox.move rfl rfl rfl (.put rfl) ?_)
 refine U.ds ?_
 refine U.aP ?_
 refine U.fZ (H2:=(ac,_)::(cd,_)::(I,_)::(cf,_)::(y,_)::(Hs++H)) (λ X=>X++((ac,_)::(cd,_)::(I,_)::(cf,_)::(y,_)::(Hs++H))) .id rfl (λ bL be am=>?_)
 refine U.fZ (H2:=(cd,_)::(I,_)::(cf,_)::(y,_)::(Hs++H)) (λ X=>X++((cd,_)::(I,_)::(cf,_)::(y,_)::(Hs++H))) .id rfl (λ bJ a2 S=>?_)
 refine U.fZ (H2:=(cd,_)::(cf,_)::(y,_)::(Hs++H)) (λ X=>(cd,_)::X++((cf,_)::(y,_)::(Hs++H))) (.cons .id) rfl (λ R2 E O=>?_)
 refine U.fZ (H2:=(cd,_)::(cf,_)::(Hs++H)) (λ X=>(cd,_)::(cf,_)::X++(Hs++H)) (.cons (.cons .id)) rfl (λ aC aw Q=>?_)
 replace am:=((am.up (H:=[]) a2).up (H:=[]) E).up (H:=[]) aw
 replace S:=(S.up (H:=[]) E).up (H:=[]) aw
 replace O:=O.up (H:=[]) aw
 have ag:aH R aC:=((be.trans a2).trans E).trans aw
 replace au:=au.mono ag
 replace aG:=aG.mono ag
 replace aJ:=aJ.mono ag
 replace aM:=aM.mono ag
 suffices bG:U (jb prog B true (hZ prog B cf cd (MJ prog B bP) N (gk l N))) _ _ _ _ _ from λ tmps f=>MJ.crowd (n:=N) (by
  have e:gk l N=[]:=by rw [← hlen]; exact LG l
  rw [← e]; exact bG tmps f)
 refine U.enterLoop ?_
 refine countdown (ι:=Unit) (J:=λ n _=>jb prog B true (hZ prog B cf cd (MJ prog B bP) n (gk l n))) (C:=λ n _ R' H' st=>aH aC R'∧H'=Hs++H∧n≤N∧aA st [(1,pt y),(2,pt I),(3,pt ac),(4,pt a1),(15,iv (N:Int)),(16,iv ((N - n:Nat):Int))]) ?_ ?_ N () _ _ _ ⟨aH.refl _,rfl,ct _,cV.sub ⟨rfl,rfl,rfl,rfl,rfl,by simp,trivial⟩⟩
 ·rintro _ R' H' st ⟨M,rfl,_,P⟩
  replace Q:=Q.up (H:=[]) M
  replace O:=O.up (H:=[]) M
  replace S:=S.up (H:=[]) M
  replace am:=am.up (H:=[]) M
  refine U.sub P ?_
  refine U.seq ?_
  refine U.eZ (n:=1) (is:=[0]) rfl rfl ?_
  refine U.cI rfl rfl rfl (Ox.cmp rfl rfl rfl rfl rfl (.put rfl) ?_)
  refine U.ds ?_
  refine U.seq ?_
  refine U.nk rfl (by simp) ?_
  refine U.bw rfl ?_
  refine U.seq ?_
  refine U.eZ (n:=2) (is:=[0,1]) rfl rfl ?_
  refine U.cI rfl rfl rfl (Ox.makeFunc (vs:=#[]) (us:=#[_,_,_]) rfl rfl rfl rfl (.put rfl) ?_)
  refine λ tmps f=>Own.stop _ _ _ _ ⟨rfl,λ w hw=>⟨_,_,AS (d:=⟨.fn (.func 117) #[pt a1,pt ac,pt I],#[]⟩) rfl rfl rfl f (Ai rfl rfl rfl) rfl,?_,?_⟩⟩
  ·rw [LH,hlen]
   exact Own.child rfl (Be CR) (Ml N (by omega) am S O)
  ·refine (?_:U (jb prog B true (gr prog B cf (MJ prog B bP) (gk l 0).length (gk l 0))) _ _ _ _ _) _ (f.put undef rfl)
   refine U.ds ?_
   refine U.seq ?_
   refine U.eZ (n:=1) (is:=[0]) rfl rfl ?_
   refine U.cI rfl rfl rfl (Ox.gQ rfl rfl rT (O.any.one (j:=0) rfl) rfl (.put rfl) ?_)
   refine U.ds ?_
   refine U.aP ?_
   refine U.enterLoop ?_
   refine countdown (ι:=List Value) (J:=λ n rem=>jb prog B true (gr prog B cf (MJ prog B bP) n rem)) (C:=λ n rem R2 H2 st=>∃ (m s:ev) (aq:aj),aH R' R2∧rem.Perm (s.map km)∧(m++s).Perm l∧gu v7 m aq∧H2=aq++H∧n=rem.length∧aA st [(1,pt y),(22,.chan (some cf))]) ?_ ?_ _ _ _ _ _ ⟨[],l,Hs,aH.refl _,LJ l,by simp,bx ▸ bd,rfl,rfl,cV.sub ⟨rfl,rfl,trivial⟩⟩
   ·rintro rem R2 H2 st ⟨m,s,aq,E,az,A,hm,rfl,aO,P⟩
    refine U.sub P ?_
    refine U.seq ?_
    refine U.eZ (n:=2) (is:=[0,1]) rfl rfl ?_
    refine λ tmps f=>Own.stop _ _ _ _ ⟨.agg #[.bool false,.bool false,.bool false,.bool false,.bool false,.int .i64 0],vB rfl rfl rfl rfl underlying185 (λ _=>⟨by kernel_rfl,by kernel_rfl⟩) rfl f (λ _ _ _=>trivial) λ aY aU=>?_⟩
    refine (?_:U (pW prog B bP) _ _ _ _ _) aY aU
    refine U.cI rfl rfl rfl (Ox.extract rfl rfl rfl rfl (.put rfl) ?_)
    refine U.ds ?_
    refine U.seq ?_
    refine U.nk rfl rfl ?_
    refine U.bw rfl ?_
    refine U.o8 (H2:=H) (λ X=>X++H) .id rfl hm (λ bM bg bp=>?_)
    refine U.g7 func81 .nil (bn _ _ _ ⟨[],⟨((ag.trans M).trans E).trans bg,?_,rfl,rfl⟩,rfl⟩)
    have aB:s=[]:=by
     have af:=az.length_eq
     rw [← aO,List.length_map] at af
     exact List.length_eq_zero_iff.1 af.symm
    subst aB
    rw [List.append_nil] at A
    rcases bp with ⟨e1,aF⟩ | ⟨b,es,cl,bI,e1,aF,a9,ba,bb⟩
    ·exfalso
     rw [aF] at A
     have:=aN ([],0) (A.mem_iff.1 (by simp [gh]))
     cases this
    ·exact .inr ⟨b,es,cl,bI,e1,aF,a9,ba,bb.trans A⟩
   ·rintro n aV rem R2 H2 st ⟨m,s,aq,E,az,A,hm,rfl,aO,P⟩
    refine U.sub P ?_
    refine U.seq ?_
    refine U.eZ (n:=2) (is:=[0,1]) rfl rfl ?_
    refine λ tmps f=>Own.stop _ _ _ _ ⟨.agg #[.bool false,.bool false,.bool false,.bool false,.bool false,.int .i64 0],vB rfl rfl rfl rfl underlying185 (λ _=>⟨by kernel_rfl,by kernel_rfl⟩) rfl f (λ v aY aU rest aT=>?_) λ _ _=>trivial⟩
    obtain ⟨p,an,rfl⟩:=List.mem_map.1 (az.mem_iff.1 (aT.mem_iff.2 (List.mem_cons_self)))
    have aB:s.Perm (p::s.erase p):=List.perm_cons_erase an
    have bD:rest.Perm ((s.erase p).map km):=by
     have:=aT.symm.trans (az.trans (aB.map km))
     simpa using this
    have bC:p∈l:=A.mem_iff.1 (List.mem_append.2 (.inr an))
    have br:((m++[p])++s.erase p).Perm l:=by
     rw [List.append_assoc]
     exact (List.Perm.append_left m aB.symm).trans A
    have bv:p.1 ∉ m.map (·.1):=by
     have af:((m++s).map (·.1)).Nodup:=(A.map _).nodup_iff.2 bu
     rw [List.map_append,List.nodup_append] at af
     intro bH
     exact af.2.2 _ bH _ (List.mem_map.2 ⟨p,an,rfl⟩) rfl
    have bs:m≠gh:=by
     intro e
     have:=aN ([],0) (A.mem_iff.1 (by rw [e]; simp [gh]))
     cases this
    have bA:=aN p bC
    obtain ⟨g,ap⟩:=p
    obtain ⟨V,Y,Z,aa,ab,rfl⟩:=q8 bA
    replace Q:=Q.up (H:=[]) E
    refine (?_:U (jb prog B true (gr prog B cf (MJ prog B bP) n rest)) _ _ _ _ _) aY aU
    refine U.cI rfl rfl rfl (Ox.extract rfl rfl rfl rfl (.put rfl) ?_)
    refine U.ds ?_
    refine U.seq ?_
    refine U.nm rfl rfl ?_
    refine U.skip ?_
    refine U.aP ?_
    refine U.seq ?_
    refine U.eZ (n:=3) (is:=[0,1,2]) rfl rfl ?_
    refine U.cI rfl rfl rfl (Ox.extract rfl rfl rfl rfl (.put rfl) ?_)
    refine U.cI rfl rfl rfl (Ox.alloc (cs:=#[.bool false,.bool false,.bool false,.bool false,.bool false,.int .i64 0]) rfl My rfl λ a8 _ _=>⟨_,(.put rfl),?_⟩)
    refine U.cI rfl rfl rfl (Ox.cG (cs':=#[_,_,_,_,_,_]) rfl rfl rfl BK rfl (aW rfl (aW rfl (aW rfl (aW rfl (aW rfl (aW rfl bl)))))) .here rfl rfl rfl (.refl _) ?_)
    refine U.ds ?_
    refine U.eZ (n:=7) (is:=[0,1,2,3,4,5,6]) rfl rfl ?_
    refine U.cI rfl rfl rfl (Ox.fieldAddr rfl rfl xU rfl (.put rfl) ?_)
    refine U.cI rfl rfl rfl (Ox.gQ rfl rfl u3 (Q.any.one (j:=7) rfl) rfl (.put rfl) ?_)
    refine U.cI rfl rfl rfl (Ox.fieldAddr rfl rfl xV rfl (.put rfl) ?_)
    refine U.cI rfl rfl rfl (Ox.bB (vs:=[_,_,_,_,_]) rfl rfl cR rfl ((aK.box (L:=[.bool V,.bool Y,.bool Z,.bool aa,.bool ab,iv ap]) (.head _)).part (j:=0) (n:=5) rfl) rfl (.put rfl) ?_)
    refine U.cI rfl rfl rfl (Ox.fieldAddr rfl rfl xW rfl (.put rfl) ?_)
    refine U.cI rfl rfl rfl (Ox.gQ rfl rfl aI ((aK.box (L:=[.bool V,.bool Y,.bool Z,.bool aa,.bool ab,iv ap]) (.head _)).one (j:=5) rfl) rfl (.put rfl) ?_)
    refine U.cI rfl rfl rfl (JD (k:=[V,Y,Z,aa,ab]) (w:=ap) rfl rfl rfl rfl hm bs rfl bv (λ X=>(a8,_)::X++H) (.cons .id) rfl (.refl _) λ a5 bo=>?_)
    refine U.ds ?_
    refine U.a0 ?_
    refine U.inLoop ?_
    refine U.aR (List.Sublist.cons _ (List.Sublist.refl _)) ?_
    refine aV rest _ _ _ ⟨m++[([V,Y,Z,aa,ab],ap)],s.erase ([V,Y,Z,aa,ab],ap),a5,E,bD,br,bo,rfl,?_,cV.sub ⟨rfl,rfl,trivial⟩⟩
    have:=aT.length_eq
    simp only [List.length_cons] at this
    omega
 ·rintro n aV _ R' H' st ⟨M,rfl,aO,P⟩
  have hi:N - (n+1) < N:=by omega
  obtain ⟨p,an,bt⟩:=bm _ hi
  refine U.sub P ?_
  refine U.seq ?_
  refine U.eZ (n:=1) (is:=[0]) rfl rfl ?_
  refine U.cI rfl rfl rfl (Ox.cmp rfl rfl rfl rfl rfl (.put rfl) ?_)
  refine U.ds ?_
  refine U.seq ?_
  refine U.nm rfl (by simp; omega) ?_
  refine U.skip ?_
  refine U.seq ?_
  refine U.aP ?_
  refine U.seq ?_
  refine U.eZ (n:=3) (is:=[0,1,2]) rfl rfl ?_
  refine U.cI rfl rfl rfl (Ox.move rfl rfl rfl (.put rfl) ?_)
  refine U.cI rfl rfl rfl (Ox.alloc (cs:=#[iv 0]) rfl iw rfl λ a7 _ _=>⟨_,(.put rfl),?_⟩)
  refine U.cI rfl rfl rfl (Ox.dE (cs':=#[_]) rfl rfl rfl aI rfl .here rfl rfl rfl (.refl _) ?_)
  refine U.ds ?_
  refine U.fZ (H2:=Hs++H) (λ X=>X++(Hs++H)) .id rfl (λ a6 bf bi=>?_)
  have F:aH aC a6:=M.trans bf
  refine U.eZ (n:=2) (is:=[0,1]) rfl rfl ?_
  refine U.cI rfl rfl rfl (Ox.makeFunc (vs:=#[]) (us:=#[_,_,_,_]) rfl rfl rfl rfl (.put rfl) ?_)
  refine λ tmps f=>Own.stop _ _ _ _ ⟨rfl,λ w hw=>⟨_,_,km p,AS (d:=⟨.fn (.func 116) #[pt y,pt a7,pt I,pt ac],#[]⟩) rfl rfl rfl f (Ai rfl rfl rfl) rfl,?_,?_⟩⟩
  ·exact Own.child rfl (Be CQ) (Mk D ((N - (n+1):Nat):Int) (Q.up (H:=[]) F) (au.mono F) (aG.mono F) (aJ.mono F) (aM.mono F) bi (O.up (H:=[]) F) (S.up (H:=[]) F) bt)
  ·have bF:km p::gk l (n+1)=gk l n:=LI (by omega) (by rw [hlen]; exact an)
   rw [bF]
   refine (?_:U (jb prog B true (hZ prog B cf cd (MJ prog B bP) n (gk l n))) _ _ _ _ _) _ (f.put undef rfl)
   refine U.ds ?_
   refine U.a0 ?_
   refine U.eZ (n:=2) (is:=[0,1]) rfl rfl ?_
   refine U.cI rfl rfl rfl (Ox.ar rfl rfl rfl rfl rfl (.put rfl) ?_)
   refine U.cI rfl rfl rfl (Ox.move rfl rfl rfl (.put rfl) ?_)
   refine U.ds ?_
   refine U.inLoop ?_
   have e:i64 (((N - (n+1):Nat):Int)+1)=((N - n:Nat):Int):=by rw [rf (by omega)]; omega
   exact aV () _ _ _ ⟨F,rfl,by omega,cV.sub ⟨rfl,rfl,rfl,rfl,rfl,congrArg (λ z=>some (iv z)) e,trivial⟩⟩
end
open Go.ChangeShapes Go.WideShapes Go.ChangeAt Go.RowKit
theorem hT:dp prog 3 (CI .i64) 1:=dp.int (by kernel_rfl) underlying3
theorem vj:dp prog 23 dx 2:=⟨by kernel_rfl,λ W T enc sp held fuel cs x h=>by
 obtain ⟨xs,n,_,_,D,g,f⟩:=DataW.trod_struct underlying23 h
 have C:cs.length=2:=D.trans (by kernel_rfl)
 match cs,C with
 | [y,c1],_ =>
  obtain ⟨m,z⟩:=hT.field [y] g (f 0 _ rfl)
  obtain ⟨s,A⟩:=hT.field [c1] g (f 1 _ rfl)
  cases z; cases A
  exact ⟨rfl,⟨m,s⟩,rfl⟩⟩
theorem KM:dp prog 9 CS 1:=dp.str (by kernel_rfl) underlying9
theorem Ae:dp prog 25 (iy (CI .i64) 1) 1:=dp.slice (by kernel_rfl) underlying25 (by decide) hT
theorem Kx:dp prog 105 bz 5:=⟨by kernel_rfl,λ W T enc sp held fuel cs x h=>by
 obtain ⟨xs,n,_,_,J,g,f⟩:=DataW.trod_struct underlying105 h
 have I:cs.length=5:=J.trans (by kernel_rfl)
 match cs,I with
 | [A,c1,c2,c3,c4],_ =>
  obtain ⟨m,D⟩:=KM.field [A] g (f 0 _ rfl)
  obtain ⟨s,E⟩:=hT.field [c1] g (f 1 _ rfl)
  obtain ⟨y,F⟩:=vj.field [c2,c3] g (f 2 _ rfl)
  obtain ⟨z,v3,G,C⟩:=Ae.field [c4] g (f 3 _ rfl)
  cases D; cases E; cases F; cases G
  exact ⟨rfl,⟨m,s,y,z⟩,c4,C,rfl⟩⟩
theorem Kz:dp prog 24 (iy bz 5) 1:=dp.slice (by kernel_rfl) underlying24 (by decide) Kx
theorem KJ:dp prog 65 (CI .i64) 1:=dp.int (by kernel_rfl) underlying65
theorem KL:dp prog 67 bq 2:=⟨by kernel_rfl,λ W T enc sp held fuel cs x h=>by
 obtain ⟨xs,n,_,_,D,g,f⟩:=DataW.trod_struct underlying67 h
 have C:cs.length=2:=D.trans (by kernel_rfl)
 match cs,C with
 | [y,c1],_ =>
  obtain ⟨m,z⟩:=hT.field [y] g (f 0 _ rfl)
  obtain ⟨s,A⟩:=KJ.field [c1] g (f 1 _ rfl)
  cases z; cases A
  exact ⟨rfl,⟨m,s⟩,rfl⟩⟩
theorem KA:dp prog 26 (iy bq 2) 1:=dp.slice (by kernel_rfl) underlying26 (by decide) KL
theorem KB:dp prog 28 sw 6:=⟨by kernel_rfl,λ W T enc sp held fuel cs x h=>by
 obtain ⟨xs,n,_,_,O,g,f⟩:=DataW.trod_struct underlying28 h
 have N:cs.length=6:=O.trans (by kernel_rfl)
 match cs,N with
 | [D,c1,c2,c3,c4,m],_ =>
  obtain ⟨s,I⟩:=hT.field [D] g (f 0 _ rfl)
  obtain ⟨y,J⟩:=vj.field [c1,c2] g (f 1 _ rfl)
  obtain ⟨z,v2,K,E⟩:=Kz.field [c3] g (f 2 _ rfl)
  obtain ⟨A,v3,L,F⟩:=Ae.field [c4] g (f 3 _ rfl)
  obtain ⟨C,v4,M,G⟩:=KA.field [m] g (f 4 _ rfl)
  cases I; cases J; cases K; cases L; cases M
  exact ⟨rfl,⟨s,y,z,A,C⟩,c3,c4,m,E,F,G,rfl⟩⟩
theorem KC:dp prog 29 (iy dx 2) 1:=dp.slice (by kernel_rfl) underlying29 (by decide) vj
theorem KG:dp prog 38 m1 2:=⟨by kernel_rfl,λ W T enc sp held fuel cs x h=>by
 obtain ⟨xs,n,_,_,D,g,f⟩:=DataW.trod_struct underlying38 h
 have C:cs.length=2:=D.trans (by kernel_rfl)
 match cs,C with
 | [y,c1],_ =>
  obtain ⟨m,z⟩:=hT.field [y] g (f 0 _ rfl)
  obtain ⟨s,A⟩:=hT.field [c1] g (f 1 _ rfl)
  cases z; cases A
  exact ⟨rfl,⟨m,s⟩,rfl⟩⟩
theorem KH:dp prog 4 CB 1:=⟨by kernel_rfl,λ W T enc sp held fuel cs x h=>by
 obtain ⟨b,rfl,_⟩:=DataW.trod_bool underlying4 h
 exact ⟨rfl,b,rfl⟩⟩
theorem KI:dp prog 48 c0 5:=⟨by kernel_rfl,λ W T enc sp held fuel cs x h=>by
 obtain ⟨xs,n,_,_,I,g,f⟩:=DataW.trod_struct underlying48 h
 have G:cs.length=5:=I.trans (by kernel_rfl)
 match cs,G with
 | [A,c1,c2,c3,c4],_ =>
  obtain ⟨m,C⟩:=KG.field [A,c1] g (f 0 _ rfl)
  obtain ⟨s,D⟩:=hT.field [c2] g (f 1 _ rfl)
  obtain ⟨y,E⟩:=hT.field [c3] g (f 2 _ rfl)
  obtain ⟨z,F⟩:=KH.field [c4] g (f 3 _ rfl)
  cases C; cases D; cases E; cases F
  exact ⟨rfl,⟨m,s,y,z⟩,rfl⟩⟩
theorem KD:dp prog 30 (iy c0 5) 1:=dp.slice (by kernel_rfl) underlying30 (by decide) KI
theorem KE:dp prog 32 ss 5:=⟨by kernel_rfl,λ W T enc sp held fuel cs x h=>by
 obtain ⟨xs,n,_,_,M,g,f⟩:=DataW.trod_struct underlying32 h
 have L:cs.length=5:=M.trans (by kernel_rfl)
 match cs,L with
 | [C,c1,c2,c3,c4],_ =>
  obtain ⟨m,F⟩:=hT.field [C] g (f 0 _ rfl)
  obtain ⟨s,G⟩:=hT.field [c1] g (f 1 _ rfl)
  obtain ⟨y,I⟩:=hT.field [c2] g (f 2 _ rfl)
  obtain ⟨z,v3,J,D⟩:=KC.field [c3] g (f 3 _ rfl)
  obtain ⟨A,v4,K,E⟩:=KD.field [c4] g (f 4 _ rfl)
  cases F; cases G; cases I; cases J; cases K
  exact ⟨rfl,⟨m,s,y,z,A⟩,c3,c4,D,E,rfl⟩⟩
theorem Ky:dp prog 159 (CW .u16) 1:=dp.FL (by kernel_rfl) underlying159
theorem KF:dp prog 33 (iy (CW .u16) 1) 1:=dp.slice (by kernel_rfl) underlying33 (by decide) Ky
section
variable {W:World} {T:Type} {enc:TypeId × Value→T} {b0:Nat} {v:Value} {d:DataW T} {p:List MemPlace}
theorem BY(C:Value.okWide prog W .any b0 28 v)(h:DataW.Trod enc prog W 0 (λ _=>true) true 28 v d p):∃ (x:an) (f g m:Value),v = .agg #[iv x.ax,iv x.ad.ai,iv x.ad.ak,f,g,m]∧ah bz 5 (gz W) f x.ao∧ah (CI .i64) 1 (gz W) g x.Out∧ah bq 2 (gz W) m x.aV:=by
 obtain ⟨cs,rfl,_⟩:=okWide_struct underlying28 C
 obtain ⟨fuel,s⟩:=h
 obtain ⟨_,x,f,g,m,y,z,A,e⟩:=KB.rd _ _ _ _ _ _ _ _ s
 exact ⟨x,f,g,m,by rw [← Array.toArray_toList (xs:=cs),show cs.toList=_ from e],y,z,A⟩
theorem BZ(z:Value.okWide prog W .any b0 32 v)(h:DataW.Trod enc prog W 0 (λ _=>true) true 32 v d p):∃ (x:bg) (f g:Value),v = .agg #[iv x.a9,iv x.bh,iv x.a5,f,g]∧ah dx 2 (gz W) f x.a4∧ah c0 5 (gz W) g x.aN:=by
 obtain ⟨cs,rfl,_⟩:=okWide_struct underlying32 z
 obtain ⟨fuel,m⟩:=h
 obtain ⟨_,x,f,g,s,y,e⟩:=KE.rd _ _ _ _ _ _ _ _ m
 exact ⟨x,f,g,by rw [← Array.toArray_toList (xs:=cs),show cs.toList=_ from e],s,y⟩
theorem B0(z:Value.okWide prog W .any b0 33 v)(h:DataW.Trod enc prog W 0 (λ _=>true) true 33 v d p):∃ xs,ah (CI .u16) 1 (gz W) v xs∧∀ x∈xs,0≤x∧x≤65535:=by
 obtain ⟨a,len,cap,rfl⟩:=okWide_slice underlying33 z
 obtain ⟨fuel,s⟩:=h
 obtain ⟨_,x,v1,e,g⟩:=KF.rd _ _ _ _ _ _ _ _ s
 cases e
 refine ⟨x,g.Mn λ y es f=>f.1,λ y f=>?_⟩
 obtain ⟨_,_,m⟩:=g.each y f
 exact m
theorem sH(f:Value.okWide prog W .any b0 5 v)(h:DataW.Trod enc prog W 0 (λ _=>true) true 5 v d p):∃ x:Nat,v = .int .u8 x∧x < 256:=by
 obtain ⟨x,rfl,_,_,hw⟩:=open_int underlying5 f h
 simp only [Lit.wf,dn,IntKind.min,IntKind.max,IntKind.signed,IntKind.bits] at hw
 simp at hw
 exact ⟨x.toNat,by rw [Int.toNat_of_nonneg (by omega)],by omega⟩
end
theorem Fv:prog.globalNamed "lagan/bearing.checks"=some 0:=by kernel_rfl
theorem LY:(prog.globals[0]?).map (·.type)=some 173:=by kernel_rfl
theorem Fw:prog.globalNamed "lagan/hull.checks"=some 1:=by kernel_rfl
theorem LZ:(prog.globals[1]?).map (·.type)=some 179:=by kernel_rfl
abbrev l8:List (String × DataW Unit):=[("lagan/bearing.checks",Rows.laid_lagan_bearing_checks),("lagan/hull.checks",Rows.laid_lagan_hull_checks)]
theorem Cu(os:Os)(args:Array Value):laidMetH prog l8 ((World.doorLaid prog 14 os).forCall (λ _ _=>0) ⟨#[],args,[]⟩).memory :=
 laidMetH_of_parts3 (fuel:=8) (laidMet_of_run' 8 (by kernel_rfl) (by kernel_rfl)) (by kernel_rfl) (by kernel_rfl)
theorem J3{W:World}(h:laidMetH prog l8 W):aK (gz W) [] 0 0 [.func (.func 181) #[] #[],.func (.func 182) #[] #[],.func (.func 183) #[] #[]]:=by
 obtain ⟨g,t,cs,fuel,p,y,G,I,D⟩:=h.funcs (n := "lagan/bearing.checks") (List.mem_cons_self ..)
 obtain rfl:=ey (Fv.symm.trans y)
 obtain rfl:=ey (LY.symm.trans G)
 obtain ⟨xs,n,_,A,hlen,F,f⟩:=DataW.trod_array underlying173 (show DataW.trod (funcToken prog) prog W 0 (λ _=>true) true fuel 173 cs.toList=some (.agg [.held [40,108,97,103,97,110,47,98,101,97,114,105,110,103,46,98,111,111,107,41,46,99,104,97,114,116],.held [40,108,97,103,97,110,47,98,101,97,114,105,110,103,46,98,111,111,107,41,46,99,111,109,112,97,115,115,101,115],.held [40,108,97,103,97,110,47,98,101,97,114,105,110,103,46,98,111,111,107,41,46,119,105,116,110,101,115,115,101,115]],p) from D)
 rw [show prog.cellsOf 165=1 by kernel_rfl] at f
 have z:cs.toList.length=3:=hlen.trans (by kernel_rfl)
 obtain ⟨cs⟩:=cs
 simp only at z f
 match xs,F,cs,z with
 | [C,x1,x2],_,[J,c1,c2],_ =>
  simp only [Prod.mk.injEq,DataW.agg.injEq,List.map_cons,List.map_nil,List.cons.injEq,and_true] at A
  obtain ⟨⟨m,e1,s⟩,_⟩:=A
  obtain ⟨C,K⟩:=C
  obtain ⟨x1,L⟩:=x1
  obtain ⟨x2,M⟩:=x2
  simp only at m e1 s
  subst m e1 s
  obtain rfl:=func_of_trod (f0:=181) underlying165 (by kernel_rfl) (f 0 (by decide))
  obtain rfl:=func_of_trod (f0:=182) underlying165 (by kernel_rfl) (f 1 (by decide))
  obtain rfl:=func_of_trod (f0:=183) underlying165 (by kernel_rfl) (f 2 (by decide))
  intro j v E
  rw [Nat.zero_add]
  refine xb ?_
  rw [World.var?_cell y I j]
  simpa using E
theorem J4{W:World}(h:laidMetH prog l8 W):aK (gz W) [] 1 0 [.func (.func 187) #[] #[],.func (.func 188) #[] #[],.func (.func 189) #[] #[],.func (.func 190) #[] #[]]:=by
 obtain ⟨g,t,cs,fuel,p,z,I,J,E⟩:=h.funcs (n := "lagan/hull.checks") (List.mem_cons_of_mem _ (List.mem_cons_self ..))
 obtain rfl:=ey (Fw.symm.trans z)
 obtain rfl:=ey (LZ.symm.trans I)
 obtain ⟨xs,n,_,C,hlen,G,f⟩:=DataW.trod_array underlying179 (show DataW.trod (funcToken prog) prog W 0 (λ _=>true) true fuel 179 cs.toList=some (.agg [.held [40,108,97,103,97,110,47,104,117,108,108,46,98,111,111,107,41,46,104,117,108,108],.held [40,108,97,103,97,110,47,104,117,108,108,46,98,111,111,107,41,46,112,105,101,99,101,115],.held [40,108,97,103,97,110,47,104,117,108,108,46,98,111,111,107,41,46,111,117,116],.held [40,108,97,103,97,110,47,104,117,108,108,46,98,111,111,107,41,46,104,101,101,108,115]],p) from E)
 rw [show prog.cellsOf 134=1 by kernel_rfl] at f
 have A:cs.toList.length=4:=hlen.trans (by kernel_rfl)
 obtain ⟨cs⟩:=cs
 simp only at A f
 match xs,G,cs,A with
 | [D,x1,x2,x3],_,[K,c1,c2,c3],_ =>
  simp only [Prod.mk.injEq,DataW.agg.injEq,List.map_cons,List.map_nil,List.cons.injEq,and_true] at C
  obtain ⟨⟨m,e1,s,y⟩,_⟩:=C
  obtain ⟨D,L⟩:=D
  obtain ⟨x1,M⟩:=x1
  obtain ⟨x2,N⟩:=x2
  obtain ⟨x3,O⟩:=x3
  simp only at m e1 s y
  subst m e1 s y
  obtain rfl:=func_of_trod (f0:=187) underlying134 (by kernel_rfl) (f 0 (by decide))
  obtain rfl:=func_of_trod (f0:=188) underlying134 (by kernel_rfl) (f 1 (by decide))
  obtain rfl:=func_of_trod (f0:=189) underlying134 (by kernel_rfl) (f 2 (by decide))
  obtain rfl:=func_of_trod (f0:=190) underlying134 (by kernel_rfl) (f 3 (by decide))
  intro j v F
  rw [Nat.zero_add]
  refine xb ?_
  rw [World.var?_cell z J j]
  simpa using F
theorem J2{W:World}(h:laidMetH prog l8 W):dX (gz W):=⟨J3 h,J4 h⟩
end Go.Proofs.YtoaoffinglajbaaGreatDoor
