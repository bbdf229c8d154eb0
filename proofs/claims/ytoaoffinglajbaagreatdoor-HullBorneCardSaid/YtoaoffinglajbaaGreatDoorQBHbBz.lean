/- The statement as a plain law. Conditions: none. -/
import Derived.Test.YtoaoffinglajbaaGreatDoorQBHbLc
import Derived.Test.YtoaoffinglajbaaGreatDoorQBHbB
import Derived.Test.YtoaoffinglajbaaGreatDoorQBHbC
namespace Go.Proofs.YtoaoffinglajbaaGreatDoor
open Go.Lg Go.Proofs
set_option maxRecDepth 10000
theorem yK{k:bg}(f:VB k){c:eY}(h:c∈dz k):0≤c.ea.at_.aQ∧c.ea.at_.aQ≤6:=by
 unfold dz at h
 rw [List.mem_flatMap] at h
 obtain ⟨a,d,h⟩:=h
 unfold ju at h
 obtain ⟨m,_,rfl⟩:=List.mem_map.1 h
 unfold jm at d
 rw [List.mem_flatMap] at d
 obtain ⟨n,_,d⟩:=d
 obtain ⟨o,_,rfl⟩:=List.mem_map.1 d
 have hw:=f.wide
 have g:=Int.emod_nonneg (n:Int) (show k.a9≠0 by omega)
 have s:=Int.emod_lt_of_pos (n:Int) (show 0 < k.a9 by omega)
 show 0≤(n:Int) % k.a9∧(n:Int) % k.a9≤6
 omega
def cn(b:an)(d:Int)(r:Reach):an:=⟨d,r,b.ao,b.Out,[]⟩
theorem ma(b:an)(d:Int)(r:Reach):∀ (l out:List Int),dU (cn b d r) out l=dU b out l
 | [],_=>rfl
 | p::l,out=>by
  unfold dU
  rw [show l9 (cn b d r) out p=l9 b out p from rfl]
  cases l9 b out p with
  | some h=>rfl
  | none=>exact ma b d r l _
theorem p0(b:an)(d:Int)(r:Reach)(ba:Int)(ws out:List Int):∀ n,fb (cn b d r) ba ws out n=fb b ba ws out n
 | 0=>rfl
 | n+1=>by simp only [fb,p0 b d r ba ws out n]; rfl
theorem vx(b:an)(d:Int)(r:Reach):∀ j i,fR (cn b d r) j i=fR b j i
 | 0,_=>rfl
 | j+1,i=>by simp only [fR,vx b d r j (i+1)]; rfl
theorem vc(b:an)(d:Int)(r:Reach):∀ (j:Nat) (out pre:List Int),gi (cn b d r) j out pre=gi b j out pre
 | 0,_,_=>rfl
 | j+1,out,pre=>by
  simp only [gi]
  rw [show ef (cn b d r) out=ef b out from rfl]
  simp only [vc b d r j]
theorem As(b:an)(d:Int)(r r':Reach)(ba:Int)(ws:List Int):e0 (cn b d r) ba ws=e0 (cn b d r') ba ws:=by
 unfold e0
 simp only [show ∀ n,mo (cn b d r) ba ws n=mo (cn b d r') ba ws n from λ n=>(p0 b d r ba ws _ _).trans (p0 b d r' ba ws _ _).symm]
 rfl
theorem Ld{x y:Reach}(d:x.ai≤y.ai)(f:y.ak≤x.ak):List.Sublist (fP y) (fP x):=by
 by_cases h:y.ai≤y.ak
 ·have e:fP x=((List.range (y.ai - x.ai).toNat).map λ (j:Nat)=>x.ai+(j:Int))++(fP y++((List.range (x.ak - y.ak).toNat).map λ (j:Nat)=>y.ak+1+(j:Int))):=by
   unfold fP
   rw [show (x.ak+1 - x.ai).toNat=(y.ai - x.ai).toNat+((y.ak+1 - y.ai).toNat+(x.ak - y.ak).toNat) by omega,List.range_add,List.map_append,List.range_add,List.map_append,List.map_append,List.map_map,List.map_map,List.map_map]
   congr 1
   congr 1
   ·apply List.map_congr_left
    intro j _
    simp only [Function.comp]
    omega
   ·apply List.map_congr_left
    intro j _
    simp only [Function.comp]
    omega
  rw [e]
  exact (List.sublist_append_left _ _).trans (List.sublist_append_right _ _)
 ·have e:fP y=[]:=by unfold fP; rw [show (y.ak+1 - y.ai).toNat=0 by omega]; rfl
  rw [e]
  exact List.nil_sublist _
theorem tR{α β:Type}(f:α→List β):∀ {l m:List α},List.Sublist l m→List.Sublist (l.flatMap f) (m.flatMap f)
 | _,_,.slnil=>List.Sublist.refl _
 | _,_,.cons a h=>by rw [List.flatMap_cons]; exact (tR f h).trans (List.sublist_append_right _ _)
 | _,_,.cons_cons a h=>by rw [List.flatMap_cons,List.flatMap_cons]; exact (List.Sublist.refl _).append (tR f h)
theorem JU(b:an)(d:Int){r r':Reach}(g:r.ai≤r'.ai)(m:r'.ak≤r.ak):jM (cn b d r) (cn b d r'):=by
 have f:List.Sublist (bn (cn b d r')) (bn (cn b d r)):=by
  have y:(λ n=>((g4 (cn b d r')).filter (e0 (cn b d r') n)).map λ w=>(⟨n,w⟩:dq))=λ n=>((g4 (cn b d r)).filter (e0 (cn b d r) n)).map λ w=>(⟨n,w⟩:dq):=by
   funext n
   rw [show g4 (cn b d r')=g4 (cn b d r) from (vx b d r' _ _).trans (vx b d r _ _).symm,show e0 (cn b d r') n=e0 (cn b d r) n from funext λ w=>As b d r' r n w]
  unfold bn
  rw [y]
  exact tR _ (Ld g m)
 exact ⟨rfl,rfl,rfl,λ c out=>(p0 b d r' _ _ _ _).trans (p0 b d r _ _ _ _).symm,λ c s=>f.subset s,f.length_le,(vc b d r' _ _ _).trans (vc b d r _ _ _).symm,λ l out=>(ma b d r' _ _).trans (ma b d r _ _).symm⟩
theorem FU(b:an)(k:bg)(l:List Int)(x3 x4 x5:Nat)(C:nb l)(be:x4 < 256)(ag:x5 < 256):m3 b k l x3 x4 x5=some true:=by
 unfold m3
 rw [show (⟨b.ax,⟨b.ad.ai,b.ad.ak⟩,b.ao,b.Out,[]⟩:an)=cn b b.ax b.ad from rfl]
 simp only [IX,Lb,aD]
 obtain ⟨z,a2,a4⟩:=Fl k
 rw [a2]
 cases aB:l4 (cn b b.ax b.ad) with
 | true=>rfl
 | false =>
 by_cases A:cD (cn b b.ax b.ad)=0
 case neg =>
  have:(cD (cn b b.ax b.ad) == 0)=false:=by simpa using A
  rw [this]
  rfl
 cases z with
 | false=>rw [A]; rfl
 | true =>
 have L:=a4 rfl
 have s:=yh aB
 have f:=jg s A
 rw [A]
 simp only [Bool.not_false,beq_self_eq_true,Bool.and_true,Bool.not_true,aS,aD]
 obtain ⟨c,aq,V⟩:=b7 L (l:=l) C x3
 obtain ⟨o,aK,E⟩:=b8 L V
 have g:=E.valid L
 have J:=E.real V
 have W:∀ i,i < o.aN.length→c.a5.contains (i:Int)=false→ho (Go.Lg.nth o.aN i) (hz c)=true:=λ i hi=>E.right i (by rw [← E.len]; exact hi)
 obtain ⟨a7,G,aF⟩:=Ag g J W
 have aH:dz o≠[]:=λ e=>by rw [e] at G; cases G
 obtain ⟨e,no,am,he⟩:=b9 g aH
 have hle:=he.all a7 G
 rw [aF] at hle
 obtain ⟨bb,ar,bf⟩:=he.least
 obtain ⟨bd,au,bh⟩:=he.zM
 have bp:=yK g ar
 have bq:=yK g au
 rw [aq,aD,aK,aD,am,aD]
 dsimp only
 rw [bne_self_eq_false,aS,lV,show Go.Lg.b1 c.U.aQ e.ai e.ak=true from Go.Lg.fu.2 hle,aD,aD,Bool.not_true,aS,bZ (by omega) (by omega)]
 by_cases aa:e.ak - e.ai ≥ 3
 ·rw [cr aa]; rfl
 rw [cY aa,aS,aD]
 by_cases aY:o.aN.length=0
 ·rw [aY]; rfl
 rw [show ((o.aN.length:Int) == 0)=false from beq_false_of_ne (by omega),aS]
 have br:=g.w5
 have M:ec (i64 (x4:Int)) (o.aN.length:Int)=some ((x4 % o.aN.length:Nat):Int):=by
  rw [bZ (by omega) (by omega)]
  unfold ec
  rw [if_neg (by omega),Int.ofNat_tmod]
 have hi:x4 % o.aN.length < o.aN.length:=Nat.mod_lt _ (by omega)
 generalize x4 % o.aN.length=i at M hi
 have bk:=J.o6
 have bi:=g.jW
 rw [M,aD,bD,Go.Lg.a6 hi,aD,wi (by omega),aD]
 cases aU:(Go.Lg.nth o.aN i).dG with
 | true=>rfl
 | false =>
 rw [aS]
 cases av:c.a5.contains (i:Int) with
 | true=>rfl
 | false =>
 rw [aD,aS]
 have Z:=AX g hi
 obtain ⟨aT,aR⟩:=KQ J hi av W
 obtain ⟨a8,H,aG⟩:=Ag Z aT aR
 have S:dz (fp o i)≠[]:=λ e=>by rw [e] at H; cases H
 obtain ⟨now,bs,ap,I⟩:=b9 Z S
 have D:=I.all a8 H
 rw [aG] at D
 obtain ⟨ac,aw,ay⟩:=I.least
 obtain ⟨ae,az,aA⟩:=I.zM
 have Q:=(he.all ac (AW hi aw)).1
 have R:=(he.all ae (AW hi az)).2
 rw [ay] at Q
 rw [aA] at R
 rw [B2 g hi aU S,aD]
 dsimp only
 rw [ap,aD]
 dsimp only
 rw [bne_self_eq_false,aS,aS,cY (by omega),aS,cY (by omega),aS,lV,show Go.Lg.b1 c.U.aQ now.ai now.ak=true from Go.Lg.fu.2 D,aD,Bool.not_true,aD,aS]
 rw [show (⟨b.ax,⟨e.ai,e.ak⟩,b.ao,b.Out,[]⟩:an)=cn b b.ax e from rfl]
 have m:∀ d r,Small (cn b d r):=λ d r=>⟨s.pieces,s.out,by show (0:Nat)≤20; omega,s.each⟩
 have y:Valid (cn b b.ax e):=⟨m _ _,f.mb,by show -999≤e.ai∧e.ai≤e.ak∧e.ak≤999∧e.ak - e.ai < 3; omega,f.n1,f.n5,λ i hi=>⟨(f.each i hi).arm,(f.each i hi).weight,(f.each i hi).on⟩,(ma b b.ax e _ _).trans ((ma b b.ax b.ad _ _).symm.trans f.out),by show (0:Nat)≤4; omega,λ x a1=>by cases a1⟩
 obtain ⟨_,_,Y⟩:=KP y C
 have ab:=Af (cn b b.ax e) l (cn b b.ax e).ao.length
 have O:=Fp y ab (ba:=c.U.aQ) hle.1 hle.2 Y
 have K:=Lk y O
 rw [HF y C,aD,HW y O,aD]
 rw [show oy (cn b b.ax e) (hc (cn b b.ax e) c.U.aQ (fO (cn b b.ax e) l (cn b b.ax e).ao.length) ((cn b b.ax e).Out.length+1)) (nw (cn b b.ax e) c.U.aQ (fO (cn b b.ax e) l (cn b b.ax e).ao.length))=cn b (hc (cn b b.ax e) c.U.aQ (fO (cn b b.ax e) l (cn b b.ax e).ao.length) ((cn b b.ax e).Out.length+1)) e from rfl] at K ⊢
 generalize hc (cn b b.ax e) c.U.aQ (fO (cn b b.ax e) l (cn b b.ax e).ao.length) ((cn b b.ax e).Out.length+1)=d at K ⊢
 rw [show (⟨(cn b d e).ax,⟨now.ai,now.ak⟩,b.ao,b.Out,[]⟩:an)=cn b d now from rfl,uw (m d e),uw (m d now),aD,aD]
 by_cases F:cD (cn b d e)=0
 case neg=>rw [gg F]; rfl
 rw [F,bne_self_eq_false,aS]
 by_cases B:cD (cn b d now)=0
 case neg=>rw [gg B]; rfl
 rw [B,bne_self_eq_false,aD,aS]
 have aV:=jg (m d now) B
 have N:(⟨c.U.aQ,fO (cn b b.ax e) l (cn b b.ax e).ao.length⟩:dq)∈bn (cn b d now):=Cl aV ab D.1 D.2 Y (by rw [As b d now e]; exact K)
 have aI:bn (cn b d now)≠[]:=λ e=>by rw [e] at N; cases N
 have aj:=f.n5
 have af:=f.n1
 have bo:b.ao.length≤5:=aj
 have bm:1≤b.ao.length:=af
 obtain ⟨out,aP,aL,aM⟩:=LD (x:=x5) (P:=b.ao.length) ag (by omega)
 obtain ⟨a9,aJ,T⟩:=Is s f C
 have aO:Ord (cn b d e) a9:=⟨(ma b d e _ _).trans ((ma b b.ax b.ad _ _).symm.trans T.lift),T.len⟩
 have er:ec (i64 (x4:Int)) (b.ao.length:Int)=some ((x4 % b.ao.length:Nat):Int):=by
  rw [bZ (by omega) (by omega)]
  unfold ec
  rw [if_neg (by omega),Int.ofNat_tmod]
 have aC:x4 % b.ao.length < b.ao.length:=Nat.mod_lt _ (by omega)
 rw [aP,aD,aJ,aD,er,aD,(JU b d Q R).better (m _ _) (m _ _) F B aI aL aM aO aC,aD,a3]
end Go.Proofs.YtoaoffinglajbaaGreatDoor
