/- What sync does, walked for the machine. Conditions: none. -/
import Derived.Test.YtikficpdfaajlaaGreatDoorQSWLgE
import Derived.Test.YtikficpdfaajlaaGreatDoorQSWStF
namespace Go.Proofs.YtikficpdfaajlaaGreatDoor
open Go.Lg Go.Proofs Go.Conc Tryz
set_option maxRecDepth 100000
theorem CW:ee prog 144 (Extern.Race.marked .releaseMerge):=⟨⟨Tryz.f144,func144,by kernel_rfl,by kernel_rfl,by kernel_rfl,by kernel_rfl⟩⟩
theorem rQ:ee prog 145 (λ _=>do mark .disable; pure Extern.Race.none_):=⟨⟨Tryz.f145,func145,by kernel_rfl,by kernel_rfl,by kernel_rfl,by kernel_rfl⟩⟩
theorem ox:ee prog 146 (λ _=>do mark .enable; pure Extern.Race.none_):=⟨⟨Tryz.f146,func146,by kernel_rfl,by kernel_rfl,by kernel_rfl,by kernel_rfl⟩⟩
theorem CX:ee prog 147 (λ _=>pure (.bool false)):=⟨⟨Tryz.f147,func147,by kernel_rfl,by kernel_rfl,by kernel_rfl,by kernel_rfl⟩⟩
theorem KG:ee prog 152 (Extern.Race.marked .read):=⟨⟨Tryz.f152,func152,by kernel_rfl,by kernel_rfl,by kernel_rfl,by kernel_rfl⟩⟩
theorem KH:ee prog 156 Extern.Sync.semrelease:=⟨⟨Tryz.f156,func156,by kernel_rfl,by kernel_rfl,by kernel_rfl,by kernel_rfl⟩⟩
theorem uH:ee prog 159 (Extern.Race.marked .acquire):=⟨⟨Tryz.f159,func159,by kernel_rfl,by kernel_rfl,by kernel_rfl,by kernel_rfl⟩⟩
theorem KI:ee prog 162 (Extern.Race.marked .write):=⟨⟨Tryz.f162,func162,by kernel_rfl,by kernel_rfl,by kernel_rfl,by kernel_rfl⟩⟩
theorem KJ:ee prog 163 Extern.Sync.semacquire:=⟨⟨Tryz.f163,func163,by kernel_rfl,by kernel_rfl,by kernel_rfl,by kernel_rfl⟩⟩
theorem CY:ee prog 175 (Extern.Atomic.update (Op.intArith .add) .u64 true):=⟨⟨Tryz.f175,func175,by kernel_rfl,by kernel_rfl,by kernel_rfl,by kernel_rfl⟩⟩
theorem yw:ee prog 176 (Extern.Atomic.loadT (.int .u64)):=⟨⟨Tryz.f176,func176,by kernel_rfl,by kernel_rfl,by kernel_rfl,by kernel_rfl⟩⟩
theorem KL:ee prog 177 Extern.Atomic.storeT:=⟨⟨Tryz.f177,func177,by kernel_rfl,by kernel_rfl,by kernel_rfl,by kernel_rfl⟩⟩
theorem uI:ee prog 178 (Extern.Atomic.casT (.int .i32)):=⟨⟨Tryz.f178,func178,by kernel_rfl,by kernel_rfl,by kernel_rfl,by kernel_rfl⟩⟩
theorem C0:ee prog 180 (Extern.Atomic.update (Op.intArith .add) .i32 true):=⟨⟨Tryz.f180,func180,by kernel_rfl,by kernel_rfl,by kernel_rfl,by kernel_rfl⟩⟩
theorem KN:ee prog 182 (Extern.Atomic.casT (.int .u64)):=⟨⟨Tryz.f182,func182,by kernel_rfl,by kernel_rfl,by kernel_rfl,by kernel_rfl⟩⟩
theorem KO:ee prog 185 Extern.Sync.canSpin:=⟨⟨Tryz.f185,func185,by kernel_rfl,by kernel_rfl,by kernel_rfl,by kernel_rfl⟩⟩
theorem KP:ee prog 186 Extern.Sync.nothing:=⟨⟨Tryz.f186,func186,by kernel_rfl,by kernel_rfl,by kernel_rfl,by kernel_rfl⟩⟩
theorem C1:ee prog 188 Extern.OsHooks.nano:=⟨⟨Tryz.f188,func188,by kernel_rfl,by kernel_rfl,by kernel_rfl,by kernel_rfl⟩⟩
theorem KQ:ee prog 189 Extern.Sync.semacquire:=⟨⟨Tryz.f189,func189,by kernel_rfl,by kernel_rfl,by kernel_rfl,by kernel_rfl⟩⟩
theorem C2:ee prog 191 Extern.Sync.semrelease:=⟨⟨Tryz.f191,func191,by kernel_rfl,by kernel_rfl,by kernel_rfl,by kernel_rfl⟩⟩
def Dn:Nat→Option IntKind
 | 2 | 3=>some .i64
 | 21=>some .i32
 | 179=>some .u32
 | 186=>some .u64
 | _=>none
instance:j7 prog:=⟨Dn,λ t k h=>by
 unfold Dn at h
 split at h
 ·cases h; exact underlying2
 ·cases h; exact underlying3
 ·cases h; exact underlying21
 ·cases h; exact underlying179
 ·cases h; exact underlying186
 ·cases h⟩
theorem Aa:pB prog 247 219:=⟨181,underlying247,underlying219,by kernel_rfl⟩
theorem z9:pB prog 217 219:=⟨190,underlying217,underlying219,by kernel_rfl⟩
theorem Gr:pB prog 224 219:=⟨179,underlying224,underlying219,by kernel_rfl⟩
set_option maxHeartbeats 4000000
noncomputable abbrev FT (F:Fx):Fx:={ F with P:=prog }
section
variable {F:Fx} {R:aA} {H:ai} {k j:Nat} {fr:Frame} {cs:List Frame}
abbrev pm(F:Fx):Value:=.pointer (some (am F))
noncomputable abbrev WJ (F:Fx) (n k j:Nat) (T:Lp):=s4 prog F.B false (KW (FT F) n k j T)
def mO(F:Fx)(k j:Nat)(R:aA)(H:ai)(g:Goroutine):Prop:=∀ n js,js k=j→Own prog F.B false (KW (FT F) n k j (.ul js)) R ((F.bo,F.cont js)::H) g
theorem sW{c:Ctx}{st:St}{todo:List Item}{n:Nat}{T:Lp}(h:∀ m,m < n→∀ tmps,cf c.n st tmps→KW (FT F) (m+1) k j T R H (aS (aR c tmps todo) c.cs)):U (WJ F n k j T) c R H st todo:=U.SY (F:=FT F) h
def AU:Code→Option Code
 | .seq (.block _ _) r=>some r
 | .seq _ y=>AU y
 | _=>none
def lj:Code→Option Code
 | .loop c=>some c
 | .seq x y=>match lj x with | some c=>some c | none=>lj y
 | .block _ c=>lj c
 | .cond _ x y=>match lj x with | some c=>some c | none=>lj y
 | _=>none
noncomputable def mx:Code:=(AU (Tryz.f179.body.getD .skip)).getD .skip
noncomputable def jI:Code:=(lj (Tryz.f179.body.getD .skip)).getD .skip
theorem F1(m:mO F k j R H (aS (fr.finish (eE [])) cs))(n:Nat):U (WJ F n k j .le) ⟨179,.normal,none,139,[],fr::cs⟩ R H [(0,pm F)] [.code mx]:=by
 refine U.dF rfl rfl ?_
 refine U.seq ?_
 refine U.rg [0] ?_
 refine sW λ n _=>KW.ext rfl rfl rfl rfl ox rfl rfl λ _ w s _ f _ _=>.inr ⟨_,w,_,.lc,s,iX (by simp),.le,trivial,rfl,bZ.refl f,λ d b=>(?_:U (WJ F n k j .lc) _ _ _ _ _) d b⟩
 refine U.aP ?_
 refine U.rg [0,1,2] ?_
 refine U.lv 1 ?_
 refine sW λ n _=>KW.conv rfl rfl rfl rfl rfl Aa rfl wY ⟨by simp,by simp⟩ ig (λ _=>.lc) trivial λ d b=>(?_:U (WJ F n k j .la) _ _ _ _ _) d b
 refine sW λ n _=>KW.ext rfl rfl rfl rfl uH rfl rfl λ _ w s _ f _ _=>.inr ⟨_,w,_,.ul λ _=>0,s,ot (λ _ _=>by simp) rfl,.la,trivial,rfl,bZ.refl f,λ d b js g=>(?_:U (WJ F n k j (.ul js)) _ _ _ _ _) d b⟩
 refine U.aP ?_
 exact U.il func179 rfl (m n js g) (.inl rfl)
theorem nG{N N':Nat}{m:Wd}(h:m.ok N)(b:N≤N'):m.ok N':=⟨h.1,h.2.1,h.2.2.1,Nat.le_trans h.2.2.2 b⟩
def nT(F:Fx)(c:Lc)(b:Int):St:=[(0,pm F),(2,.int .i64 b),(3,.bool c.sv),(4,.bool c.aw),(5,.int .i64 c.it),(6,.int .i32 c.old.val)]
def wb(F:Fx)(x:Lc × Int):Prop:=x.1.old.ok F.N∧(x.1.aw=true→x.1.old.w=1)∧x.1.ws=decide (x.2≠0)∧x.1.it≤4
theorem iT{b:b5}{z y:Int}{p:Bool}(h:b=some z)(d:(z == y)=p):Value.bool (b.getD 0 == y) = .bool p:=by rw [h]; exact congrArg _ d
noncomputable def sV:Code:=match jI with | .block _ (.seq _ y)=>y | _=>.skip
noncomputable def SQ:Code:=match jI with | .block _ (.seq (.seq _ (.cond _ (.seq _ z) _)) _)=>z | _=>.skip
abbrev nS(fr:Frame)(cs:List Frame):Ctx:=⟨179,.normal,none,139,[],fr::cs⟩
def kW(F:Fx)(k j:Nat)(R:aA)(H:ai)(fr:Frame)(cs:List Frame)(m:Nat):Prop:=∀ x,wb F x→U (WJ F m k j (hd x.1)) (nS fr cs) R H (nT F x.1 x.2) [.code jI,.inLoop jI,.inBlock 0,.code mx]
theorem td{n:Nat}(y:∀ m,m < n→kW F k j R H fr cs m){old:Wd}{aw sv:Bool}{it:Nat}{ws:Bool}{b:Int}(p:ws=decide (b≠0)){st:St}(f:aB st [(0,pm F),(2,.int .i64 b),(3,.bool sv),(4,.bool aw),(5,.int .i64 it)]) :
  U (WJ F n k j (.r1 ⟨old,aw,sv,it,ws⟩)) (nS fr cs) R H st [.code SQ,.code sV,.inBlock 1,.inLoop jI,.inBlock 0,.code mx]:=by
 refine U.sub f ?_
 refine U.seq ?_
 refine U.rg [0] ?_
 refine U.ext rfl rfl rfl rfl rfl KP rfl (λ w=>yr) (.put rfl) ?_
 refine U.aP ?_
 refine U.seq ?_
 refine U.rg [0,1,2] ?_
 refine U.lv 3 ?_
 refine U.aP ?_
 refine U.seq ?_
 refine U.rg [0,1,2,3,4] ?_
 refine U.lv 3 ?_
 refine sW λ m hm=>KW.look rfl rfl rfl rfl rfl qN (by kernel_rfl) rfl ⟨by simp,by simp⟩ (λ _ h=>h) λ z s d=>⟨_,.r1,hE (by simp),λ A g=>vz ((?_:U (WJ F m k j (hd ⟨s.mu,aw,sv,it+1,ws⟩)) _ _ _ _ _) A g)⟩
 obtain ⟨t1,t2,t3⟩:=z
 dsimp only at t2
 refine U.lv 1 ?_
 refine U.aP ?_
 refine U.bM rfl ?_
 refine U.inLoop ?_
 refine U.is 5 (v':=.int .i64 ((it+1:Nat):Int)) rfl (by rw [show ((it+1:Nat):Int)=(it:Int)+1 by omega]; exact congrArg _ (GL (by constructor <;> omega))) ?_
 exact U.sub (st':=nT F ⟨s.mu,aw,sv,it+1,ws⟩ b) (bN.sub ⟨rfl,rfl,rfl,rfl,rfl,rfl,trivial⟩) (y m hm (⟨s.mu,aw,sv,it+1,ws⟩,b) ⟨d.1,d.2,p,by dsimp only; omega⟩)
theorem SJ{n:Nat}(Z:∀ m,m < n→kW F k j R H fr cs m){old:Wd}{aw sv:Bool}{it:Nat}{ws:Bool}{z:Int}(Y:wb F (⟨old,aw,sv,it,ws⟩,z))
  (S:∀ m,m≤n→∀ st,aB st (nT F ⟨old,aw,sv,it,ws⟩ z)→U (WJ F m k j (.c2 ⟨old,aw,sv,it,ws⟩)) (nS fr cs) R H st [.code sV,.inBlock 1,.inLoop jI,.inBlock 0,.code mx]) :
  U (WJ F n k j (hd ⟨old,aw,sv,it,ws⟩)) (nS fr cs) R H (nT F ⟨old,aw,sv,it,ws⟩ z) [.code jI,.inLoop jI,.inBlock 0,.code mx]:=by
 obtain ⟨G,T,g,V⟩:=Y
 dsimp only at G T g V
 have hN:=F.hN
 have h5:=nG G (show F.N≤5 by omega)
 obtain ⟨b1,b2,ac,ad,L,af,ah,ab,ak,ag,s3⟩:=Wd.jZ h5
 obtain ⟨al,am,an,ao⟩:=h5
 refine U.aT ?_
 refine U.seq ?_
 refine U.seq ?_
 refine U.rg [0,1,2,3,4,5,6] ?_
 refine U.lv 4 ?_
 by_cases I:old.l=1∧old.s=0
 ·have A:hd ⟨old,aw,sv,it,ws⟩ = .sq ⟨old,aw,sv,it,ws⟩:=if_pos I
  rw [A]
  refine U.is 17 (v':=.bool true) rfl (iT L (by simp [I])) ?_
  refine U.lv 1 ?_
  refine sW λ m hm=>KW.ext rfl rfl rfl rfl KO rfl rfl λ _ w s _ b _ _=>.inr ?_
  have no:∀ st,aB st (nT F ⟨old,aw,sv,it,ws⟩ z)→U (WJ F m k j (.c2 ⟨old,aw,sv,it,ws⟩)) (nS fr cs) R H st [.code sV,.inBlock 1,.inLoop jI,.inBlock 0,.code mx]:=λ st J=>S m (Nat.le_of_lt hm) st J
  by_cases h4:4≤it
  ·refine ⟨.bool false,w,#[],.c2 _,s,Kr (by dsimp only; omega),.wh,trivial,ig,bZ.refl b,λ f d=>(?_:U (WJ F m k j (.c2 ⟨old,aw,sv,it,ws⟩)) _ _ _ _ _) f d⟩
   refine U.lv 1 ?_
   refine U.aP ?_
   refine U.cU rfl rfl ?_
   refine U.skip ?_
   exact no _ (bN.sub ⟨rfl,rfl,rfl,rfl,rfl,rfl,trivial⟩)
  ·cases Q:w.spins
   ·refine ⟨.bool false,w.asked,#[],.c2 _,s,Q ▸ CO (by dsimp only; omega),.wh,trivial,ig,bZ.asked b,λ f d=>(?_:U (WJ F m k j (.c2 ⟨old,aw,sv,it,ws⟩)) _ _ _ _ _) f d⟩
    refine U.lv 1 ?_
    refine U.aP ?_
    refine U.cU rfl rfl ?_
    refine U.skip ?_
    exact no _ (bN.sub ⟨rfl,rfl,rfl,rfl,rfl,rfl,trivial⟩)
   ·refine ⟨.bool true,w.asked,#[],fb ⟨old,aw,sv,it,ws⟩,s,Q ▸ CO (by dsimp only; omega),.mE (by show it < 4; omega),hE (by simp),ig,bZ.asked b,λ f d=>QC ((?_:U (WJ F m k j (fb ⟨old,aw,sv,it,ws⟩)) _ _ _ _ _) f d)⟩
    refine U.lv 1 ?_
    refine U.aP ?_
    refine U.dF rfl rfl ?_
    refine U.seq ?_
    refine U.seq ?_
    refine U.rg [0,1,2,3,4,5,6,7,8,9,10,11,12,13,14,15,16,17,18,19,20] ?_
    have y:∀ m',m' < m→kW F k j R H fr cs m':=λ m' C=>Z m' (Nat.lt_trans C hm)
    have quiet:¬ (aw=false∧old.w=0∧old.n≠0)→fb ⟨old,aw,sv,it,ws⟩ = .r1 ⟨old,aw,sv,it,ws⟩:=λ h=>if_neg h
    cases aw
    case true =>
     rw [quiet (by simp)]
     refine U.lv 21 ?_
     refine U.aP ?_
     refine U.cU rfl rfl ?_
     refine U.skip ?_
     refine td y g ?_
     exact bN.sub ⟨rfl,rfl,rfl,rfl,rfl,trivial⟩
    case false =>
     refine U.lv 6 ?_
     by_cases K:old.w=0
     case neg =>
      rw [quiet (by simp [K])]
      refine U.is 26 (v':=.bool false) rfl (iT b2 (by rw [beq_eq_false_iff_ne]; omega)) ?_
      refine U.lv 15 ?_
      refine U.aP ?_
      refine U.cU rfl rfl ?_
      refine U.skip ?_
      refine td y g ?_
      exact bN.sub ⟨rfl,rfl,rfl,rfl,rfl,trivial⟩
     refine U.is 26 (v':=.bool true) rfl (iT b2 (by simp [K])) ?_
     refine U.lv 5 ?_
     have O:old.val.fdiv (2 ^ (min (3:Int).toNat IntKind.i32.bits))=(old.n:Int):=by simpa [eR] using s3
     by_cases E:old.n=0
     case pos =>
      rw [quiet (by simp [E])]
      refine U.is 31 (v':=.bool false) rfl (congrArg Value.bool (by show (old.val.fdiv (2 ^ (min (3:Int).toNat IntKind.i32.bits)) != 0)=false; rw [O,E]; rfl)) ?_
      refine U.lv 10 ?_
      refine U.aP ?_
      refine U.cU rfl rfl ?_
      refine U.skip ?_
      refine td y g ?_
      exact bN.sub ⟨rfl,rfl,rfl,rfl,rfl,trivial⟩
     refine U.is 31 (v':=.bool true) rfl (congrArg Value.bool (by show (old.val.fdiv (2 ^ (min (3:Int).toNat IntKind.i32.bits)) != 0)=true; rw [O,bne_iff_ne]; omega)) ?_
     rw [show fb ⟨old,false,sv,it,ws⟩ = .c1 ⟨old,false,sv,it,ws⟩ from if_pos ⟨rfl,K,E⟩]
     refine U.lv 8 ?_
     refine U.is 39 (v':=.int .i32 (Wd.val { old with w:=1 })) rfl (by rw [ab]; rfl) ?_
     refine sW λ p W=>KW.ext rfl rfl rfl rfl uI rfl rfl λ _ w s _ b J _=>.inr ?_
     have M:∀ m',m' < p→kW F k j R H fr cs m':=λ m' C=>y m' (Nat.lt_trans C W)
     by_cases D:s.mu=old
     ·subst D
      refine ⟨.bool true,_,_,.r1 ⟨s.mu,true,sv,it,ws⟩,_,pP b.cm (b.zm 0),.xr rfl,hE (by simp),ih (.inl rfl),bZ.mu b,λ f d=>(?_:U (WJ F p k j (.r1 ⟨s.mu,true,sv,it,ws⟩)) _ _ _ _ _) f d⟩
      refine U.lv 1 ?_
      refine U.aP ?_
      refine U.dF rfl rfl ?_
      refine U.rg [0] ?_
      refine U.lv 1 ?_
      refine U.aP ?_
      refine td M g ?_
      exact bN.sub ⟨rfl,rfl,rfl,rfl,rfl,trivial⟩
     ·refine ⟨.bool false,w,_,.r1 ⟨old,false,sv,it,ws⟩,s,rM b.cm (b.zm 0) (λ e=>D (Wd.val_inj J.1 G e)),.xq D,hE (by simp),lP (.inl rfl),bZ.refl b,λ f d=>(?_:U (WJ F p k j (.r1 ⟨old,false,sv,it,ws⟩)) _ _ _ _ _) f d⟩
      refine U.lv 1 ?_
      refine U.aP ?_
      refine U.cU rfl rfl ?_
      refine U.skip ?_
      refine td M g ?_
      exact bN.sub ⟨rfl,rfl,rfl,rfl,rfl,trivial⟩
 ·have A:hd ⟨old,aw,sv,it,ws⟩ = .c2 ⟨old,aw,sv,it,ws⟩:=if_neg I
  rw [A]
  refine U.is 17 (v':=.bool false) rfl (iT L (by rw [beq_eq_false_iff_ne]; show ¬ ((old.l:Int)+4 * old.s=1); omega)) ?_
  refine U.lv 3 ?_
  refine U.aP ?_
  refine U.cU rfl rfl ?_
  refine U.skip ?_
  exact S n (cq _) _ (bN.sub ⟨rfl,rfl,rfl,rfl,rfl,rfl,trivial⟩)
def kN(o:Wd):Wd:={ o with l:=if o.s=0 then 1 else o.l }
def lE(o:Wd):Wd:={ kN o with n:=if o.l=1∨o.s=1 then o.n+1 else o.n }
def pf(o:Wd)(sv:Bool):Wd:={ lE o with s:=if sv=true∧o.l=1 then 1 else o.s }
theorem AV{a b:Int}{p:Prop}[Decidable p](h:a=b↔p):(a == b)=decide p:=by
 by_cases d:p
 ·rw [c7 d]; exact beq_iff_eq.2 (h.2 d)
 ·rw [dH d]; exact beq_eq_false_iff_ne.2 λ e=>d (h.1 e)
theorem AX{a b:Int}{p:Prop}[Decidable p](h:a≠b↔p):(a != b)=decide p:=by
 by_cases d:p
 ·rw [c7 d]; exact bne_iff_ne.2 (h.2 d)
 ·rw [dH d,bne,beq_iff_eq.2 (Classical.byContradiction λ e=>d (h.1 e))]; rfl
theorem og{b:b5}{z y:Int}{p:Bool}(h:b=some z)(d:(z != y)=p):Value.bool (b.getD 0 != y) = .bool p:=by rw [h]; exact congrArg _ d
theorem uQ{b:b5}{z y:Int}(h:b=some z)(d:z=y):Value.int .i32 (b.getD 0) = .int .i32 y:=by rw [h,← d]; rfl
theorem U.mid{P:Program}{B:Base}{main:Bool}{ae:Jd P B main}{c:Ctx}{R:aA}{H:ai}{st:St}{todo K:List Item}(b:St)(h1:(∀ st,aB st b→U ae c R H st K)→U ae c R H st todo)(h2:U ae c R H b K):U ae c R H st todo:=h1 λ _ d=>U.sub d h2
abbrev sX(F:Fx)(c:Lc)(b:Int)(m:Wd):St:=(7,.int .i32 m.val)::nT F c b
noncomputable def Mj:Code:=match sV with | .seq _ (.seq _ (.seq _ (.seq _ (.seq _ (.seq _ (.cond _ x _))))))=>x | _=>.skip
noncomputable def C9:Code:=match Mj with | .seq _ (.seq _ (.seq _ x))=>x | _=>.skip
noncomputable def LZ:Code:=match C9 with | .seq _ (.seq _ x)=>x | _=>.skip
theorem TH{m:Wd}(h:m.ok 5)(hl:m.l=0)(hw:m.w=0)(d:m.s=1)(f:m.n≠0)(b:Bool):IntKind.i32.wrap (m.val+(if b then -7 else -11))=Wd.val ⟨1,m.w,if b then m.s else 0,m.n - 1⟩:=by
 obtain ⟨l,w,s,n⟩:=m
 dsimp only at hl hw d f
 subst hl hw d
 have:=h.2.2.2
 dsimp only at this
 cases b
 ·rw [wrap_i32 (by simp only [Wd.val]; split <;> omega) (by simp only [Wd.val]; split <;> omega)]
  simp only [Wd.val]; simp; omega
 ·rw [wrap_i32 (by simp only [Wd.val]; split <;> omega) (by simp only [Wd.val]; split <;> omega)]
  simp only [Wd.val]; simp; omega
theorem F0(O:mO F k j R H (aS (fr.finish (eE [])) cs)){n:Nat}(V:∀ m,m < n→kW F k j R H fr cs m){old:Wd}{aw sv:Bool}{it:Nat}{ws:Bool}{A:Int}(T:ws=decide (A≠0)){st:St}(S:aB st [(0,pm F),(2,.int .i64 A),(3,.bool sv)]) :
  U (WJ F n k j (.r2 ⟨old,aw,sv,it,ws⟩)) (nS fr cs) R H st [.code LZ,.inBlock 1,.inLoop jI,.inBlock 0,.code mx]:=by
 have hN:=F.hN
 refine U.sub S ?_
 refine U.seq ?_
 refine U.rg [0,1,2,3,4] ?_
 refine U.lv 3 ?_
 refine sW λ m hm=>KW.look rfl rfl rfl rfl rfl qN (by kernel_rfl) rfl ⟨by simp,by simp⟩ (λ _ h=>h) λ _ s d=>?_
 have h5:=nG d.1 (show (FT F).N≤5 from Nat.le_trans hN (by omega))
 obtain ⟨b1,b2,E,C,W,Y,af,ag,ah,ad,s3⟩:=Wd.jZ h5
 have D:s.mu.val.fdiv (2 ^ (min (3:Int).toNat IntKind.i32.bits))=(s.mu.n:Int):=by simpa [eR] using s3
 rcases d.2 with ⟨e1,y,G,Z⟩ | ⟨e1,y⟩
 ·refine ⟨_,.s9 e1,hE (by simp),λ g f=>(?_:U (WJ F m k j (.a1 (sv && s.mu.n != 1))) _ _ _ _ _) g f⟩
  refine U.lv 1 ?_
  refine U.aP ?_
  refine U.seq ?_
  refine U.seq ?_
  refine U.rg [0,1,2] ?_
  refine U.lv 3 ?_
  refine U.aP ?_
  refine U.is 107 (v':=.bool true) rfl (og C (by rw [e1]; rfl)) ?_
  refine U.dF rfl rfl ?_
  refine U.seq ?_
  refine U.seq ?_
  refine U.rg [0,1,2,3,4,5,6,7] ?_
  refine U.lv 3 ?_
  refine U.is 110 (v':=.bool false) rfl (og E (by rw [y,G]; rfl)) ?_
  refine U.lv 4 ?_
  refine U.is 114 (v':=.bool false) rfl (congrArg Value.bool (by show (s.mu.val.fdiv (2 ^ (min (3:Int).toNat IntKind.i32.bits)) == 0)=false; rw [D,beq_eq_false_iff_ne]; omega)) ?_
  refine U.lv 1 ?_
  refine U.aP ?_
  refine U.cU rfl rfl ?_
  refine U.skip ?_
  refine U.seq ?_
  refine U.rg [0] ?_
  refine U.lv 1 ?_
  refine U.aP ?_
  refine U.seq ?_
  refine U.seq ?_
  refine U.rg [0,1,2,3,4,5,6] ?_
  refine U.mid (K:=?K) [(0,pm F),(9,.int .i32 (-7)),(123,.bool (!(sv && s.mu.n != 1)))] ?h1 ?h2
  case h1 =>
   intro h
   cases sv
   ·refine U.lv 7 ?_
    refine U.aP ?_
    refine h _ ?_
    exact bN.sub ⟨rfl,rfl,rfl,trivial⟩
   ·refine U.lv 6 ?_
    refine U.is 122 (v':=.bool (!(true && s.mu.n != 1))) rfl (congrArg Value.bool (by
     show (s.mu.val.fdiv (2 ^ (min (3:Int).toNat IntKind.i32.bits)) == 1)=_
     rw [D]
     by_cases e:s.mu.n=1
     ·rw [e]; rfl
     ·rw [beq_eq_false_iff_ne.2 (by omega)]; simp [e])) ?_
    refine U.lv 1 ?_
    refine U.aP ?_
    refine h _ ?_
    exact bN.sub ⟨rfl,rfl,rfl,trivial⟩
  generalize (sv && s.mu.n != 1)=b
  refine U.join (st':=[(0,pm F),(9,.int .i32 (if b then -7 else -11))]) rfl (λ hb h=>?_) (λ hb h=>?_) ?_
  ·cases b
   ·refine U.rg [0,1,2] ?_
    refine U.lv 3 ?_
    refine U.aP ?_
    refine U.sub ?_ h
    exact bN.sub ⟨rfl,rfl,trivial⟩
   ·cases hb
  ·cases b
   ·cases hb
   ·refine U.skip ?_
    refine U.sub ?_ h
    exact bN.sub ⟨rfl,rfl,trivial⟩
  refine U.seq ?_
  refine U.rg [0,1,2,3,4] ?_
  refine U.lv 4 ?_
  refine sW λ p ac=>KW.ext rfl rfl rfl rfl C0 rfl rfl λ _ w s _ z d _=>.inr ?_
  obtain ⟨Q,I,J,L,M,ab⟩:=d
  have e:=TH (nG Q (show (FT F).N≤5 from Nat.le_trans hN (by omega))) J L I M b
  refine ⟨_,_,_,.le,_,na z.cm (z.zm 0),.a1,trivial,ih (.inl rfl),by rw [e]; exact bZ.mu z,λ g f=>(?_:U (WJ F p k j .le) _ _ _ _ _) g f⟩
  refine U.aP ?_
  refine U.bM rfl ?_
  refine U.sub ?_ (F1 O p)
  exact bN.sub ⟨rfl,trivial⟩
 ·refine ⟨_,.mr e1,hE (by simp),λ g f=>vz ((?_:U (WJ F m k j (hd ⟨s.mu,true,sv,0,ws⟩)) _ _ _ _ _) g f)⟩
  refine U.lv 1 ?_
  refine U.aP ?_
  refine U.seq ?_
  refine U.seq ?_
  refine U.rg [0,1,2] ?_
  refine U.lv 3 ?_
  refine U.aP ?_
  refine U.is 107 (v':=.bool false) rfl (og C (by rw [e1]; rfl)) ?_
  refine U.cU rfl rfl ?_
  refine U.skip ?_
  refine U.seq ?_
  refine U.rg [0] ?_
  refine U.lv 1 ?_
  refine U.aP ?_
  refine U.rg [0] ?_
  refine U.lv 1 ?_
  refine U.aP ?_
  refine U.bg ?_
  refine U.inLoop ?_
  refine U.sub ?_ (V m hm (⟨s.mu,true,sv,0,ws⟩,A) ⟨d.1,λ _=>y,T,Nat.zero_le _⟩)
  exact bN.sub ⟨rfl,rfl,rfl,rfl,rfl,rfl,trivial⟩
theorem FZ(I:∀ w:World,F.B.os w.os→F.B.os w.later.os)(C:mO F k j R H (aS (fr.finish (eE [])) cs)){n:Nat}(L:∀ m,m < n→kW F k j R H fr cs m){old:Wd}{aw sv:Bool}{it:Nat}{ws q:Bool}{g:Int}(D:ws=decide (g≠0)){st:St}(K:aB st [(0,pm F),(2,.int .i64 g),(3,.bool sv),(8,.bool q)]) :
  U (WJ F n k j (.s1 ⟨old,aw,sv,it,ws⟩)) (nS fr cs) R H st [.code C9,.inBlock 1,.inLoop jI,.inBlock 0,.code mx]:=by
 refine U.sub K ?_
 refine U.seq ?_
 refine U.rg [0,1,2,3,4] ?_
 refine U.lv 4 ?_
 refine sW λ m hm=>KW.ext rfl rfl rfl rfl KQ rfl rfl λ _ w s _ b _ _=>?_
 have E:∀ m',m' < m→kW F k j R H fr cs m':=λ m' y=>L m' (Nat.lt_trans y hm)
 cases A:s.ms with
 | zero=>exact .inl ⟨⟨_,rfl⟩,rfl,AE rfl (by rw [b.uf,A]; rfl)⟩
 | succ u =>
  have G:((u+1:Nat):Int) - 1=(u:Int):=by omega
  refine .inr ⟨_,_,_,if sv then .r2 ⟨old,aw,sv,it,ws⟩ else .t2 ⟨old,aw,sv,it,ws⟩,_,CN (n:=((u+1:Nat):Int)) rfl (by rw [← A]; exact b.uf) (by omega) (b.zm 1),.s1 A,hE (by simp),rn (.inl rfl),by rw [G]; exact bZ.ms b,λ f d=>?_⟩
  cases sv
  ·refine (?_:U (WJ F m k j (.t2 ⟨old,aw,false,it,ws⟩)) _ _ _ _ _) f d
   refine U.aP ?_
   refine U.seq ?_
   refine U.rg [0,1,2,3,4,5,6,7] ?_
   refine U.lv 2 ?_
   refine sW λ p J=>KW.nano I rfl rfl rfl rfl C1 (by kernel_rfl) rfl rfl ⟨by simp,by simp⟩ ig λ _ z=>?_
   refine ⟨.r2 ⟨old,aw,decide (IntKind.wrap .i64 (z - g) > 1000000),it,ws⟩,λ s=>.t2 _,hE (by simp),λ f d=>(?_:U (WJ F p k j (.r2 ⟨old,aw,decide (IntKind.wrap .i64 (z - g) > 1000000),it,ws⟩)) _ _ _ _ _) f d⟩
   refine U.lv 5 ?_
   refine U.aP ?_
   refine F0 C (λ m' y=>E m' (Nat.lt_trans y J)) D ?_
   exact bN.sub ⟨rfl,rfl,rfl,trivial⟩
  ·refine (?_:U (WJ F m k j (.r2 ⟨old,aw,true,it,ws⟩)) _ _ _ _ _) f d
   refine U.aP ?_
   refine U.seq ?_
   refine U.rg [0,1,2,3,4,5,6,7] ?_
   refine U.lv 8 ?_
   refine U.aP ?_
   refine F0 C E D ?_
   exact bN.sub ⟨rfl,rfl,rfl,trivial⟩
theorem SF(L:∀ w:World,F.B.os w.os→F.B.os w.later.os)(M:mO F k j R H (aS (fr.finish (eE [])) cs)){n:Nat}(ag:∀ m,m < n→kW F k j R H fr cs m){old:Wd}{aw sv:Bool}{it:Nat}{ws:Bool}{b:Int}(af:wb F (⟨old,aw,sv,it,ws⟩,b)){st:St}(ad:aB st (nT F ⟨old,aw,sv,it,ws⟩ b)) :
  U (WJ F n k j (.c2 ⟨old,aw,sv,it,ws⟩)) (nS fr cs) R H st [.code sV,.inBlock 1,.inLoop jI,.inBlock 0,.code mx]:=by
 obtain ⟨E,T,A,V⟩:=af
 dsimp only at E T A V
 have hN:=F.hN
 have h5:old.ok 5:=nG E (by omega)
 have h4:old.ok 4:=nG E (by omega)
 obtain ⟨b1,b2,ak,ab,C,al,ah,ao,ap,an,s3⟩:=Wd.jZ h5
 obtain ⟨ar,S,W,au⟩:=h4
 have k1:(kN old).ok 5:=⟨by simp only [kN]; split <;> omega,S,W,by simp only [kN]; omega⟩
 have k2:(lE old).ok 5:=⟨k1.1,S,W,by simp only [lE]; split <;> omega⟩
 have k3:(pf old sv).ok 5:=⟨k1.1,S,by simp only [pf]; split <;> omega,k2.2.2.2⟩
 refine U.sub ad ?_
 refine U.seq ?_
 refine U.rg [0,1] ?_
 refine U.lv 2 ?_
 refine U.aP ?_
 refine U.seq ?_
 refine U.seq ?_
 refine U.rg [0,1,2] ?_
 refine U.lv 3 ?_
 refine U.aP ?_
 refine U.is 52 (v':=.bool (decide (old.s=0))) rfl (iT ab (AV (by omega))) ?_
 refine U.join (st':=sX F ⟨old,aw,sv,it,ws⟩ b (kN old)) rfl (λ hb h=>?_) (λ hb h=>?_) ?_
 ·refine U.rg [0,1,2] ?_
  refine U.lv 3 ?_
  refine U.aP ?_
  refine U.is 7 (v':=.int .i32 (kN old).val) rfl (uQ ah (by simp [kN,of_decide_eq_true hb])) ?_
  refine U.sub ?_ h
  exact bN.sub ⟨rfl,rfl,rfl,rfl,rfl,rfl,rfl,trivial⟩
 ·refine U.skip ?_
  refine U.is 7 (v':=.int .i32 (kN old).val) rfl (by simp [kN,of_decide_eq_false hb]) ?_
  refine U.sub ?_ h
  exact bN.sub ⟨rfl,rfl,rfl,rfl,rfl,rfl,rfl,trivial⟩
 refine U.seq ?_
 refine U.seq ?_
 refine U.rg [0,1,2] ?_
 refine U.lv 3 ?_
 refine U.aP ?_
 refine U.is 57 (v':=.bool (decide (old.l=1∨old.s=1))) rfl (og C (AX (by omega))) ?_
 refine U.join (st':=sX F ⟨old,aw,sv,it,ws⟩ b (lE old)) rfl (λ hb h=>?_) (λ hb h=>?_) ?_
 ·refine U.rg [0,1,2] ?_
  refine U.lv 3 ?_
  refine U.aP ?_
  have e:(kN old).val+8=(lE old).val:=by simp only [lE,kN,Wd.val,of_decide_eq_true hb,if_true]; omega
  have f:=Wd.fit k1
  refine U.is 7 (v':=.int .i32 (lE old).val) rfl (by rw [← e]; exact congrArg _ (wrap_i32 (by omega) (by omega))) ?_
  refine U.sub ?_ h
  exact bN.sub ⟨rfl,rfl,rfl,rfl,rfl,rfl,rfl,trivial⟩
 ·refine U.skip ?_
  refine U.is 7 (v':=.int .i32 (lE old).val) rfl (by simp only [lE,of_decide_eq_false hb,if_false]; rfl) ?_
  refine U.sub ?_ h
  exact bN.sub ⟨rfl,rfl,rfl,rfl,rfl,rfl,rfl,trivial⟩
 refine U.seq ?_
 refine U.seq ?_
 refine U.rg [0,1,2,3,4,5] ?_
 refine U.mid (K:=?K) ((65,.bool (decide (sv=true∧old.l=1)))::sX F ⟨old,aw,sv,it,ws⟩ b (lE old)) ?h1 ?h2
 case h1 =>
  intro h
  cases sv
  ·refine U.lv 6 ?_
   refine U.aP ?_
   refine h _ ?_
   exact bN.sub ⟨rfl,rfl,rfl,rfl,rfl,rfl,rfl,rfl,trivial⟩
  ·refine U.lv 5 ?_
   refine U.is 64 (v':=.bool (decide (true=true∧old.l=1))) rfl (og b1 (AX (by simp; omega))) ?_
   refine U.lv 1 ?_
   refine U.aP ?_
   refine h _ ?_
   exact bN.sub ⟨rfl,rfl,rfl,rfl,rfl,rfl,rfl,rfl,trivial⟩
 refine U.join (st':=sX F ⟨old,aw,sv,it,ws⟩ b (pf old sv)) rfl (λ hb h=>?_) (λ hb h=>?_) ?_
 ·refine U.rg [0,1,2] ?_
  refine U.lv 3 ?_
  refine U.aP ?_
  have o:=(Wd.jZ k2).2.2.2.2.2.2.2.2.1
  refine U.is 7 (v':=.int .i32 (pf old sv).val) rfl (uQ o (by simp only [pf,of_decide_eq_true hb,and_self,if_true])) ?_
  refine U.sub ?_ h
  exact bN.sub ⟨rfl,rfl,rfl,rfl,rfl,rfl,rfl,trivial⟩
 ·refine U.skip ?_
  refine U.is 7 (v':=.int .i32 (pf old sv).val) rfl (by simp only [pf,of_decide_eq_false hb,if_false]; rfl) ?_
  refine U.sub ?_ h
  exact bN.sub ⟨rfl,rfl,rfl,rfl,rfl,rfl,rfl,trivial⟩
 refine U.seq ?_
 refine U.seq ?_
 refine U.rg [0] ?_
 refine U.lv 1 ?_
 refine U.aP ?_
 refine U.join (st':=sX F ⟨old,aw,sv,it,ws⟩ b (nw ⟨old,aw,sv,it,ws⟩)) rfl (λ hb h=>?_) (λ hb h=>?_) ?_
 ·dsimp only at hb
  subst hb
  obtain ⟨_,Z,_,_,_,_,_,_,_,Y,_⟩:=Wd.jZ k3
  refine U.seq ?_
  refine U.seq ?_
  refine U.rg [0,1,2] ?_
  refine U.lv 3 ?_
  refine U.aP ?_
  have am:=T rfl
  refine U.is 71 (v':=.bool false) rfl (iT Z (by rw [beq_eq_false_iff_ne]; show ¬ (2 * (old.w:Int)=0); omega)) ?_
  refine U.cU rfl rfl ?_
  refine U.skip ?_
  refine U.rg [0,1,2] ?_
  refine U.lv 3 ?_
  refine U.aP ?_
  refine U.is 7 (v':=.int .i32 (nw ⟨old,true,sv,it,ws⟩).val) rfl (uQ Y rfl) ?_
  refine U.sub ?_ h
  exact bN.sub ⟨rfl,rfl,rfl,rfl,rfl,rfl,rfl,trivial⟩
 ·dsimp only at hb
  subst hb
  refine U.skip ?_
  refine U.is 7 (v':=.int .i32 (nw ⟨old,false,sv,it,ws⟩).val) rfl rfl ?_
  refine U.sub ?_ h
  exact bN.sub ⟨rfl,rfl,rfl,rfl,rfl,rfl,rfl,trivial⟩
 refine U.seq ?_
 refine U.rg [0,1,2,3,4,5] ?_
 refine U.lv 5 ?_
 refine sW λ m hm=>KW.ext rfl rfl rfl rfl uI rfl rfl λ _ w s _ y G _=>.inr ?_
 have Q:∀ m',m' < m→kW F k j R H fr cs m':=λ m' J=>ag m' (Nat.lt_trans J hm)
 by_cases N:s.mu=old
 ·subst N
  by_cases D:s.mu.l=0∧s.mu.s=0
  ·
   refine ⟨.bool true,_,_,.le,_,pP y.cm (y.zm 0),.xy rfl D.1 D.2,trivial,ih (.inl rfl),bZ.mu y,λ g d=>(?_:U (WJ F m k j .le) _ _ _ _ _) g d⟩
   refine U.aP ?_
   refine U.dF rfl rfl ?_
   refine U.seq ?_
   refine U.seq ?_
   refine U.rg [0,1,2] ?_
   refine U.lv 3 ?_
   refine U.aP ?_
   refine U.is 83 (v':=.bool true) rfl (iT C (by rw [D.1,D.2]; rfl)) ?_
   refine U.dF rfl rfl ?_
   refine U.bM rfl ?_
   refine U.sub ?_ (F1 M m)
   exact bN.sub ⟨rfl,trivial⟩
  ·
   have ac:s.mu.l=1∨s.mu.s=1:=by omega
   refine ⟨.bool true,_,_,if ws then .s1 ⟨s.mu,aw,sv,it,ws⟩ else .t1 ⟨s.mu,aw,sv,it,ws⟩,_,pP y.cm (y.zm 0),.lQ rfl ac,hE (by simp),ih (.inl rfl),bZ.mu y,λ g d=>?_⟩
   by_cases hw:b=0
   ·have I:ws=false:=by rw [A]; simp [hw]
    subst I
    refine (?_:U (WJ F m k j (.t1 ⟨s.mu,aw,sv,it,false⟩)) _ _ _ _ _) g d
    refine U.aP ?_
    refine U.dF rfl rfl ?_
    refine U.seq ?_
    refine U.seq ?_
    refine U.rg [0,1,2] ?_
    refine U.lv 3 ?_
    refine U.aP ?_
    refine U.is 83 (v':=.bool false) rfl (iT C (by rw [beq_eq_false_iff_ne]; omega)) ?_
    refine U.cU rfl rfl ?_
    refine U.skip ?_
    refine U.seq ?_
    refine U.rg [0,1,2] ?_
    refine U.lv 3 ?_
    refine U.aP ?_
    refine U.seq ?_
    refine U.seq ?_
    refine U.rg [0,1] ?_
    refine U.lv 2 ?_
    refine U.aP ?_
    refine U.is 87 (v':=.bool true) rfl (congrArg Value.bool (beq_iff_eq.2 hw)) ?_
    refine U.dF rfl rfl ?_
    refine U.rg [0,1] ?_
    refine sW λ p O=>KW.nano L rfl rfl rfl rfl C1 (by kernel_rfl) rfl rfl ⟨by simp,by simp⟩ ig λ _ z=>?_
    refine ⟨.s1 ⟨s.mu,aw,sv,it,decide (z≠0)⟩,λ s=>.t1 _,hE (by simp),λ g d=>(?_:U (WJ F p k j (.s1 ⟨s.mu,aw,sv,it,decide (z≠0)⟩)) _ _ _ _ _) g d⟩
    refine U.lv 1 ?_
    refine U.aP ?_
    refine FZ L M (q:=(b != 0)) (λ m' J=>Q m' (Nat.lt_trans J O)) rfl ?_
    exact bN.sub ⟨rfl,rfl,rfl,rfl,trivial⟩
   ·have I:ws=true:=by rw [A]; simp [hw]
    subst I
    refine (?_:U (WJ F m k j (.s1 ⟨s.mu,aw,sv,it,true⟩)) _ _ _ _ _) g d
    refine U.aP ?_
    refine U.dF rfl rfl ?_
    refine U.seq ?_
    refine U.seq ?_
    refine U.rg [0,1,2] ?_
    refine U.lv 3 ?_
    refine U.aP ?_
    refine U.is 83 (v':=.bool false) rfl (iT C (by rw [beq_eq_false_iff_ne]; omega)) ?_
    refine U.cU rfl rfl ?_
    refine U.skip ?_
    refine U.seq ?_
    refine U.rg [0,1,2] ?_
    refine U.lv 3 ?_
    refine U.aP ?_
    refine U.seq ?_
    refine U.seq ?_
    refine U.rg [0,1] ?_
    refine U.lv 2 ?_
    refine U.aP ?_
    refine U.is 87 (v':=.bool false) rfl (congrArg Value.bool (beq_eq_false_iff_ne.2 hw)) ?_
    refine U.cU rfl rfl ?_
    refine U.skip ?_
    refine FZ L M (q:=(b != 0)) Q A ?_
    exact bN.sub ⟨rfl,rfl,rfl,rfl,trivial⟩
 ·
  refine ⟨.bool false,w,_,.r3 ⟨old,aw,sv,it,ws⟩,s,rM y.cm (y.zm 0) (λ e=>N (Wd.val_inj G.1 E e)),.xz N,hE (by simp),lP (.inl rfl),bZ.refl y,λ g d=>(?_:U (WJ F m k j (.r3 ⟨old,aw,sv,it,ws⟩)) _ _ _ _ _) g d⟩
  refine U.aP ?_
  refine U.cU rfl rfl ?_
  refine U.rg [0,1,2,3,4] ?_
  refine U.lv 3 ?_
  refine sW λ p O=>KW.look rfl rfl rfl rfl rfl qN (by kernel_rfl) rfl ⟨by simp,by simp⟩ (λ _ h=>h) λ aq s G=>⟨_,.r3,hE (by simp),λ g d=>vz ((?_:U (WJ F p k j (hd ⟨s.mu,aw,sv,it,ws⟩)) _ _ _ _ _) g d)⟩
  refine U.lv 1 ?_
  refine U.aP ?_
  refine U.bg ?_
  refine U.inLoop ?_
  refine U.sub ?_ (Q p O (⟨s.mu,aw,sv,it,ws⟩,b) ⟨G.1,G.2,A,V⟩)
  exact bN.sub ⟨rfl,rfl,rfl,rfl,rfl,rfl,trivial⟩
theorem SG(g:∀ w:World,F.B.os w.os→F.B.os w.later.os)(p:mO F k j R H (aS (fr.finish (eE [])) cs))(n:Nat):kW F k j R H fr cs n:=λ x b =>
 U.head (Jn:=λ n (x:Lc × Int)=>WJ F n k j (hd x.1)) (S:=λ x=>nT F x.1 x.2) (ok:=wb F) (λ n d x b=>by
  obtain ⟨⟨old,aw,sv,it,ws⟩,y⟩:=x
  exact SJ d b λ m hm st s=>SF g p (λ m' f=>d m' (Nat.lt_of_lt_of_le f hm)) b s) n x b
end
section
variable {F:Fx} {R:aA} {H:ai} {k j:Nat}
theorem SH(b:∀ w:World,F.B.os w.os→F.B.os w.later.os)(n:Nat):fJ prog ((WJ F n k j .r0).J R H) (mO F k j R H) 179 [pm F]:=fJ.ha func179 rfl rfl rfl λ fr cs d=>by
 refine U.seq ?_
 refine U.rg [0] ?_
 refine U.lv 1 ?_
 refine U.aP ?_
 refine U.seq ?_
 refine U.rg [0] ?_
 refine U.lv 1 ?_
 refine U.aP ?_
 refine U.seq ?_
 refine U.rg [0] ?_
 refine U.lv 1 ?_
 refine U.aP ?_
 refine U.seq ?_
 refine U.rg [0] ?_
 refine U.lv 1 ?_
 refine U.aP ?_
 refine U.seq ?_
 refine U.rg [0,1,2,3,4] ?_
 refine U.lv 3 ?_
 refine sW λ m hm=>KW.look rfl rfl rfl rfl rfl qN (by kernel_rfl) rfl ⟨by simp,by simp⟩ (λ _ h=>h) λ y s f=>⟨_,.r0,hE (by simp),λ p g=>vz ((?_:U (WJ F m k j (hd ⟨s.mu,false,false,0,false⟩)) _ _ _ _ _) p g)⟩
 refine U.lv 1 ?_
 refine U.aP ?_
 refine U.seq ?_
 refine U.aT ?_
 refine U.enterLoop ?_
 refine U.sub ?_ (SG b d m (⟨s.mu,false,false,0,false⟩,0) ⟨f.1,by simp,by simp,Nat.zero_le _⟩)
 exact bN.sub ⟨rfl,rfl,rfl,rfl,rfl,rfl,trivial⟩
theorem Mk(A:∀ w:World,F.B.os w.os→F.B.os w.later.os)(n:Nat):fJ prog ((WJ F n k j .ld).J R H) (mO F k j R H) 157 [pm F]:=fJ.ha func157 rfl rfl rfl λ fr cs z=>by
 refine U.seq ?_
 refine U.rg [0] ?_
 refine sW λ m hm=>KW.ext rfl rfl rfl rfl rQ rfl rfl λ _ w s _ f _ _=>.inr ⟨_,w,_,.l0,s,iX (by simp),.ld,trivial,rfl,bZ.refl f,λ d b=>(?_:U (WJ F m k j .l0) _ _ _ _ _) d b⟩
 refine U.aP ?_
 refine U.seq ?_
 refine U.seq ?_
 refine U.rg [0,1,2,3] ?_
 refine U.lv 3 ?_
 refine sW λ p D=>KW.ext rfl rfl rfl rfl uI rfl rfl λ _ w s _ f C _=>.inr ?_
 by_cases g:s.mu = .zero
 ·refine ⟨.bool true,_,_,.le,_,pP (v:=0) (by have e:=f.cm; rw [g] at e; exact e) (f.zm 0),.Dr g,trivial,ih (.inl rfl),bZ.mu (m:=⟨1,0,0,0⟩) f,λ d b=>(?_:U (WJ F p k j .le) _ _ _ _ _) d b⟩
  refine U.aP ?_
  refine U.dF rfl rfl ?_
  refine U.seq ?_
  refine U.dF rfl rfl ?_
  refine U.seq ?_
  refine U.rg [0] ?_
  refine sW λ n _=>KW.ext rfl rfl rfl rfl ox rfl rfl λ _ w s _ f _ _=>.inr ⟨_,w,_,.lc,s,iX (by simp),.le,trivial,rfl,bZ.refl f,λ d b=>(?_:U (WJ F n k j .lc) _ _ _ _ _) d b⟩
  refine U.aP ?_
  refine U.rg [0,1,2] ?_
  refine U.lv 1 ?_
  refine sW λ n _=>KW.conv rfl rfl rfl rfl rfl Aa rfl wY ⟨by simp,by simp⟩ ig (λ _=>.lc) trivial λ d b=>(?_:U (WJ F n k j .la) _ _ _ _ _) d b
  refine sW λ n _=>KW.ext rfl rfl rfl rfl uH rfl rfl λ _ w s _ f _ _=>.inr ⟨_,w,_,.ul λ _=>0,s,ot (λ _ _=>by simp) rfl,.la,trivial,rfl,bZ.refl f,λ d b js y=>(?_:U (WJ F n k j (.ul js)) _ _ _ _ _) d b⟩
  refine U.aP ?_
  exact U.il func157 rfl (z n js y) (.inr ⟨_,rfl⟩)
 ·refine ⟨.bool false,w,_,.r0,s,rM f.cm (f.zm 0) (λ e=>g (Wd.val_inj C.1 (N':=0) ⟨Nat.zero_le _,Nat.zero_le _,Nat.zero_le _,cq _⟩ e)),.Dq g,trivial,lP (.inl rfl),bZ.refl f,λ d b=>(?_:U (WJ F p k j .r0) _ _ _ _ _) d b⟩
  refine U.aP ?_
  refine U.cU rfl rfl ?_
  refine U.skip ?_
  refine U.rg [0,1] ?_
  refine U.lv 1 ?_
  refine U.ll rfl rfl rfl rfl rfl Jr rfl (SH A p) λ d b n js y=>(?_:U (WJ F n k j (.ul js)) _ _ _ _ _) d b
  refine U.aP ?_
  exact U.il func157 rfl (z n js y) (.inl rfl)
theorem NC(b:∀ w:World,F.B.os w.os→F.B.os w.later.os)(n:Nat):fJ prog ((WJ F n k j .ld).J R H) (mO F k j R H) 116 [pm F]:=fJ.ha func116 rfl rfl rfl λ fr cs f=>by
 refine U.rg [0,1,2,3] ?_
 refine U.lv 3 ?_
 refine U.ll rfl rfl rfl rfl rfl Jj rfl (Mk b n) λ m g n js d=>(?_:U (WJ F n k j (.ul js)) _ _ _ _ _) m g
 refine U.aP ?_
 exact U.il func116 rfl (f n js d) (.inl rfl)
def wT(F:Fx)(k j:Nat)(R:aA)(H:ai)(g:Goroutine):Prop:=∀ n,Own prog F.B false (KW (FT F) n k j .ue) R H g
def wU(F:Fx)(k j:Nat)(R:aA)(H:ai)(g:Goroutine):Prop:=(j < F.J→∀ n,Own prog F.B false (KW (FT F) n k j .ld) R H g)∧(j=F.J→∀ n,Own prog F.B false (KW (FT F) n k j .wv) R H g)
theorem GG{m:Wd}(h:m.ok 5)(hl:m.l=0):IntKind.i32.wrap (m.val+1)=Wd.val { m with l:=1 }:=by
 have:=Wd.fit h
 rw [wrap_i32 (by omega) (by omega)]; simp only [Wd.val,hl]; omega
theorem TI{m:Wd}(h:m.ok 5)(_:m.w=0)(b:m.n≠0):IntKind.i32.wrap (m.val - 8)=Wd.val { m with n:=m.n - 1 }∧Wd.ok 5 { m with n:=m.n - 1 }:=by
 have:=Wd.fit h
 obtain ⟨h1,h2,h3,h4⟩:=h
 refine ⟨?_,h1,h2,h3,by simp only; omega⟩
 rw [wrap_i32 (by omega) (by omega)]; simp only [Wd.val]; omega
theorem TG{m:Wd}(h:m.ok 5)(hl:m.l=1):IntKind.i32.wrap (m.val + -1)=Wd.val { m with l:=0 }:=by
 have:=Wd.fit h
 rw [wrap_i32 (by omega) (by omega)]; simp only [Wd.val,hl]; omega
theorem Gs{s:Sh}{w:World}(b:dA (FT F) s w)(d:s.ms=0):bZ (FT F) { s with ms:=s.ms+1 } w (w.setCell ⟨F.bm,1,none⟩ (.int .u32 (IntKind.u32.wrap ((s.ms:Int)+1)))):=by
 rw [wrap_u32 (by omega) (by omega)]
 exact bZ.ms b
theorem Tn{m:Wd}(h5:m.ok 5)(hl:m.l=0)(g:m.s=1)(n:Nat):fJ prog ((WJ F n k j .us).J R H) (wT F k j R H) 181 [pm F,.int .i32 m.val]:=fJ.ha func181 rfl rfl rfl λ fr cs d=>by
 have e1:=GG h5 hl
 have d5:Wd.ok 5 { m with l:=1 }:=⟨cq _,h5.2.1,h5.2.2.1,h5.2.2.2⟩
 refine U.seq ?_
 refine U.seq ?_
 refine U.rg [0,1,2,3] ?_
 refine U.lv 2 ?_
 refine U.is 6 (v':=.int .i32 (Wd.val { m with l:=1 })) rfl (congrArg _ e1) ?_
 refine U.lv 2 ?_
 refine U.aP ?_
 refine U.is 8 (v':=.bool false) rfl (iT (Wd.jZ d5).1 rfl) ?_
 refine U.cU rfl rfl ?_
 refine U.skip ?_
 refine U.seq ?_
 refine U.rg [0,1,2] ?_
 refine U.lv 3 ?_
 refine U.aP ?_
 refine U.is 12 (v':=.bool false) rfl (iT (Wd.jZ h5).2.2.2.1 (by rw [g]; rfl)) ?_
 refine U.cU rfl rfl ?_
 refine U.rg [0,1,2,3] ?_
 refine U.lv 3 ?_
 refine sW λ m hm=>KW.ext rfl rfl rfl rfl C2 rfl rfl λ _ w s _ b f _=>.inr ⟨_,_,_,.ue,_,yt rfl b.uf (b.zm 1),.us,trivial,rn (.inl rfl),Gs b f.2,λ y p=>(?_:U (WJ F m k j .ue) _ _ _ _ _) y p⟩
 refine U.aP ?_
 exact U.il func181 rfl (d m) (.inl rfl)
noncomputable def DU:Code:=(lj (Tryz.f181.body.getD .skip)).getD .skip
theorem To{fr:Frame}{cs:List Frame}{todo:List Item}(z:wT F k j R H (aS (fr.finish (eE [])) cs))(n:Nat)(m:Wd)(hm:m.ok F.N) :
  U (WJ F n k j (hu m)) ⟨181,.normal,none,43,[],fr::cs⟩ R H [(0,pm F),(4,.int .i32 m.val)] (.code DU :: .inLoop DU::todo):=by
 have hN:=F.hN
 refine U.head (Jn:=λ n (m:Wd)=>WJ F n k j (hu m)) (S:=λ m=>[(0,pm F),(4,.int .i32 m.val)]) (ok:=λ m=>m.ok F.N) (λ n K m hm=>?_) n m hm
 have h5:m.ok 5:=nG hm (by omega)
 have s3:=(Wd.jZ h5).2.2.2.2.2.2.2.2.2.2
 have C:=(Wd.jZ h5).2.2.2.2.2.1
 have E:m.val.fdiv (2 ^ (min (3:Int).toNat IntKind.i32.bits))=(m.n:Int):=by simpa [eR] using s3
 refine U.aT ?_
 refine U.seq ?_
 refine U.seq ?_
 refine U.rg [0,1,2,3,4,5,6,7] ?_
 refine U.lv 4 ?_
 by_cases y:m.n=0
 ·rw [show hu m = .ue from if_pos (.inl y)]
  refine U.is 17 (v':=.bool true) rfl (congrArg Value.bool (by show (m.val.fdiv (2 ^ (min (3:Int).toNat IntKind.i32.bits)) == 0)=true; rw [E,y]; rfl)) ?_
  refine U.lv 4 ?_
  refine U.aP ?_
  refine U.dF rfl rfl ?_
  exact U.il func181 rfl (z n) (.inr ⟨_,rfl⟩)
 refine U.is 17 (v':=.bool false) rfl (congrArg Value.bool (by show (m.val.fdiv (2 ^ (min (3:Int).toNat IntKind.i32.bits)) == 0)=false; rw [E,beq_eq_false_iff_ne]; omega)) ?_
 refine U.lv 3 ?_
 obtain ⟨L,M,O,Q⟩:=h5
 by_cases G:m.l=1∨m.w=1∨m.s=1
 ·rw [show hu m = .ue from if_pos (.inr G)]
  refine U.is 20 (v':=.bool true) rfl (og C (by rw [bne_iff_ne]; omega)) ?_
  refine U.lv 1 ?_
  refine U.aP ?_
  refine U.dF rfl rfl ?_
  exact U.il func181 rfl (z n) (.inr ⟨_,rfl⟩)
 rw [show hu m = .uc m from if_neg (by simp only [y,false_or]; exact G)]
 obtain ⟨I,k8⟩:=TI ⟨L,M,O,Q⟩ (by omega) y
 refine U.is 20 (v':=.bool false) rfl (og C (by rw [bne_eq_false_iff_eq]; omega)) ?_
 refine U.lv 1 ?_
 refine U.aP ?_
 refine U.cU rfl rfl ?_
 refine U.skip ?_
 refine U.seq ?_
 refine U.rg [0,1,2,3] ?_
 refine U.lv 2 ?_
 refine U.is 23 (v':=.int .i32 (Wd.val { m with n:=m.n - 1 })) rfl (congrArg _ I) ?_
 refine U.lv 2 ?_
 refine U.aP ?_
 refine U.is 1 (v':=.int .i32 (Wd.val { m with w:=1,n:=m.n - 1 })) rfl (uQ (Wd.jZ k8).2.2.2.2.2.2.2.1 rfl) ?_
 refine U.seq ?_
 refine U.seq ?_
 refine U.rg [0,1,2,3,4,5] ?_
 refine U.lv 5 ?_
 refine sW λ p J=>KW.ext rfl rfl rfl rfl uI rfl rfl λ _ w s _ b g _=>.inr ?_
 by_cases A:s.mu=m
 ·subst A
  refine ⟨.bool true,_,_,.us,_,pP b.cm (b.zm 0),.Gq rfl,trivial,ih (.inl rfl),bZ.mu b,λ f d=>(?_:U (WJ F p k j .us) _ _ _ _ _) f d⟩
  refine U.aP ?_
  refine U.dF rfl rfl ?_
  refine U.seq ?_
  refine U.rg [0,1,2,3] ?_
  refine U.lv 3 ?_
  refine sW λ q D=>KW.ext rfl rfl rfl rfl C2 rfl rfl λ _ w s _ b g _=>.inr ⟨_,_,_,.ue,_,yt rfl b.uf (b.zm 1),.us,trivial,rn (.inl rfl),Gs b g.2,λ f d=>(?_:U (WJ F q k j .ue) _ _ _ _ _) f d⟩
  refine U.aP ?_
  exact U.il func181 rfl (z q) (.inr ⟨_,rfl⟩)
 ·refine ⟨.bool false,w,_,.ux,s,rM b.cm (b.zm 0) (λ e=>A (Wd.val_inj g.1 hm e)),.z8 A,trivial,lP (.inl rfl),bZ.refl b,λ f d=>(?_:U (WJ F p k j .ux) _ _ _ _ _) f d⟩
  refine U.aP ?_
  refine U.cU rfl rfl ?_
  refine U.skip ?_
  refine U.rg [0,1,2,3,4] ?_
  refine U.lv 3 ?_
  refine sW λ q D=>KW.look rfl rfl rfl rfl rfl qN (by kernel_rfl) rfl ⟨by simp,by simp⟩ (λ _ h=>h) λ T s g=>⟨_,.ux,hE (by simp),λ f d=>Fa ((?_:U (WJ F q k j (hu s.mu)) _ _ _ _ _) f d)⟩
  refine U.lv 1 ?_
  refine U.aP ?_
  refine U.bg ?_
  refine U.inLoop ?_
  refine U.sub ?_ (K q (Nat.lt_trans D J) s.mu g.1)
  exact bN.sub ⟨rfl,rfl,trivial⟩
theorem Tp{m:Wd}(hm:m.ok F.N)(hl:m.l=0)(d:m.s=0)(n:Nat):fJ prog ((WJ F n k j (hu m)).J R H) (wT F k j R H) 181 [pm F,.int .i32 m.val]:=fJ.ha func181 rfl rfl rfl λ fr cs b=>by
 have hN:=F.hN
 have h5:m.ok 5:=nG hm (by omega)
 have e1:=GG h5 hl
 have d5:Wd.ok 5 { m with l:=1 }:=⟨cq _,h5.2.1,h5.2.2.1,h5.2.2.2⟩
 refine U.seq ?_
 refine U.seq ?_
 refine U.rg [0,1,2,3] ?_
 refine U.lv 2 ?_
 refine U.is 6 (v':=.int .i32 (Wd.val { m with l:=1 })) rfl (congrArg _ e1) ?_
 refine U.lv 2 ?_
 refine U.aP ?_
 refine U.is 8 (v':=.bool false) rfl (iT (Wd.jZ d5).1 rfl) ?_
 refine U.cU rfl rfl ?_
 refine U.skip ?_
 refine U.seq ?_
 refine U.rg [0,1,2] ?_
 refine U.lv 3 ?_
 refine U.aP ?_
 refine U.is 12 (v':=.bool true) rfl (iT (Wd.jZ h5).2.2.2.1 (by rw [d]; rfl)) ?_
 refine U.dF rfl rfl ?_
 refine U.seq ?_
 refine U.rg [0,1] ?_
 refine U.lv 2 ?_
 refine U.aP ?_
 refine U.aT ?_
 refine U.enterLoop ?_
 refine U.sub ?_ (To b n m hm)
 exact bN.sub ⟨rfl,rfl,trivial⟩
end
section
variable {F:Fx} {R:aA} {H:ai} {k j:Nat}
noncomputable def IF:Code:=match Tryz.f158.body with | some (.seq _ (.seq _ (.seq _ z)))=>z | _=>.skip
theorem yG{fr:Frame}{cs:List Frame}{st:St}(y:j≤F.J)(g:wU F k j R H (aS (fr.finish (eE [])) cs))(n:Nat):U (WJ F n k j .ue) ⟨158,.normal,none,21,[],fr::cs⟩ R H st [.code IF]:=by
 refine U.rg [0] ?_
 refine sW λ m hm=>KW.ext rfl rfl rfl rfl ox rfl rfl λ _ w s _ p _ _=>.inr ?_
 by_cases h:j < F.J
 ·refine ⟨_,w,_,.ld,s,iX (by simp),.wC,h,rfl,bZ.refl p,λ d b=>(?_:U (WJ F m k j .ld) _ _ _ _ _) d b⟩
  refine U.aP ?_
  exact U.il func158 rfl (g.1 h m) (.inl rfl)
 ·have f:j=F.J:=by omega
  refine ⟨_,w,_,.wv,s,iX (by simp),.wD,f,rfl,bZ.refl p,λ d b=>(?_:U (WJ F m k j .wv) _ _ _ _ _) d b⟩
  refine U.aP ?_
  exact U.il func158 rfl (g.2 f m) (.inl rfl)
theorem Mq{js:Nat→Nat}(y:j+1≤F.J)(n:Nat):fJ prog ((WJ F n k j (.ul js)).J R ((F.bo,F.cont (ec js k (j+1)))::H)) (wU F k (j+1) R H) 158 [pm F]:=fJ.ha func158 rfl rfl rfl λ fr cs z=>by
 have hN:=F.hN
 refine U.seq ?_
 refine U.dF rfl rfl ?_
 refine U.seq ?_
 refine U.rg [0,1,2,3] ?_
 refine U.lv 3 ?_
 refine sW λ m hm=>KW.look rfl rfl rfl rfl rfl qN (by kernel_rfl) rfl ⟨by simp,by simp⟩ (λ _ h=>h) λ E s A=>⟨.uv js,.ul,hE (by simp),λ d b=>(?_:U (WJ F m k j (.uv js)) _ _ _ _ _) d b⟩
 refine U.aP ?_
 refine U.seq ?_
 refine U.rg [0,1,2] ?_
 refine U.lv 1 ?_
 refine sW λ m hm=>KW.conv rfl rfl rfl rfl rfl Aa rfl wY ⟨by simp,by simp⟩ ig (λ _=>.uv) trivial λ d b=>(?_:U (WJ F m k j (.ur js)) _ _ _ _ _) d b
 refine sW λ m hm=>KW.ext rfl rfl rfl rfl CW rfl rfl λ _ w s _ f _ _=>.inr ⟨_,w,_,.ud,s,ot (λ _ _=>by simp) rfl,.ur,trivial,rfl,bZ.refl f,λ d b=>⟨js,H,rfl,rfl,(?_:U (WJ F m k (j+1) .ud) _ _ _ _ _) d b⟩⟩
 refine U.aP ?_
 refine U.rg [0] ?_
 refine sW λ m hm=>KW.ext rfl rfl rfl rfl rQ rfl rfl λ _ w s _ f _ _=>.inr ⟨_,w,_,.u0,s,iX (by simp),.ud,trivial,rfl,bZ.refl f,λ d b=>(?_:U (WJ F m k (j+1) .u0) _ _ _ _ _) d b⟩
 refine U.aP ?_
 refine U.seq ?_
 refine U.rg [0,1,2,3,4] ?_
 refine U.lv 3 ?_
 refine sW λ m hm=>KW.ext rfl rfl rfl rfl C0 rfl rfl λ _ w s _ f A _=>.inr ?_
 obtain ⟨g,hl⟩:=A
 have h5:s.mu.ok 5:=nG g (show (FT F).N≤5 from Nat.le_trans hN (by omega))
 have e:=TG h5 hl
 have k5:Wd.ok F.N { s.mu with l:=0 }:=⟨Nat.zero_le _,g.2.1,g.2.2.1,g.2.2.2⟩
 by_cases D:s.mu.s=1
 ·refine ⟨_,_,_,.us,_,na f.cm (f.zm 0),.Gn D,trivial,ih (.inl rfl),by rw [e]; exact bZ.mu f,λ d b=>(?_:U (WJ F m k (j+1) .us) _ _ _ _ _) d b⟩
  refine U.lv 1 ?_
  refine U.aP ?_
  refine U.is 2 (v':=.int .i32 (Wd.val { s.mu with l:=0 })) rfl (congrArg _ e) ?_
  refine U.seq ?_
  refine U.seq ?_
  refine U.rg [0,1] ?_
  refine U.lv 2 ?_
  refine U.aP ?_
  refine U.is 16 (v':=.bool true) rfl (congrArg Value.bool (by rw [bne_iff_ne]; simp only [Wd.val]; omega)) ?_
  refine U.dF rfl rfl ?_
  refine U.rg [0,1,2] ?_
  refine U.lv 2 ?_
  refine U.ll rfl rfl rfl rfl rfl Cr rfl (Tn (m:={ s.mu with l:=0 }) ⟨Nat.zero_le _,h5.2.1,h5.2.2.1,h5.2.2.2⟩ rfl D m) λ d b n=>(?_:U (WJ F n k (j+1) .ue) _ _ _ _ _) d b
  refine U.aP ?_
  exact yG y z n
 have C:s.mu.s=0:=by have:=g.2.2.1; omega
 by_cases p:s.mu.w=0∧s.mu.s=0∧s.mu.n=0
 ·refine ⟨_,_,_,.ue,_,na f.cm (f.zm 0),.Gp p.1 p.2.1 p.2.2,trivial,ih (.inl rfl),by rw [e]; exact bZ.mu f,λ d b=>(?_:U (WJ F m k (j+1) .ue) _ _ _ _ _) d b⟩
  refine U.lv 1 ?_
  refine U.aP ?_
  refine U.is 2 (v':=.int .i32 (Wd.val { s.mu with l:=0 })) rfl (congrArg _ e) ?_
  refine U.seq ?_
  refine U.seq ?_
  refine U.rg [0,1] ?_
  refine U.lv 2 ?_
  refine U.aP ?_
  refine U.is 16 (v':=.bool false) rfl (congrArg Value.bool (by rw [bne_eq_false_iff_eq]; simp only [Wd.val]; omega)) ?_
  refine U.cU rfl rfl ?_
  refine U.skip ?_
  exact yG y z m
 ·refine ⟨_,_,_,hu { s.mu with l:=0 },_,na f.cm (f.zm 0),.mF p C,hE (by simp),ih (.inl rfl),by rw [e]; exact bZ.mu f,λ d b=>Fa ((?_:U (WJ F m k (j+1) (hu { s.mu with l:=0 })) _ _ _ _ _) d b)⟩
  refine U.lv 1 ?_
  refine U.aP ?_
  refine U.is 2 (v':=.int .i32 (Wd.val { s.mu with l:=0 })) rfl (congrArg _ e) ?_
  refine U.seq ?_
  refine U.seq ?_
  refine U.rg [0,1] ?_
  refine U.lv 2 ?_
  refine U.aP ?_
  refine U.is 16 (v':=.bool true) rfl (congrArg Value.bool (by rw [bne_iff_ne]; simp only [Wd.val]; omega)) ?_
  refine U.dF rfl rfl ?_
  refine U.rg [0,1,2] ?_
  refine U.lv 2 ?_
  refine U.ll rfl rfl rfl rfl rfl Cr rfl (Tp k5 rfl C m) λ d b n=>(?_:U (WJ F n k (j+1) .ue) _ _ _ _ _) d b
  refine U.aP ?_
  exact yG y z n
theorem Ti{js:Nat→Nat}(g:j+1≤F.J)(n:Nat):fJ prog ((WJ F n k j (.ul js)).J R ((F.bo,F.cont (ec js k (j+1)))::H)) (wU F k (j+1) R H) 117 [pm F]:=fJ.ha func117 rfl rfl rfl λ fr cs b=>by
 refine U.rg [0,1,2,3] ?_
 refine U.lv 3 ?_
 refine U.ll rfl rfl rfl rfl rfl Jk rfl (Mq g n) λ f d=>⟨λ h n=>(?_:U (WJ F n k (j+1) .ld) _ _ _ _ _) f d,λ h n=>(?_:U (WJ F n k (j+1) .wv) _ _ _ _ _) f d⟩
 ·refine U.aP ?_
  exact U.il func117 rfl (b.1 h n) (.inl rfl)
 ·refine U.aP ?_
  exact U.il func117 rfl (b.2 h n) (.inl rfl)
end
open Go.ConcN
section
variable {F:Fx} {R:aA} {H:ai} {k j:Nat}
abbrev pw(F:Fx):Value:=.pointer (some (aw F))
noncomputable abbrev TQ (F:Fx) (n k j:Nat) (T:Lp) (R:aA) (H:ai):=Td prog (KW (FT F) n k j T R H)
theorem sQ{c:Ctx}{st:St}{todo:List Item}{n:Nat}{T:Lp}(h:∀ m,m < n→∀ tmps,cf c.n st tmps→KW (FT F) (m+1) k j T R H (aS (aR c tmps todo) c.cs)):aE (TQ F n k j T R H) c st todo:=λ tmps b=>by
 cases n with
 | zero=>exact ⟨0,trivial⟩
 | succ n=>exact ⟨0,h n (Nat.lt_succ_self n) tmps b⟩
def Gone(g:Goroutine):Prop:=∃ q,QuitsD prog q 0 g
theorem qZ(s:Sh):mH s=4294967296 * (s.v:Int)+s.w:=rfl
theorem Ix{s:Sh}{w:World}(b:dA (FT F) s w)(d:s.ws=0):bZ (FT F) { s with ws:=s.ws+1 } w (w.setCell (iQ F) (.int .u32 (IntKind.u32.wrap ((s.ws:Int)+1)))):=by
 rw [wrap_u32 (by omega) (by omega)]
 exact bZ.ws b
theorem AF{n:Nat}{st:St}{fr:Frame}{cs:List Frame}{todo:List Item}{args:aU}(d:Gone (aS (fr.finish (eE [])) cs))(hm:todo=[]∨∃ k,todo = .code .ret::k):aE (mq prog 1) ⟨112,.normal,none,n,[dcall 146 args],fr::cs⟩ st todo:=by
 have key:∀ tmps todo,cf n st tmps→(mq prog 1).Q (aS (fa ⟨112,.normal,none,n,[dcall 146 args],fr::cs⟩ tmps todo) (fr::cs)):=λ tmps todo b =>
  Rp rfl ox (QJ.back (J:=mq prog 0) func112 b rfl d)
 rcases hm with rfl | ⟨k,rfl⟩
 ·exact aE.xX rfl λ tmps b=>key tmps _ b
 ·exact aE.ret rfl λ tmps b=>key tmps _ b
noncomputable def qF:Code:=match Tryz.f112.body with | some (.seq _ (.seq _ (.seq _ (.seq _ z))))=>z | _=>.skip
noncomputable def Ic:Code:=match qF with | .seq _ (.seq _ (.seq _ (.seq _ (.seq _ (.seq _ (.seq (.seq _ x) _))))))=>x | _=>.skip
noncomputable def Rr:Code:=match qF with | .seq _ (.seq _ (.seq _ (.seq _ (.seq _ (.seq _ (.seq _ y))))))=>y | _=>.skip
theorem tJ{b:b5}{z y:Int}{p:Bool}(h:b=some z)(d:(z != y)=p):Value.bool (b.getD 0 != y) = .bool p:=by rw [h]; exact congrArg _ d
theorem AG{J:QJ prog}{c:Ctx}{st:St}{kk:List Item}{v w:Nat}(d:c.kind = .normal)(g:c.n=117)(z:v≤5)(hw:w≤1)(y:aB st [(0,pw F),(1,.int .i64 (-1)),(4,.bool false),(6,.int .u64 (4294967296 * (v:Int)+w))])
  (h:aE J c [(0,pw F),(4,.bool false),(6,.int .u64 (4294967296 * (v:Int)+w)),(8,.int .u32 w),(94,.bool (decide (0 < v∨w=0)))] (.code Ic :: .code Rr::kk)):aE J c st (.code qF::kk):=by
 obtain ⟨f,kind,ro,n,ds,cs⟩:=c
 dsimp only at d g
 subst d g
 obtain ⟨m,p,s⟩:=Ai z hw
 have gs:(4294967296 * (v:Int)+w).fdiv (2 ^ (min (32:Int).toNat IntKind.u64.bits))=(v:Int):=by simpa [eR] using s
 refine aE.sub y ?_
 refine aE.seq ?_
 refine aE.seq ?_
 refine aE.rg [0,1,2,3,4,5,6] ?_
 refine aE.lv 4 ?_
 refine aE.is 47 (v':=.bool false) rfl (tJ m rfl) ?_
 refine aE.lv 3 ?_
 refine aE.aP ?_
 refine aE.cU rfl ?_
 refine aE.skip ?_
 refine aE.seq ?_
 refine aE.rg [0,1,2,3] ?_
 refine aE.lv 4 ?_
 refine aE.aP ?_
 refine aE.is 7 (v':=.int .i32 (v:Int)) rfl (congrArg _ (by
  show IntKind.i32.wrap ((4294967296 * (v:Int)+w).fdiv (2 ^ (min (32:Int).toNat IntKind.u64.bits)))=_
  rw [gs,wrap_i32 (by omega) (by omega)])) ?_
 refine aE.seq ?_
 refine aE.rg [0,1,2,3] ?_
 refine aE.lv 4 ?_
 refine aE.aP ?_
 refine aE.is 8 (v':=.int .u32 (w:Int)) rfl (congrArg _ (by rw [p,gP]; exact wrap_u32 (by omega) (by omega))) ?_
 refine aE.seq ?_
 refine aE.seq ?_
 refine aE.rg [0,1,2,3,4,5,6,7,8,9] ?_
 refine aE.lv 5 ?_
 refine aE.is 62 (v':=.bool false) rfl (congrArg Value.bool (by decide)) ?_
 refine aE.lv 5 ?_
 refine aE.aP ?_
 refine aE.cU rfl ?_
 refine aE.skip ?_
 refine aE.seq ?_
 refine aE.seq ?_
 refine aE.rg [0,1] ?_
 refine aE.lv 2 ?_
 refine aE.aP ?_
 refine aE.is 74 (v':=.bool false) rfl (congrArg Value.bool (by rw [decide_eq_false_iff_not]; omega)) ?_
 refine aE.cU rfl ?_
 refine aE.skip ?_
 refine aE.seq ?_
 refine aE.seq ?_
 refine aE.rg [0,1,2,3,4,5,6,7,8,9,10,11] ?_
 refine aE.lv 3 ?_
 rcases (show w=0∨w=1 by omega) with rfl | rfl
 ·refine aE.is 78 (v':=.bool false) rfl rfl ?_
  refine aE.lv 9 ?_
  refine aE.aP ?_
  refine aE.cU rfl ?_
  refine aE.skip ?_
  refine aE.seq ?_
  refine aE.seq ?_
  refine aE.rg [0,1,2,3,4,5] ?_
  refine aE.lv 3 ?_
  by_cases b:0 < v
  ·refine aE.is 91 (v':=.bool true) rfl (congrArg Value.bool (by rw [decide_eq_true_iff]; omega)) ?_
   refine aE.lv 3 ?_
   refine aE.aP ?_
   refine aE.is 94 (v':=.bool (decide (0 < v∨0=0))) rfl (congrArg Value.bool (by simp [b])) ?_
   refine aE.sub ?_ h
   exact bN.sub ⟨rfl,rfl,rfl,rfl,rfl,trivial⟩
  ·refine aE.is 91 (v':=.bool false) rfl (congrArg Value.bool (by rw [decide_eq_false_iff_not]; omega)) ?_
   refine aE.lv 3 ?_
   refine aE.aP ?_
   refine aE.is 94 (v':=.bool (decide (0 < v∨0=0))) rfl (congrArg Value.bool (by simp [b])) ?_
   refine aE.sub ?_ h
   exact bN.sub ⟨rfl,rfl,rfl,rfl,rfl,trivial⟩
 ·refine aE.is 78 (v':=.bool true) rfl rfl ?_
  refine aE.lv 3 ?_
  refine aE.is 81 (v':=.bool false) rfl (congrArg Value.bool (by decide)) ?_
  refine aE.lv 6 ?_
  refine aE.aP ?_
  refine aE.cU rfl ?_
  refine aE.skip ?_
  refine aE.seq ?_
  refine aE.seq ?_
  refine aE.rg [0,1,2,3,4,5] ?_
  refine aE.lv 3 ?_
  by_cases b:0 < v
  ·refine aE.is 91 (v':=.bool true) rfl (congrArg Value.bool (by rw [decide_eq_true_iff]; omega)) ?_
   refine aE.lv 3 ?_
   refine aE.aP ?_
   refine aE.is 94 (v':=.bool (decide (0 < v∨1=0))) rfl (congrArg Value.bool (by simp [b])) ?_
   refine aE.sub ?_ h
   exact bN.sub ⟨rfl,rfl,rfl,rfl,rfl,trivial⟩
  ·refine aE.is 91 (v':=.bool false) rfl (congrArg Value.bool (by rw [decide_eq_false_iff_not]; omega)) ?_
   refine aE.lv 3 ?_
   refine aE.aP ?_
   refine aE.is 94 (v':=.bool (decide (0 < v∨1=0))) rfl (congrArg Value.bool (by simp [b])) ?_
   refine aE.sub ?_ h
   exact bN.sub ⟨rfl,rfl,rfl,rfl,rfl,trivial⟩
theorem TB(n:Nat):fJ prog ((WJ F n k j .wv).J R H) Gone 112 [pw F,.int .i64 (-1)]:=fJ.ha func112 rfl rfl rfl λ fr cs z=>by
 have hN:=F.hN
 refine U.seq ?_
 refine U.dF rfl rfl ?_
 refine U.seq ?_
 refine U.seq ?_
 refine U.rg [0,1] ?_
 refine U.lv 2 ?_
 refine U.aP ?_
 refine U.dF rfl (by decide) ?_
 refine U.rg [0,1,2] ?_
 refine U.lv 1 ?_
 refine sW λ m hm=>KW.conv rfl rfl rfl rfl rfl z9 rfl wZ ⟨by simp,by simp⟩ ig (λ _=>.wv) trivial λ f d=>(?_:U (WJ F m k j .wr) _ _ _ _ _) f d
 refine sW λ m hm=>KW.ext rfl rfl rfl rfl CW rfl rfl λ _ w s _ b _ _=>.inr ⟨_,w,_,.wk,s,ot (λ _ _=>by simp) rfl,.wr,trivial,rfl,bZ.refl b,λ f d=>(?_:aE (TQ F m k j .wk R H) _ _ _) f d⟩
 refine aE.aP ?_
 refine aE.seq ?_
 refine aE.rg [0] ?_
 refine sQ λ m hm=>KW.ext rfl rfl rfl rfl rQ rfl rfl λ _ w s _ b _ _=>.inr ⟨_,w,_,.d1,s,iX (by simp),.wk,trivial,rfl,bZ.refl b,λ f d=>(?_:aE (TQ F m k j .d1 R H) _ _ _) f d⟩
 refine aE.aP ?_
 refine aE.rg [0] ?_
 refine aE.defer rfl rfl rfl rfl rfl rfl rfl (.vB rfl) ?_
 refine aE.aP ?_
 refine aE.seq ?_
 refine aE.rg [0] ?_
 refine aE.lv 1 ?_
 refine aE.aP ?_
 refine aE.seq ?_
 refine aE.seq ?_
 refine aE.rg [0] ?_
 refine aE.ext rfl rfl rfl rfl rfl CX rfl (λ w=>yr) (.put rfl) ?_
 refine aE.aP ?_
 refine aE.cU rfl ?_
 refine aE.skip ?_
 refine aE.seq ?_
 refine aE.rg [0,1,2,3,4,5,6,7] ?_
 refine aE.lv 6 ?_
 refine aE.is 42 (v':=.int .u64 18446744069414584320) rfl (congrArg _ (by decide +kernel)) ?_
 refine aE.enter rfl rfl rfl rfl rfl func151 (by decide +kernel) rfl rfl rfl λ K A=>?_
 refine aE.seq ?_
 refine aE.rg [0] ?_
 refine aE.lv 1 ?_
 refine aE.aP ?_
 refine aE.seq ?_
 refine aE.rg [0,1,2,3,4,5] ?_
 refine aE.lv 4 ?_
 refine sQ λ m hm=>KW.ext rfl rfl rfl rfl CY rfl rfl λ _ w s _ b _ p=>.inr ?_
 obtain ⟨v1,v2,w1⟩:=p
 have O:s.v≤F.N:=v2
 have y:IntKind.u64.wrap (mH s+18446744069414584320)=4294967296 * ((s.v - 1:Nat):Int)+s.w:=by rw [qZ,TP (by omega) (by omega)]; omega
 by_cases E:s.v≠1∨s.w=0
 ·refine ⟨_,_,_,.quit,_,na b.cg (b.zg 0),.rI E,trivial,ih (.inr rfl),by rw [y]; exact bZ.wg b,λ f d=>(?_:aE (mq prog 1) _ _ _) f d⟩
  refine aE.lv 1 ?_
  refine aE.is 4 (v':=.int .u64 (4294967296 * ((s.v - 1:Nat):Int)+s.w)) rfl (congrArg _ y) ?_
  refine aE.aP ?_
  refine aE.ret rfl λ tmps g=>QJ.back (J:=mq prog 1) (vs:=[.int .u64 (4294967296 * ((s.v - 1:Nat):Int)+s.w)]) func151 g rfl (aE.resume (c':=⟨0,.normal,none,0,[],_⟩) rfl A rfl (.put rfl) ?_ rfl)
  refine aE.lv 1 ?_
  refine aE.aP ?_
  refine AG (F:=F) (v:=s.v - 1) (w:=s.w) rfl rfl (by omega) w1 ?_ ?_
  ·exact bN.sub ⟨rfl,rfl,rfl,rfl,trivial⟩
  ·refine aE.is 94 (v':=.bool true) rfl (congrArg Value.bool (by rw [decide_eq_true_iff]; omega)) ?_
   refine aE.dF rfl ?_
   exact AF z (.inr ⟨_,rfl⟩)
 ·have h1:s.v=1:=by omega
  have h2:s.w=1:=by omega
  refine ⟨_,_,_,.d2,_,na b.cg (b.zg 0),.xN h1 h2,trivial,ih (.inr rfl),by rw [y,h1]; exact bZ.wg b,λ f d=>(?_:aE (TQ F m k j .d2 R H) _ _ _) f d⟩
  refine aE.lv 1 ?_
  refine aE.is 4 (v':=.int .u64 (4294967296 * ((0:Nat):Int)+((1:Nat):Int))) rfl (congrArg _ (by rw [y,h1,h2])) ?_
  refine aE.aP ?_
  refine aE.ret rfl λ tmps g=>QJ.back (J:=TQ F m k j .d2 R H) (vs:=[.int .u64 (4294967296 * ((0:Nat):Int)+((1:Nat):Int))]) func151 g rfl (aE.resume (c':=⟨0,.normal,none,0,[],_⟩) rfl A rfl (.put rfl) ?_ rfl)
  refine aE.lv 1 ?_
  refine aE.aP ?_
  refine AG (F:=F) (v:=0) (w:=1) rfl rfl (by omega) (by omega) ?_ ?_
  ·exact bN.sub ⟨rfl,rfl,rfl,rfl,trivial⟩
  refine aE.is 94 (v':=.bool false) rfl rfl ?_
  refine aE.cU rfl ?_
  refine aE.skip ?_
  refine aE.seq ?_
  refine aE.seq ?_
  refine aE.rg [0,1,2,3,4,5] ?_
  refine aE.lv 3 ?_
  refine aE.enter rfl rfl rfl rfl rfl func153 (by decide +kernel) rfl rfl rfl λ L G=>?_
  refine aE.seq ?_
  refine aE.rg [0] ?_
  refine aE.lv 1 ?_
  refine aE.aP ?_
  refine aE.seq ?_
  refine aE.rg [0,1,2,3,4] ?_
  refine aE.lv 3 ?_
  refine sQ λ m hm=>KW.ext rfl rfl rfl rfl yw rfl rfl λ _ w s _ b _ p=>.inr ⟨_,_,_,.d3,_,uG b.cg,.d2,trivial,lP (.inr rfl),bZ.refl b,λ f d=>(?_:aE (TQ F m k j .d3 R H) _ _ _) f d⟩
  obtain ⟨C,D⟩:=p
  refine aE.lv 1 ?_
  refine aE.is 2 (v':=.int .u64 (4294967296 * ((0:Nat):Int)+((1:Nat):Int))) rfl (congrArg _ (by rw [qZ,C,D])) ?_
  refine aE.aP ?_
  refine aE.ret rfl λ tmps g=>QJ.back (J:=TQ F m k j .d3 R H) (vs:=[.int .u64 (4294967296 * ((0:Nat):Int)+((1:Nat):Int))]) func153 g rfl (aE.resume (c':=⟨0,.normal,none,0,[],_⟩) rfl G rfl (.put rfl) ?_ rfl)
  refine aE.lv 2 ?_
  refine aE.aP ?_
  refine aE.is 100 (v':=.bool false) rfl rfl ?_
  refine aE.cU rfl ?_
  refine aE.skip ?_
  refine aE.seq ?_
  refine aE.rg [0,1,2,3] ?_
  refine aE.lv 3 ?_
  refine aE.enter rfl rfl rfl rfl rfl func154 (by decide +kernel) rfl rfl rfl λ M I=>?_
  refine aE.rg [0,1,2,3,4] ?_
  refine aE.lv 4 ?_
  refine sQ λ m hm=>KW.ext rfl rfl rfl rfl KL rfl rfl λ _ w s _ b _ p=>.inr ⟨_,_,_,.d4,_,Ks b.cg (b.zg 0),.d3,trivial,Hv (.inr rfl),bZ.wg (v:=0) (u:=0) b,λ f d=>(?_:aE (TQ F m k j .d4 R H) _ _ _) f d⟩
  refine aE.aP ?_
  refine aE.xX rfl λ tmps g=>QJ.back (J:=TQ F m k j .d4 R H) (vs:=[]) func154 g rfl (aE.resume (c':=⟨0,.normal,none,0,[],_⟩) rfl I rfl (.put rfl) ?_ rfl)
  refine aE.aP ?_
  refine aE.seq ?_
  refine aE.seq ?_
  refine aE.rg [0] ?_
  refine aE.lv 1 ?_
  refine aE.aP ?_
  refine aE.cU rfl ?_
  refine aE.skip ?_
  refine aE.block ?_
  refine aE.enterLoop ?_
  refine aE.seq ?_
  refine aE.seq ?_
  refine aE.rg [0,1] ?_
  refine aE.lv 2 ?_
  refine aE.aP ?_
  refine aE.is 110 (v':=.bool true) rfl rfl ?_
  refine aE.dF rfl ?_
  refine aE.skip ?_
  refine aE.seq ?_
  refine aE.block ?_
  refine aE.rg [0,1,2,3] ?_
  refine aE.lv 3 ?_
  refine sQ λ m hm=>KW.ext rfl rfl rfl rfl KH rfl rfl λ _ w s _ b _ p=>.inr ⟨_,_,_,.quit,_,yt rfl b.ua (b.zg 1),.d4,trivial,rn (.inr rfl),Ix b p,λ f d=>(?_:aE (mq prog 1) _ _ _) f d⟩
  refine aE.aP ?_
  refine aE.inBlock ?_
  refine aE.rg [0,1,2] ?_
  refine aE.lv 3 ?_
  refine aE.aP ?_
  refine aE.is 8 (v':=.int .u32 0) rfl rfl ?_
  refine aE.inLoop ?_
  refine aE.seq ?_
  refine aE.seq ?_
  refine aE.rg [0,1] ?_
  refine aE.lv 2 ?_
  refine aE.aP ?_
  refine aE.is 110 (v':=.bool false) rfl rfl ?_
  refine aE.cU rfl ?_
  refine aE.exit rfl ?_
  exact AF z (.inl rfl)
theorem Is{fr:Frame}{cs:List Frame}(b:fr.mode = .returning∨fr.mode = .panicking [goexitEntry])(d:Gone (aS fr cs))(n:Nat):(WJ F n k j .wv).J R H (aS (Frame.enter prog 114 #[pw F] .deferred) (fr::cs)):=by
 refine Jd.enter (args:=[pw F]) func114 rfl rfl rfl ?_
 refine U.rg [0,1] ?_
 refine U.lv 1 ?_
 refine U.ll rfl rfl rfl rfl rfl Ck rfl (TB n) λ m g=>(?_:aE (mq prog 0) _ _ _) m g
 refine aE.aP ?_
 exact aE.xX rfl λ tmps f=>QJ.AS (J:=mq prog 0) func114 f rfl b d
end
section
variable {P:Program} {B:Base} {main:Bool} {ae:Jd P B main} {c:Ctx} {R:aA} {H:ai} {st st':St} {k:List Item} {ops:Array Oper} {i:Nat} {rest:List Nat} {o:Oper} {v:Value}
theorem U.uR{f:FuncId}{fn:Func}{body:Code}{xs:Array Operand}{eX:Array TypeId}{vs:bn}{n:Nat}(ho:ops[i]? = some o)(hw:ca ops st o=some true)(s:(c.kind == CallKind.early)=false)(g:o.op = .call ⟨.value (.func f),xs,eX⟩)(p:eO st xs.toList=some vs)
  (d:P.funcs[f]? = some fn) (z:(fn.name == "runtime.NumGoroutine")=false) (hb:fn.body=some body) (A:fn.ntmps=n) (y:Nat.ble vs.length n=true)
  (h:∀ tmps,cf c.n st tmps→U ae ⟨f,.normal,none,n,[],aR c tmps (.inRegion ops (i::rest)::k)::c.cs⟩ R H (kh 0 vs) [.code body]):U ae c R H st (.inRegion ops (i::rest)::k):=λ tmps b=>by
 have m:aj P (execOp (aR c tmps (.inRegion ops (i::rest)::k)).eval o) (.enter f vs.toArray):=by
  rw [pR g b p]
  exact py d z (by rw [hb]; rfl)
 refine Jd.ctl rfl (λ w=>?_) (Jd.enter d hb A y (h tmps b))
 rw [hX ho (fF b hw) (by rw [g]; rfl),rj rfl (by simpa [aR] using s) (m w).1,(m w).2]
 rfl
theorem U.po{tmps:aU}{f:FuncId}{fn:Func}{n:Nat}{vs:bn}{b:St}{kf:List Item}(d:P.funcs[f]? = some fn)(g:mw b fn.results.toList=some vs)(ho:ops[i]? = some o)(p:cf c.n st tmps)(hd:bO o.dst c.n)(m:aB (bT o.dst (eE vs) st) st')(h:U ae c R H st' (.inRegion ops rest::k)) :
  U ae ⟨f,.normal,none,n,[],aR c tmps (.inRegion ops (i::rest)::k)::c.cs⟩ R H b (.code .ret::kf) :=
 U.z7 rfl λ w s=>Jd.back d s g (by rw [ir ho]; exact h _ ((p.put _ hd).sub m))
end
section
variable {F:Fx} {R:aA} {H:ai}
noncomputable abbrev dW (F:Fx) (n:Nat) (T:Mp):=s4 prog F.B true (KM (FT F) n T)
theorem sM{c:Ctx}{st:St}{todo:List Item}{n:Nat}{T:Mp}(h:∀ m,m < n→∀ tmps,cf c.n st tmps→KM (FT F) (m+1) T R H (aS (aR c tmps todo) c.cs)):U (dW F n T) c R H st todo:=U.SX (F:=FT F) h
def Ap(F:Fx)(r:Nat)(R:aA)(H:ai)(g:Goroutine):Prop:=∀ n,Own prog F.B true (KM (FT F) n (.go r)) R H g
noncomputable def t22:Code:=match qF with | .seq _ (.seq _ (.seq _ (.seq _ y)))=>y | _=>.skip
noncomputable def Ib:Code:=match qF with | .seq _ (.seq _ (.seq _ (.seq (.seq _ x) _)))=>x | _=>.skip
theorem EV{r:Nat}{fr:Frame}{cs:List Frame}{args:aU}{st:St}{v:Nat}(b:Ap F r R H (aS (fr.finish (eE [])) cs))(h1:1≤v)(h5:v≤5)(d:aB st [(0,pw F),(1,.int .i64 1),(7,.int .i32 (v:Int)),(8,.int .u32 0)])(n:Nat) :
  U (dW F n (.ke r)) ⟨112,.normal,none,117,[dcall 146 args],fr::cs⟩ R H st [.code t22]:=by
 refine U.sub d ?_
 refine U.seq ?_
 refine U.seq ?_
 refine U.rg [0,1] ?_
 refine U.lv 2 ?_
 refine U.aP ?_
 refine U.is 74 (v':=.bool false) rfl (congrArg Value.bool (by rw [decide_eq_false_iff_not]; omega)) ?_
 refine U.cU rfl rfl ?_
 refine U.skip ?_
 refine U.seq ?_
 refine U.seq ?_
 refine U.rg [0,1,2,3,4,5,6,7,8,9,10,11] ?_
 refine U.lv 3 ?_
 refine U.is 78 (v':=.bool false) rfl rfl ?_
 refine U.lv 9 ?_
 refine U.aP ?_
 refine U.cU rfl rfl ?_
 refine U.skip ?_
 refine U.seq ?_
 refine U.seq ?_
 refine U.rg [0,1,2,3,4,5] ?_
 refine U.lv 3 ?_
 refine U.is 91 (v':=.bool true) rfl (congrArg Value.bool (by rw [decide_eq_true_iff]; omega)) ?_
 refine U.lv 3 ?_
 refine U.aP ?_
 refine U.dF rfl rfl ?_
 refine U.z7 rfl λ tmps f=>?_
 cases n with
 | zero=>exact Own.stop _ _ _ _ trivial
 | succ n=>exact Own.stop _ _ _ _ (KM.unwind (F:=FT F) rfl ox (Jd.back (ae:=dW F n (.go r)) func112 f rfl (b n)))
theorem Qc(r n:Nat):fJ prog ((dW F n (.ka r)).J R H) (Ap F r R H) 112 [pw F,.int .i64 1]:=fJ.ha func112 rfl rfl rfl λ fr cs z=>by
 have hN:=F.hN
 refine U.seq ?_
 refine U.dF rfl rfl ?_
 refine U.seq ?_
 refine U.seq ?_
 refine U.rg [0,1] ?_
 refine U.lv 2 ?_
 refine U.aP ?_
 refine U.cU rfl (by decide) ?_
 refine U.skip ?_
 refine U.seq ?_
 refine U.rg [0] ?_
 refine sM λ m hm=>KM.ext rfl rfl rfl rfl rQ rfl rfl (by simp) (by simp) λ w s _ f _=>.inr ⟨_,w,_,.kc r,s,iX (by simp),.ka,rfl,bZ.refl f,λ d b=>(?_:U (dW F m (.kc r)) _ _ _ _ _) d b⟩
 refine U.aP ?_
 refine U.rg [0] ?_
 refine U.defer rfl rfl rfl rfl rfl rfl rfl (.vB rfl) ?_
 refine U.aP ?_
 refine U.seq ?_
 refine U.rg [0] ?_
 refine U.lv 1 ?_
 refine U.aP ?_
 refine U.seq ?_
 refine U.seq ?_
 refine U.rg [0] ?_
 refine U.ext rfl rfl rfl rfl rfl CX rfl (λ w=>yr) (.put rfl) ?_
 refine U.aP ?_
 refine U.cU rfl rfl ?_
 refine U.skip ?_
 refine U.seq ?_
 refine U.rg [0,1,2,3,4,5,6,7] ?_
 refine U.lv 6 ?_
 refine U.is 42 (v':=.int .u64 4294967296) rfl (congrArg _ (by decide +kernel)) ?_
 refine U.uR rfl rfl rfl rfl rfl func151 (by decide +kernel) rfl rfl rfl λ O A=>?_
 refine U.seq ?_
 refine U.rg [0] ?_
 refine U.lv 1 ?_
 refine U.aP ?_
 refine U.seq ?_
 refine U.rg [0,1,2,3,4,5] ?_
 refine U.lv 4 ?_
 refine sM λ m hm=>KM.ext rfl rfl rfl rfl CY rfl rfl (by simp) (by simp) λ w s _ f I=>.inr ?_
 obtain ⟨M,v1⟩:=I
 have Q:s.v+1≤F.N:=v1
 have g:IntKind.u64.wrap (mH s+4294967296)=4294967296 * ((s.v+1:Nat):Int)+((0:Nat):Int):=by rw [qZ,GN (by omega) (by omega)]; omega
 obtain ⟨D,E,G⟩:=Ai (v:=s.v+1) (w:=0) (by omega) (by omega)
 have gs:(4294967296 * ((s.v+1:Nat):Int)+((0:Nat):Int)).fdiv (2 ^ (min (32:Int).toNat IntKind.u64.bits))=((s.v+1:Nat):Int):=by simpa [eR] using G
 have C:bZ (FT F) { s with v:=s.v+1 } w (w.setCell (aw F) (.int .u64 (IntKind.u64.wrap (mH s+4294967296)))):=by
  rw [g]; have:=bZ.wg (F:=FT F) (v:=s.v+1) (u:=0) f
  rw [show ({ s with v:=s.v+1 }:Sh)={ s with v:=s.v+1,w:=0 } by rw [← M]]; exact this
 have go:∀ (T:Mp) (y:U (dW F m T) ⟨112,.normal,none,117,[dcall 146 #[]],fr::cs⟩ R H [(0,pw F),(1,.int .i64 1),(7,.int .i32 ((s.v+1:Nat):Int)),(8,.int .u32 0),(67,.bool (decide (s.v+1=1)))] [.code Ib,.code t22]) (st:St),
   aB st [(0,pw F),(1,.int .i64 1),(4,.bool false),(6,.int .u64 (4294967296 * ((s.v+1:Nat):Int)+((0:Nat):Int)))]→U (dW F m T) ⟨112,.normal,none,117,[dcall 146 #[]],fr::cs⟩ R H st [.code qF]:=by
  intro T y st L
  refine U.sub L ?_
  refine U.seq ?_
  refine U.seq ?_
  refine U.rg [0,1,2,3,4,5,6] ?_
  refine U.lv 4 ?_
  refine U.is 47 (v':=.bool false) rfl (tJ D rfl) ?_
  refine U.lv 3 ?_
  refine U.aP ?_
  refine U.cU rfl rfl ?_
  refine U.skip ?_
  refine U.seq ?_
  refine U.rg [0,1,2,3] ?_
  refine U.lv 4 ?_
  refine U.aP ?_
  refine U.is 7 (v':=.int .i32 ((s.v+1:Nat):Int)) rfl (congrArg _ (by
   show IntKind.i32.wrap ((4294967296 * ((s.v+1:Nat):Int)+((0:Nat):Int)).fdiv (2 ^ (min (32:Int).toNat IntKind.u64.bits)))=_
   rw [gs,wrap_i32 (by omega) (by omega)])) ?_
  refine U.seq ?_
  refine U.rg [0,1,2,3] ?_
  refine U.lv 4 ?_
  refine U.aP ?_
  refine U.is 8 (v':=.int .u32 0) rfl (congrArg _ (by rw [E,gP]; exact wrap_u32 (by omega) (by omega))) ?_
  refine U.seq ?_
  refine U.seq ?_
  refine U.rg [0,1,2,3,4,5,6,7,8,9] ?_
  refine U.lv 5 ?_
  refine U.is 62 (v':=.bool true) rfl (congrArg Value.bool (by decide)) ?_
  refine U.lv 4 ?_
  refine U.is 66 (v':=.bool (decide (s.v+1=1))) rfl (congrArg Value.bool (AV (by rw [wrap_i32 (by omega) (by omega)]; omega))) ?_
  refine U.lv 1 ?_
  refine U.aP ?_
  refine U.sub ?_ y
  exact bN.sub ⟨rfl,rfl,rfl,rfl,rfl,trivial⟩
 by_cases p:s.v=0
 ·refine ⟨_,_,_,.kv r,{ s with v:=1 },na f.cg (f.zg 0),.Mt p,ih (.inr rfl),by have:=C; simp only [p] at this; exact this,λ d b=>(?_:U (dW F m (.kv r)) _ _ _ _ _) d b⟩
  refine U.lv 1 ?_
  refine U.is 4 (v':=.int .u64 (4294967296 * ((s.v+1:Nat):Int)+((0:Nat):Int))) rfl (congrArg _ g) ?_
  refine U.aP ?_
  refine U.po func151 rfl rfl A rfl (.put rfl) ?_
  refine U.lv 1 ?_
  refine U.aP ?_
  refine go _ ?_ _ ?_
  ·refine U.dF rfl (by rw [decide_eq_true_iff]; omega) ?_
   refine U.rg [0,1,2,3,4] ?_
   refine U.lv 3 ?_
   refine sM λ m hm=>KM.conv rfl rfl rfl rfl rfl Gr rfl AJ (by simp) (by simp) ig (λ _=>.kv) λ d b=>(?_:U (dW F m (.kd r)) _ _ _ _ _) d b
   refine sM λ m hm=>KM.ext rfl rfl rfl rfl KG rfl rfl (by simp) (by simp) λ w s1 _ K _=>.inr ⟨_,w,_,.ke r,s1,ot (λ _ _=>by simp) rfl,.kd,rfl,bZ.refl K,λ d b=>(?_:U (dW F m (.ke r)) _ _ _ _ _) d b⟩
   refine U.aP ?_
   refine EV z (v:=s.v+1) (by omega) (by omega) ?_ m
   exact bN.sub ⟨rfl,rfl,rfl,rfl,trivial⟩
  ·exact bN.sub ⟨rfl,rfl,rfl,rfl,trivial⟩
 ·refine ⟨_,_,_,.ke r,_,na f.cg (f.zg 0),.Mu p,ih (.inr rfl),C,λ d b=>(?_:U (dW F m (.ke r)) _ _ _ _ _) d b⟩
  refine U.lv 1 ?_
  refine U.is 4 (v':=.int .u64 (4294967296 * ((s.v+1:Nat):Int)+((0:Nat):Int))) rfl (congrArg _ g) ?_
  refine U.aP ?_
  refine U.po func151 rfl rfl A rfl (.put rfl) ?_
  refine U.lv 1 ?_
  refine U.aP ?_
  refine go _ ?_ _ ?_
  ·refine U.cU rfl (by rw [decide_eq_false_iff_not]; omega) ?_
   refine U.skip ?_
   refine EV z (v:=s.v+1) (by omega) (by omega) ?_ m
   exact bN.sub ⟨rfl,rfl,rfl,rfl,trivial⟩
  ·exact bN.sub ⟨rfl,rfl,rfl,rfl,trivial⟩
end
section
variable {F:Fx} {R:aA} {H:ai} {Post:Value→World→Prop}
def AB(F:Fx)(R:aA)(H:ai)(g:Goroutine):Prop:=∀ js,(∀ k,k < F.N→js k=F.J)→F.mj R ((F.bo,F.cont js)::H) g
noncomputable def DT:Code:=(lj (Tryz.f118.body.getD .skip)).getD .skip
abbrev TC(fr:Frame)(cs:List Frame):Ctx:=⟨118,.normal,none,84,[],fr::cs⟩
theorem TD(V:F.mj=e4 prog F.B Post){fr:Frame}{cs:List Frame}{todo:List Item}(T:AB F R H (aS (fr.finish (eE [])) cs))(n:Nat):U (dW F n .w1) (TC fr cs) R H [(0,pw F)] (.code DT :: .inLoop DT::todo):=by
 have hN:=F.hN
 refine U.head (X:=Unit) (Jn:=λ n _=>dW F n .w1) (S:=λ _=>[(0,pw F)]) (ok:=λ _=>True) (λ n af _ _=>?_) n () trivial
 refine U.aT ?_
 refine U.seq ?_
 refine U.rg [0,1,2,3,4] ?_
 refine U.lv 3 ?_
 refine U.uR rfl rfl rfl rfl rfl func153 (by decide +kernel) rfl rfl rfl λ am M=>?_
 refine U.seq ?_
 refine U.rg [0] ?_
 refine U.lv 1 ?_
 refine U.aP ?_
 refine U.seq ?_
 refine U.rg [0,1,2,3,4] ?_
 refine U.lv 3 ?_
 refine sM λ m hm=>KM.ext rfl rfl rfl rfl yw rfl rfl (by simp) (by simp) λ w s _ y g=>.inr ?_
 obtain ⟨ak,v1⟩:=g
 have ah:s.v≤F.N:=v1
 have G:mH s=4294967296 * (s.v:Int)+((0:Nat):Int):=by rw [qZ,ak]
 obtain ⟨I,J,Q⟩:=Ai (v:=s.v) (w:=0) (by omega) (by omega)
 have gs:(4294967296 * (s.v:Int)+((0:Nat):Int)).fdiv (2 ^ (min (32:Int).toNat IntKind.u64.bits))=(s.v:Int):=by simpa [eR] using Q
 by_cases E:s.v=0
 ·refine ⟨_,_,_,.we,s,uG y.cg,.Tz E,lP (.inr rfl),bZ.refl y,λ d b=>(?_:U (dW F m .we) _ _ _ _ _) d b⟩
  refine U.lv 1 ?_
  refine U.is 2 (v':=.int .u64 (4294967296 * (s.v:Int)+((0:Nat):Int))) rfl (congrArg _ G) ?_
  refine U.aP ?_
  refine U.po func153 rfl rfl M rfl (.put rfl) ?_
  refine U.lv 1 ?_
  refine U.aP ?_
  refine U.seq ?_
  refine U.rg [0,1,2,3] ?_
  refine U.lv 4 ?_
  refine U.aP ?_
  refine U.is 3 (v':=.int .i32 (s.v:Int)) rfl (congrArg _ (by
   show IntKind.i32.wrap ((4294967296 * (s.v:Int)+((0:Nat):Int)).fdiv (2 ^ (min (32:Int).toNat IntKind.u64.bits)))=_
   rw [gs,wrap_i32 (by omega) (by omega)])) ?_
  refine U.seq ?_
  refine U.rg [0,1,2,3] ?_
  refine U.lv 4 ?_
  refine U.aP ?_
  refine U.is 4 (v':=.int .u32 0) rfl (congrArg _ (by rw [J,gP]; exact wrap_u32 (by omega) (by omega))) ?_
  refine U.seq ?_
  refine U.seq ?_
  refine U.rg [0,1] ?_
  refine U.lv 2 ?_
  refine U.aP ?_
  refine U.is 19 (v':=.bool true) rfl (congrArg Value.bool (by rw [E]; rfl)) ?_
  refine U.dF rfl rfl ?_
  refine U.seq ?_
  refine U.dF rfl rfl ?_
  refine U.seq ?_
  refine U.rg [0] ?_
  refine sM λ m hm=>KM.ext rfl rfl rfl rfl ox rfl rfl (by simp) (by simp) λ w s1 _ A _=>.inr ⟨_,w,_,.qv,s1,iX (by simp),.we,rfl,bZ.refl A,λ d b=>(?_:U (dW F m .qv) _ _ _ _ _) d b⟩
  refine U.aP ?_
  refine U.rg [0,1,2] ?_
  refine U.lv 1 ?_
  refine sM λ m hm=>KM.conv rfl rfl rfl rfl rfl z9 rfl wZ (by simp) (by simp) ig (λ _=>.qv) λ d b=>(?_:U (dW F m .wq) _ _ _ _ _) d b
  refine sM λ m hm=>KM.acq rfl rfl rfl rfl uH rfl rfl rfl λ js L d b=>?_
  have f:=T js L
  show F.mj _ _ _
  rw [V] at f ⊢
  refine (?_:U (pd prog F.B Post) _ _ _ _ _) d b
  refine U.aP ?_
  refine U.seq ?_
  refine U.seq ?_
  refine U.rg [0,1,2,3,4,5,6,7,8,9,10] ?_
  refine U.lv 2 ?_
  refine U.is 25 (v':=.bool true) rfl rfl ?_
  refine U.lv 4 ?_
  refine U.is 29 (v':=.bool false) rfl (tJ I rfl) ?_
  refine U.lv 5 ?_
  refine U.aP ?_
  refine U.cU rfl rfl ?_
  refine U.skip ?_
  exact U.il func118 rfl f (.inr ⟨_,rfl⟩)
 ·refine ⟨_,_,_,.w2 s.v,s,uG y.cg,.GA E,lP (.inr rfl),bZ.refl y,λ d b=>(?_:U (dW F m (.w2 s.v)) _ _ _ _ _) d b⟩
  refine U.lv 1 ?_
  refine U.is 2 (v':=.int .u64 (4294967296 * (s.v:Int)+((0:Nat):Int))) rfl (congrArg _ G) ?_
  refine U.aP ?_
  refine U.po func153 rfl rfl M rfl (.put rfl) ?_
  refine U.sub (st':=[(0,pw F),(11,.int .u64 (4294967296 * (s.v:Int)+((0:Nat):Int)))]) (bN.sub ⟨rfl,rfl,trivial⟩) ?_
  clear G y b M
  generalize s.v=u at E ah I J Q gs v1 ⊢
  refine U.lv 1 ?_
  refine U.aP ?_
  refine U.seq ?_
  refine U.rg [0,1,2,3] ?_
  refine U.lv 4 ?_
  refine U.aP ?_
  refine U.is 3 (v':=.int .i32 (u:Int)) rfl (congrArg _ (by
   show IntKind.i32.wrap ((4294967296 * (u:Int)+((0:Nat):Int)).fdiv (2 ^ (min (32:Int).toNat IntKind.u64.bits)))=_
   rw [gs,wrap_i32 (by omega) (by omega)])) ?_
  refine U.seq ?_
  refine U.rg [0,1,2,3] ?_
  refine U.lv 4 ?_
  refine U.aP ?_
  refine U.is 4 (v':=.int .u32 0) rfl (congrArg _ (by rw [J,gP]; exact wrap_u32 (by omega) (by omega))) ?_
  refine U.seq ?_
  refine U.seq ?_
  refine U.rg [0,1] ?_
  refine U.lv 2 ?_
  refine U.aP ?_
  refine U.is 19 (v':=.bool false) rfl (congrArg Value.bool (by rw [beq_eq_false_iff_ne]; omega)) ?_
  refine U.cU rfl rfl ?_
  refine U.skip ?_
  refine U.seq ?_
  refine U.rg [0,1,2,3,4,5,6] ?_
  refine U.lv 6 ?_
  refine U.is 47 (v':=.int .u64 (4294967296 * (u:Int)+((1:Nat):Int))) rfl (congrArg _ (by rw [GN (by omega) (by omega)]; omega)) ?_
  refine U.uR rfl rfl rfl rfl rfl func161 (by decide +kernel) rfl rfl rfl λ an Y=>?_
  refine U.seq ?_
  refine U.rg [0] ?_
  refine U.lv 1 ?_
  refine U.aP ?_
  refine U.seq ?_
  refine U.rg [0,1,2,3,4,5,6] ?_
  refine U.lv 5 ?_
  refine sM λ p ac=>KM.ext rfl rfl rfl rfl KN rfl rfl (by simp) (by simp) λ w s2 _ C g=>.inr ?_
  obtain ⟨al,ap,aq⟩:=g
  have ab:mH s2=4294967296 * (s2.v:Int)+((0:Nat):Int):=by rw [qZ,al]
  have K:=C.cg
  rw [ab] at K
  by_cases he:s2.v=u
  ·subst he
   refine ⟨.bool true,_,_,.wV,{ s2 with w:=1 },pP K (C.zg 0),.GC,ih (.inr rfl),bZ.wg (v:=s2.v) (u:=1) C,λ d b=>(?_:U (dW F p .wV) _ _ _ _ _) d b⟩
   refine U.lv 1 ?_
   refine U.aP ?_
   refine U.po func161 rfl rfl Y rfl (.put rfl) ?_
   refine U.aP ?_
   refine U.dF rfl rfl ?_
   refine U.seq ?_
   refine U.seq ?_
   refine U.rg [0,1,2,3] ?_
   refine U.lv 3 ?_
   refine U.is 51 (v':=.bool true) rfl rfl ?_
   refine U.lv 1 ?_
   refine U.aP ?_
   refine U.dF rfl rfl ?_
   refine U.rg [0,1,2,3,4] ?_
   refine U.lv 3 ?_
   refine sM λ m hm=>KM.conv rfl rfl rfl rfl rfl Gr rfl AJ (by simp) (by simp) ig (λ _=>.wV) λ d b=>(?_:U (dW F m .wW) _ _ _ _ _) d b
   refine sM λ m hm=>KM.ext rfl rfl rfl rfl KI rfl rfl (by simp) (by simp) λ w s1 _ A _=>.inr ⟨_,w,_,.w3,s1,ot (λ _ _=>by simp) rfl,.wW,rfl,bZ.refl A,λ d b=>(?_:U (dW F m .w3) _ _ _ _ _) d b⟩
   refine U.aP ?_
   refine U.seq ?_
   refine U.rg [0] ?_
   refine U.lv 1 ?_
   refine U.aP ?_
   refine U.seq ?_
   refine U.seq ?_
   refine U.rg [0,1,2,3,4,5] ?_
   refine U.lv 3 ?_
   refine U.is 60 (v':=.bool false) rfl (tJ I rfl) ?_
   refine U.lv 3 ?_
   refine U.aP ?_
   refine U.cU rfl rfl ?_
   refine U.skip ?_
   refine U.seq ?_
   refine U.rg [0,1,2,3,4] ?_
   refine U.lv 4 ?_
   refine sM λ m hm=>KM.ext rfl rfl rfl rfl KJ rfl rfl (by simp) (by simp) λ w s3 _ D _=>?_
   cases O:s3.ws with
   | zero=>exact .inl ⟨rfl,rfl,AE rfl (by have e:=D.ua; rw [O] at e; exact e)⟩
   | succ z =>
    have Z:((z+1:Nat):Int) - 1=(z:Int):=by omega
    refine .inr ⟨_,_,_,.w4,_,CN (n:=((z+1:Nat):Int)) rfl (by have e:=D.ua; rw [O] at e; exact e) (by omega) (D.zg 1),.w3 O,rn (.inr rfl),by rw [Z]; exact bZ.ws D,λ d b=>(?_:U (dW F m .w4) _ _ _ _ _) d b⟩
    refine U.aP ?_
    refine U.seq ?_
    refine U.rg [0,1,2,3,4,5] ?_
    refine U.lv 3 ?_
    refine U.uR rfl rfl rfl rfl rfl func153 (by decide +kernel) rfl rfl rfl λ ao ad=>?_
    refine U.seq ?_
    refine U.rg [0] ?_
    refine U.lv 1 ?_
    refine U.aP ?_
    refine U.seq ?_
    refine U.rg [0,1,2,3,4] ?_
    refine U.lv 3 ?_
    refine sM λ m hm=>KM.ext rfl rfl rfl rfl yw rfl rfl (by simp) (by simp) λ w ag _ W g=>.inr ⟨_,_,_,.we,ag,uG W.cg,.w4,lP (.inr rfl),bZ.refl W,λ d b=>(?_:U (dW F m .we) _ _ _ _ _) d b⟩
    obtain ⟨z1,z2⟩:=g
    refine U.lv 1 ?_
    refine U.is 2 (v':=.int .u64 0) rfl (congrArg _ (by rw [qZ,z1,z2]; rfl)) ?_
    refine U.aP ?_
    refine U.po func153 rfl rfl ad rfl (.put rfl) ?_
    refine U.lv 2 ?_
    refine U.aP ?_
    refine U.is 6 (v':=.bool false) rfl rfl ?_
    refine U.seq ?_
    refine U.dF rfl rfl ?_
    refine U.seq ?_
    refine U.rg [0] ?_
    refine sM λ m hm=>KM.ext rfl rfl rfl rfl ox rfl rfl (by simp) (by simp) λ w s1 _ A _=>.inr ⟨_,w,_,.qv,s1,iX (by simp),.we,rfl,bZ.refl A,λ d b=>(?_:U (dW F m .qv) _ _ _ _ _) d b⟩
    refine U.aP ?_
    refine U.rg [0,1,2] ?_
    refine U.lv 1 ?_
    refine sM λ m hm=>KM.conv rfl rfl rfl rfl rfl z9 rfl wZ (by simp) (by simp) ig (λ _=>.qv) λ d b=>(?_:U (dW F m .wq) _ _ _ _ _) d b
    refine sM λ m hm=>KM.acq rfl rfl rfl rfl uH rfl rfl rfl λ js L d b=>?_
    have f:=T js L
    show F.mj _ _ _
    rw [V] at f ⊢
    refine (?_:U (pd prog F.B Post) _ _ _ _ _) d b
    refine U.aP ?_
    refine U.seq ?_
    refine U.seq ?_
    refine U.rg [0] ?_
    refine U.lv 1 ?_
    refine U.aP ?_
    refine U.cU rfl rfl ?_
    refine U.skip ?_
    exact U.il func118 rfl f (.inr ⟨_,rfl⟩)
  ·refine ⟨.bool false,w,_,.w1,s2,rM K (C.zg 0) (λ e=>he (by omega)),.GB he,lP (.inr rfl),bZ.refl C,λ d b=>(?_:U (dW F p .w1) _ _ _ _ _) d b⟩
   refine U.lv 1 ?_
   refine U.aP ?_
   refine U.po func161 rfl rfl Y rfl (.put rfl) ?_
   refine U.aP ?_
   refine U.cU rfl rfl ?_
   refine U.skip ?_
   refine U.bg ?_
   refine U.inLoop ?_
   refine U.sub ?_ (af p (Nat.lt_trans ac hm) () trivial)
   exact bN.sub ⟨rfl,trivial⟩
theorem TE(d:F.mj=e4 prog F.B Post)(n:Nat):fJ prog ((dW F n .wa).J R H) (AB F R H) 118 [pw F]:=fJ.ha func118 rfl rfl rfl λ fr cs b=>by
 refine U.seq ?_
 refine U.dF rfl rfl ?_
 refine U.rg [0] ?_
 refine sM λ m hm=>KM.ext rfl rfl rfl rfl rQ rfl rfl (by simp) (by simp) λ w s _ f _=>.inr ⟨_,w,_,.w1,s,iX (by simp),.wa,rfl,bZ.refl f,λ p g=>(?_:U (dW F m .w1) _ _ _ _ _) p g⟩
 refine U.aP ?_
 refine U.aT ?_
 refine U.enterLoop ?_
 refine U.sub ?_ (TD d b m)
 exact bN.sub ⟨rfl,trivial⟩
end
end Go.Proofs.YtikficpdfaajlaaGreatDoor
namespace Go.Lg
open Go.Conc Go.ConcN
def gM(a:Nat→Nat→Bool)(js:Nat→Nat):bn:=(List.range 16).map λ p=>.bool (decide (p / 4 < js (p % 4)) && a (p / 4) (p % 4))
theorem QZ(a:Nat→Nat→Bool):gM a (λ _=>0)=List.replicate 16 (.bool false):=by
 simp [gM,List.range,List.range.loop,List.replicate]
theorem zv{a:Nat→Nat→Bool}{js:Nat→Nat}{p:Nat}(b:p < 16):(gM a js)[p]? = some (.bool (decide (p / 4 < js (p % 4)) && a (p / 4) (p % 4))):=by
 simp [gM,b]
theorem QY{a:Nat→Nat→Bool}{js:Nat→Nat}{k j:Nat}(n:k < 4)(_:j < 4)(f:js k=j):gM a (ec js k (j+1))=(gM a js).set (4 * j+k) (.bool (a j k)):=by
 have hl:∀ js,(gM a js).length=16:=λ js=>by simp [gM]
 apply List.ext_getElem?
 intro p
 rcases Nat.lt_or_ge p 16 with b | b
 ·rw [zv b,List.getElem?_set,zv b]
  by_cases e:4 * j+k=p
  ·subst e
   rw [if_pos rfl,if_pos (by rw [hl]; omega)]
   have e1:(4 * j+k) / 4=j:=by omega
   have d:(4 * j+k) % 4=k:=by omega
   rw [e1,d,j2]
   simp
  ·rw [if_neg e]
   by_cases d:p % 4=k
   ·have g:p / 4≠j:=by omega
    rw [d,j2,f]
    have:decide (p / 4 < j+1)=decide (p / 4 < j):=by
     by_cases h:p / 4 < j
     ·simp [h]; omega
     ·simp [h]; omega
    rw [this]
   ·rw [j1 d]
 ·rw [List.getElem?_eq_none (by rw [hl]; exact b),List.getElem?_eq_none (by rw [List.length_set,hl]; exact b)]
end Go.Lg
