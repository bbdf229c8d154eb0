/- What sync does, walked for the machine. Conditions: none. -/
import Derived.Test.YtihapemckcdicaaGreatDoorQHLgE
import Derived.Test.YtihapemckcdicaaGreatDoorQHStF
namespace Go.Proofs.YtihapemckcdicaaGreatDoor
open Go.Lg Go.Proofs Go.Conc Tryz
set_option maxRecDepth 100000
theorem afm:gM prog 190 (Extern.Race.marked .releaseMerge):=⟨⟨Tryz.f190,func190,by kernel_rfl,by kernel_rfl,by kernel_rfl,by kernel_rfl⟩⟩
theorem Jr:gM prog 191 (λ _=>do mark .disable; pure Extern.Race.none_):=⟨⟨Tryz.f191,func191,by kernel_rfl,by kernel_rfl,by kernel_rfl,by kernel_rfl⟩⟩
theorem CQ:gM prog 192 (λ _=>do mark .enable; pure Extern.Race.none_):=⟨⟨Tryz.f192,func192,by kernel_rfl,by kernel_rfl,by kernel_rfl,by kernel_rfl⟩⟩
theorem afn:gM prog 193 (λ _=>pure (.bool false)):=⟨⟨Tryz.f193,func193,by kernel_rfl,by kernel_rfl,by kernel_rfl,by kernel_rfl⟩⟩
theorem ark:gM prog 198 (Extern.Race.marked .read):=⟨⟨Tryz.f198,func198,by kernel_rfl,by kernel_rfl,by kernel_rfl,by kernel_rfl⟩⟩
theorem arl:gM prog 202 Extern.Sync.semrelease:=⟨⟨Tryz.f202,func202,by kernel_rfl,by kernel_rfl,by kernel_rfl,by kernel_rfl⟩⟩
theorem OJ:gM prog 205 (Extern.Race.marked .acquire):=⟨⟨Tryz.f205,func205,by kernel_rfl,by kernel_rfl,by kernel_rfl,by kernel_rfl⟩⟩
theorem arn:gM prog 208 (Extern.Race.marked .write):=⟨⟨Tryz.f208,func208,by kernel_rfl,by kernel_rfl,by kernel_rfl,by kernel_rfl⟩⟩
theorem aro:gM prog 209 Extern.Sync.semacquire:=⟨⟨Tryz.f209,func209,by kernel_rfl,by kernel_rfl,by kernel_rfl,by kernel_rfl⟩⟩
theorem afo:gM prog 227 (Extern.Atomic.update (Op.intArith .add) .u64 true):=⟨⟨Tryz.f227,func227,by kernel_rfl,by kernel_rfl,by kernel_rfl,by kernel_rfl⟩⟩
theorem U5:gM prog 228 (Extern.Atomic.loadT (.int .u64)):=⟨⟨Tryz.f228,func228,by kernel_rfl,by kernel_rfl,by kernel_rfl,by kernel_rfl⟩⟩
theorem arp:gM prog 229 Extern.Atomic.storeT:=⟨⟨Tryz.f229,func229,by kernel_rfl,by kernel_rfl,by kernel_rfl,by kernel_rfl⟩⟩
theorem OK:gM prog 230 (Extern.Atomic.casT (.int .i32)):=⟨⟨Tryz.f230,func230,by kernel_rfl,by kernel_rfl,by kernel_rfl,by kernel_rfl⟩⟩
theorem afp:gM prog 232 (Extern.Atomic.update (Op.intArith .add) .i32 true):=⟨⟨Tryz.f232,func232,by kernel_rfl,by kernel_rfl,by kernel_rfl,by kernel_rfl⟩⟩
theorem arq:gM prog 234 (Extern.Atomic.casT (.int .u64)):=⟨⟨Tryz.f234,func234,by kernel_rfl,by kernel_rfl,by kernel_rfl,by kernel_rfl⟩⟩
theorem ars:gM prog 241 Extern.Sync.canSpin:=⟨⟨Tryz.f241,func241,by kernel_rfl,by kernel_rfl,by kernel_rfl,by kernel_rfl⟩⟩
theorem art:gM prog 242 Extern.Sync.nothing:=⟨⟨Tryz.f242,func242,by kernel_rfl,by kernel_rfl,by kernel_rfl,by kernel_rfl⟩⟩
theorem afq:gM prog 244 Extern.OsHooks.nano:=⟨⟨Tryz.f244,func244,by kernel_rfl,by kernel_rfl,by kernel_rfl,by kernel_rfl⟩⟩
theorem aru:gM prog 245 Extern.Sync.semacquire:=⟨⟨Tryz.f245,func245,by kernel_rfl,by kernel_rfl,by kernel_rfl,by kernel_rfl⟩⟩
theorem afr:gM prog 247 Extern.Sync.semrelease:=⟨⟨Tryz.f247,func247,by kernel_rfl,by kernel_rfl,by kernel_rfl,by kernel_rfl⟩⟩
def kiT:Nat→Option IntKind
 | 2 | 3=>some .i64
 | 21=>some .i32
 | 190=>some .u32
 | 197=>some .u64
 | _=>none
instance:uI prog:=⟨kiT,λ t k h=>by
 unfold kiT at h
 split at h
 ·cases h; exact underlying2
 ·cases h; exact underlying3
 ·cases h; exact underlying21
 ·cases h; exact underlying190
 ·cases h; exact underlying197
 ·cases h⟩
theorem abG:Fu prog 255 223:=⟨192,underlying255,underlying223,by kernel_rfl⟩
theorem abF:Fu prog 221 223:=⟨201,underlying221,underlying223,by kernel_rfl⟩
theorem ajq:Fu prog 228 223:=⟨190,underlying228,underlying223,by kernel_rfl⟩
set_option maxHeartbeats 4000000
noncomputable abbrev FT (F:Fx):Fx:={ F with P:=prog }
section
variable {F:Fx} {R:az} {H:ah} {k j:Nat} {fr:Frame} {cs:List Frame}
abbrev pm(F:Fx):Value:=.pointer (some (am F))
noncomputable abbrev WJ (F:Fx) (n k j:Nat) (T:Lp):=Mz prog F.B false (KW (FT F) n k j T)
def Az(F:Fx)(k j:Nat)(R:az)(H:ah)(g:Goroutine):Prop:=∀ n js,js k=j→Own prog F.B false (KW (FT F) n k j (.ul js)) R ((F.bo,F.cont js)::H) g
theorem sW{c:Ctx}{st:St}{todo:List Item}{n:Nat}{T:Lp}(h:∀ m,m < n→∀ tmps,cX c.n st tmps→KW (FT F) (m+1) k j T R H (aV (aU c tmps todo) c.cs)):U (WJ F n k j T) c R H st todo:=U.aJI (F:=FT F) h
def adI:Code→Option Code
 | .seq (.block _ _) r=>some r
 | .seq _ y=>adI y
 | _=>none
def xD:Code→Option Code
 | .loop c=>some c
 | .seq x y=>match xD x with | some c=>some c | none=>xD y
 | .block _ c=>xD c
 | .cond _ x y=>match xD x with | some c=>some c | none=>xD y
 | _=>none
noncomputable def zD:Code:=(adI (Tryz.f231.body.getD .skip)).getD .skip
noncomputable def tD:Code:=(xD (Tryz.f231.body.getD .skip)).getD .skip
theorem ai2(hk:Az F k j R H (aV (fr.finish (iM [])) cs))(n:Nat):U (WJ F n k j .le) ⟨231,.normal,none,139,[],fr::cs⟩ R H [(0,pm F)] [.code zD]:=by
 refine U.fI rfl rfl ?_
 refine U.seq ?_
 refine U.rg [0] ?_
 refine sW λ n _=>KW.ext rfl rfl rfl rfl CQ rfl rfl λ _ w s _ bp _ _=>.inr ⟨_,w,_,.lc,s,rJ (by simp),.le,trivial,rfl,cB.refl bp,λ aW bh=>(?_:U (WJ F n k j .lc) _ _ _ _ _) aW bh⟩
 refine U.aT ?_
 refine U.rg [0,1,2] ?_
 refine U.lv 1 ?_
 refine sW λ n _=>KW.conv rfl rfl rfl rfl rfl abG rfl TM ⟨by simp,by simp⟩ qL (λ _=>.lc) trivial λ aW bh=>(?_:U (WJ F n k j .la) _ _ _ _ _) aW bh
 refine sW λ n _=>KW.ext rfl rfl rfl rfl OJ rfl rfl λ _ w s _ bp _ _=>.inr ⟨_,w,_,.ul λ _=>0,s,CJ (λ _ _=>by simp) rfl,.la,trivial,rfl,cB.refl bp,λ aW bh js iH=>(?_:U (WJ F n k j (.ul js)) _ _ _ _ _) aW bh⟩
 refine U.aT ?_
 exact U.qQ func231 rfl (hk n js iH) (.inl rfl)
theorem BJ{N N':Nat}{m:Wd}(h:m.ok N)(hn:N≤N'):m.ok N':=⟨h.1,h.2.1,h.2.2.1,Nat.le_trans h.2.2.2 hn⟩
def BX(F:Fx)(c:Lc)(gA:Int):St:=[(0,pm F),(2,.int .i64 gA),(3,.bool c.sv),(4,.bool c.aw),(5,.int .i64 c.it),(6,.int .i32 c.old.val)]
def RA(F:Fx)(x:Lc × Int):Prop:=x.1.old.ok F.N∧(x.1.aw=true→x.1.old.w=1)∧x.1.ws=decide (x.2≠0)∧x.1.it≤4
theorem rH{b:Option Int}{z y:Int}{p:Bool}(h:b=some z)(hp:(z == y)=p):Value.bool (b.getD 0 == y) = .bool p:=by rw [h]; exact congrArg _ hp
noncomputable def Mt:Code:=match tD with | .block _ (.seq _ y)=>y | _=>.skip
noncomputable def aJn:Code:=match tD with | .block _ (.seq (.seq _ (.cond _ (.seq _ z) _)) _)=>z | _=>.skip
abbrev BW(fr:Frame)(cs:List Frame):Ctx:=⟨231,.normal,none,139,[],fr::cs⟩
def wF(F:Fx)(k j:Nat)(R:az)(H:ah)(fr:Frame)(cs:List Frame)(m:Nat):Prop:=∀ x,RA F x→U (WJ F m k j (hd x.1)) (BW fr cs) R H (BX F x.1 x.2) [.code tD,.inLoop tD,.inBlock 0,.code zD]
theorem MQ{n:Nat}(ih:∀ m,m < n→wF F k j R H fr cs m){old:Wd}{aw sv:Bool}{it:Nat}{ws:Bool}{gA:Int}(kK:ws=decide (gA≠0)){st:St}(cU:aI st [(0,pm F),(2,.int .i64 gA),(3,.bool sv),(4,.bool aw),(5,.int .i64 it)]) :
  U (WJ F n k j (.r1 ⟨old,aw,sv,it,ws⟩)) (BW fr cs) R H st [.code aJn,.code Mt,.inBlock 1,.inLoop tD,.inBlock 0,.code zD]:=by
 refine U.sub cU ?_
 refine U.seq ?_
 refine U.rg [0] ?_
 refine U.ext rfl rfl rfl rfl rfl art rfl (λ w=>UW) (.put rfl) ?_
 refine U.aT ?_
 refine U.seq ?_
 refine U.rg [0,1,2] ?_
 refine U.lv 3 ?_
 refine U.aT ?_
 refine U.seq ?_
 refine U.rg [0,1,2,3,4] ?_
 refine U.lv 3 ?_
 refine sW λ m hm=>KW.look rfl rfl rfl rfl rfl Hj (by kernel_rfl) rfl ⟨by simp,by simp⟩ (λ _ h=>h) λ ot s hs=>⟨_,.r1,py (by simp),λ aW bh=>QS ((?_:U (WJ F m k j (hd ⟨s.mu,aw,sv,it+1,ws⟩)) _ _ _ _ _) aW bh)⟩
 obtain ⟨t1,t2,t3⟩:=ot
 dsimp only at t2
 refine U.lv 1 ?_
 refine U.aT ?_
 refine U.cE rfl ?_
 refine U.inLoop ?_
 refine U.is 5 (v':=.int .i64 ((it+1:Nat):Int)) rfl (by rw [show ((it+1:Nat):Int)=(it:Int)+1 by omega]; exact congrArg _ (akp (by constructor <;> omega))) ?_
 exact U.sub (st':=BX F ⟨s.mu,aw,sv,it+1,ws⟩ gA) (cc.sub ⟨rfl,rfl,rfl,rfl,rfl,rfl,trivial⟩) (ih m hm (⟨s.mu,aw,sv,it+1,ws⟩,gA) ⟨hs.1,hs.2,kK,by dsimp only; omega⟩)
theorem aJh{n:Nat}(ih:∀ m,m < n→wF F k j R H fr cs m){old:Wd}{aw sv:Bool}{it:Nat}{ws:Bool}{gA:Int}(hx:RA F (⟨old,aw,sv,it,ws⟩,gA))
  (ajn:∀ m,m≤n→∀ st,aI st (BX F ⟨old,aw,sv,it,ws⟩ gA)→U (WJ F m k j (.c2 ⟨old,aw,sv,it,ws⟩)) (BW fr cs) R H st [.code Mt,.inBlock 1,.inLoop tD,.inBlock 0,.code zD]) :
  U (WJ F n k j (hd ⟨old,aw,sv,it,ws⟩)) (BW fr cs) R H (BX F ⟨old,aw,sv,it,ws⟩ gA) [.code tD,.inLoop tD,.inBlock 0,.code zD]:=by
 obtain ⟨gQ,xf,kK,Pj⟩:=hx
 dsimp only at gQ xf kK Pj
 have hN:=F.hN
 have h5:=BJ gQ (show F.N≤5 by omega)
 obtain ⟨b1,b2,b3,b4,b5,b7,o1,o2,o4,n2,s3⟩:=Wd.ug h5
 obtain ⟨q1,q2,q3,q4⟩:=h5
 refine U.aY ?_
 refine U.seq ?_
 refine U.seq ?_
 refine U.rg [0,1,2,3,4,5,6] ?_
 refine U.lv 4 ?_
 by_cases hq:old.l=1∧old.s=0
 ·have UE:hd ⟨old,aw,sv,it,ws⟩ = .sq ⟨old,aw,sv,it,ws⟩:=if_pos hq
  rw [UE]
  refine U.is 17 (v':=.bool true) rfl (rH b5 (by simp [hq])) ?_
  refine U.lv 1 ?_
  refine sW λ m hm=>KW.ext rfl rfl rfl rfl ars rfl rfl λ _ w s _ bp _ _=>.inr ?_
  have no:∀ st,aI st (BX F ⟨old,aw,sv,it,ws⟩ gA)→U (WJ F m k j (.c2 ⟨old,aw,sv,it,ws⟩)) (BW fr cs) R H st [.code Mt,.inBlock 1,.inLoop tD,.inBlock 0,.code zD]:=λ st hs=>ajn m (Nat.le_of_lt hm) st hs
  by_cases h4:4≤it
  ·refine ⟨.bool false,w,#[],.c2 _,s,aqi (by dsimp only; omega),.RD,trivial,qL,cB.refl bp,λ aW bh=>(?_:U (WJ F m k j (.c2 ⟨old,aw,sv,it,ws⟩)) _ _ _ _ _) aW bh⟩
   refine U.lv 1 ?_
   refine U.aT ?_
   refine U.eF rfl rfl ?_
   refine U.skip ?_
   exact no _ (cc.sub ⟨rfl,rfl,rfl,rfl,rfl,rfl,trivial⟩)
  ·cases hsp:w.spins
   ·refine ⟨.bool false,w.asked,#[],.c2 _,s,hsp ▸ ae2 (by dsimp only; omega),.RD,trivial,qL,cB.asked bp,λ aW bh=>(?_:U (WJ F m k j (.c2 ⟨old,aw,sv,it,ws⟩)) _ _ _ _ _) aW bh⟩
    refine U.lv 1 ?_
    refine U.aT ?_
    refine U.eF rfl rfl ?_
    refine U.skip ?_
    exact no _ (cc.sub ⟨rfl,rfl,rfl,rfl,rfl,rfl,trivial⟩)
   ·refine ⟨.bool true,w.asked,#[],jC ⟨old,aw,sv,it,ws⟩,s,hsp ▸ ae2 (by dsimp only; omega),.zM (by show it < 4; omega),py (by simp),qL,cB.asked bp,λ aW bh=>aGY ((?_:U (WJ F m k j (jC ⟨old,aw,sv,it,ws⟩)) _ _ _ _ _) aW bh)⟩
    refine U.lv 1 ?_
    refine U.aT ?_
    refine U.fI rfl rfl ?_
    refine U.seq ?_
    refine U.seq ?_
    refine U.rg [0,1,2,3,4,5,6,7,8,9,10,11,12,13,14,15,16,17,18,19,20] ?_
    have vv:∀ m',m' < m→wF F k j R H fr cs m':=λ m' h'=>ih m' (Nat.lt_trans h' hm)
    have quiet:¬ (aw=false∧old.w=0∧old.n≠0)→jC ⟨old,aw,sv,it,ws⟩ = .r1 ⟨old,aw,sv,it,ws⟩:=λ h=>if_neg h
    cases aw
    case true =>
     rw [quiet (by simp)]
     refine U.lv 21 ?_
     refine U.aT ?_
     refine U.eF rfl rfl ?_
     refine U.skip ?_
     refine MQ vv kK ?_
     exact cc.sub ⟨rfl,rfl,rfl,rfl,rfl,trivial⟩
    case false =>
     refine U.lv 6 ?_
     by_cases YL:old.w=0
     case neg =>
      rw [quiet (by simp [YL])]
      refine U.is 26 (v':=.bool false) rfl (rH b2 (by rw [beq_eq_false_iff_ne]; omega)) ?_
      refine U.lv 15 ?_
      refine U.aT ?_
      refine U.eF rfl rfl ?_
      refine U.skip ?_
      refine MQ vv kK ?_
      exact cc.sub ⟨rfl,rfl,rfl,rfl,rfl,trivial⟩
     refine U.is 26 (v':=.bool true) rfl (rH b2 (by simp [YL])) ?_
     refine U.lv 5 ?_
     have r7:old.val.fdiv (2 ^ (min (3:Int).toNat IntKind.i32.bits))=(old.n:Int):=by simpa [mJ] using s3
     by_cases F6:old.n=0
     case pos =>
      rw [quiet (by simp [F6])]
      refine U.is 31 (v':=.bool false) rfl (congrArg Value.bool (by show (old.val.fdiv (2 ^ (min (3:Int).toNat IntKind.i32.bits)) != 0)=false; rw [r7,F6]; rfl)) ?_
      refine U.lv 10 ?_
      refine U.aT ?_
      refine U.eF rfl rfl ?_
      refine U.skip ?_
      refine MQ vv kK ?_
      exact cc.sub ⟨rfl,rfl,rfl,rfl,rfl,trivial⟩
     refine U.is 31 (v':=.bool true) rfl (congrArg Value.bool (by show (old.val.fdiv (2 ^ (min (3:Int).toNat IntKind.i32.bits)) != 0)=true; rw [r7,bne_iff_ne]; omega)) ?_
     rw [show jC ⟨old,false,sv,it,ws⟩ = .c1 ⟨old,false,sv,it,ws⟩ from if_pos ⟨rfl,YL,F6⟩]
     refine U.lv 8 ?_
     refine U.is 39 (v':=.int .i32 (Wd.val { old with w:=1 })) rfl (by rw [o2]; rfl) ?_
     refine sW λ p hp=>KW.ext rfl rfl rfl rfl OK rfl rfl λ _ w s _ bp hs _=>.inr ?_
     have hp':∀ m',m' < p→wF F k j R H fr cs m':=λ m' h'=>vv m' (Nat.lt_trans h' hp)
     by_cases dq:s.mu=old
     ·subst dq
      refine ⟨.bool true,_,_,.r1 ⟨s.mu,true,sv,it,ws⟩,_,FP bp.cm (bp.zm 0),.Uh rfl,py (by simp),qM (.inl rfl),cB.mu bp,λ aW bh=>(?_:U (WJ F p k j (.r1 ⟨s.mu,true,sv,it,ws⟩)) _ _ _ _ _) aW bh⟩
      refine U.lv 1 ?_
      refine U.aT ?_
      refine U.fI rfl rfl ?_
      refine U.rg [0] ?_
      refine U.lv 1 ?_
      refine U.aT ?_
      refine MQ hp' kK ?_
      exact cc.sub ⟨rfl,rfl,rfl,rfl,rfl,trivial⟩
     ·refine ⟨.bool false,w,_,.r1 ⟨old,false,sv,it,ws⟩,s,Jl bp.cm (bp.zm 0) (λ e=>dq (Wd.val_inj hs.1 gQ e)),.Ug dq,py (by simp),yw (.inl rfl),cB.refl bp,λ aW bh=>(?_:U (WJ F p k j (.r1 ⟨old,false,sv,it,ws⟩)) _ _ _ _ _) aW bh⟩
      refine U.lv 1 ?_
      refine U.aT ?_
      refine U.eF rfl rfl ?_
      refine U.skip ?_
      refine MQ hp' kK ?_
      exact cc.sub ⟨rfl,rfl,rfl,rfl,rfl,trivial⟩
 ·have UE:hd ⟨old,aw,sv,it,ws⟩ = .c2 ⟨old,aw,sv,it,ws⟩:=if_neg hq
  rw [UE]
  refine U.is 17 (v':=.bool false) rfl (rH b5 (by rw [beq_eq_false_iff_ne]; show ¬ ((old.l:Int)+4 * old.s=1); omega)) ?_
  refine U.lv 3 ?_
  refine U.aT ?_
  refine U.eF rfl rfl ?_
  refine U.skip ?_
  exact ajn n (eR _) _ (cc.sub ⟨rfl,rfl,rfl,rfl,rfl,rfl,trivial⟩)
def vL(o:Wd):Wd:={ o with l:=if o.s=0 then 1 else o.l }
def xR(o:Wd):Wd:={ vL o with n:=if o.l=1∨o.s=1 then o.n+1 else o.n }
def Ew(o:Wd)(sv:Bool):Wd:={ xR o with s:=if sv=true∧o.l=1 then 1 else o.s }
theorem adJ{a b:Int}{p:Prop}[Decidable p](h:a=b↔p):(a == b)=decide p:=by
 by_cases hp:p
 ·rw [wE hp]; exact beq_iff_eq.2 (h.2 hp)
 ·rw [Cf hp]; exact beq_eq_false_iff_ne.2 λ e=>hp (h.1 e)
theorem adL{a b:Int}{p:Prop}[Decidable p](h:a≠b↔p):(a != b)=decide p:=by
 by_cases hp:p
 ·rw [wE hp]; exact bne_iff_ne.2 (h.2 hp)
 ·rw [Cf hp,bne,beq_iff_eq.2 (Classical.byContradiction λ e=>hp (h.1 e))]; rfl
theorem CB{b:Option Int}{z y:Int}{p:Bool}(h:b=some z)(hp:(z != y)=p):Value.bool (b.getD 0 != y) = .bool p:=by rw [h]; exact congrArg _ hp
theorem Qg{b:Option Int}{z y:Int}(h:b=some z)(hp:z=y):Value.int .i32 (b.getD 0) = .int .i32 y:=by rw [h,← hp]; rfl
theorem U.mid{P:Program}{B:Base}{main:Bool}{ab:Jd P B main}{c:Ctx}{R:az}{H:ah}{st:St}{todo K:List Item}(S':St)(h1:(∀ st,aI st S'→U ab c R H st K)→U ab c R H st todo)(h2:U ab c R H S' K):U ab c R H st todo:=h1 λ _ hs=>U.sub hs h2
abbrev Mu(F:Fx)(c:Lc)(gA:Int)(m:Wd):St:=(7,.int .i32 m.val)::BX F c gA
noncomputable def aC8:Code:=match Mt with | .seq _ (.seq _ (.seq _ (.seq _ (.seq _ (.seq _ (.cond _ x _))))))=>x | _=>.skip
noncomputable def afx:Code:=match aC8 with | .seq _ (.seq _ (.seq _ x))=>x | _=>.skip
noncomputable def ar7:Code:=match afx with | .seq _ (.seq _ x)=>x | _=>.skip
theorem aK0{m:Wd}(h:m.ok 5)(hl:m.l=0)(hw:m.w=0)(hs:m.s=1)(hn:m.n≠0)(b:Bool):IntKind.i32.wrap (m.val+(if b then -7 else -11))=Wd.val ⟨1,m.w,if b then m.s else 0,m.n - 1⟩:=by
 obtain ⟨l,w,s,n⟩:=m
 dsimp only at hl hw hs hn
 subst hl hw hs
 have:=h.2.2.2
 dsimp only at this
 cases b
 ·rw [wrap_i32 (by simp only [Wd.val]; split <;> omega) (by simp only [Wd.val]; split <;> omega)]
  simp only [Wd.val]; simp; omega
 ·rw [wrap_i32 (by simp only [Wd.val]; split <;> omega) (by simp only [Wd.val]; split <;> omega)]
  simp only [Wd.val]; simp; omega
theorem ai1(hk:Az F k j R H (aV (fr.finish (iM [])) cs)){n:Nat}(ih:∀ m,m < n→wF F k j R H fr cs m){old:Wd}{aw sv:Bool}{it:Nat}{ws:Bool}{gA:Int}(kK:ws=decide (gA≠0)){st:St}(cU:aI st [(0,pm F),(2,.int .i64 gA),(3,.bool sv)]) :
  U (WJ F n k j (.r2 ⟨old,aw,sv,it,ws⟩)) (BW fr cs) R H st [.code ar7,.inBlock 1,.inLoop tD,.inBlock 0,.code zD]:=by
 have hN:=F.hN
 refine U.sub cU ?_
 refine U.seq ?_
 refine U.rg [0,1,2,3,4] ?_
 refine U.lv 3 ?_
 refine sW λ m hm=>KW.look rfl rfl rfl rfl rfl Hj (by kernel_rfl) rfl ⟨by simp,by simp⟩ (λ _ h=>h) λ _ s hs=>?_
 have h5:=BJ hs.1 (show (FT F).N≤5 from Nat.le_trans hN (by omega))
 obtain ⟨b1,b2,b3,b4,b5,b7,o1,o2,o4,n2,s3⟩:=Wd.ug h5
 have r7:s.mu.val.fdiv (2 ^ (min (3:Int).toNat IntKind.i32.bits))=(s.mu.n:Int):=by simpa [mJ] using s3
 rcases hs.2 with ⟨e1,e2,e3,e4⟩ | ⟨e1,e2⟩
 ·refine ⟨_,.MH e1,py (by simp),λ aW bh=>(?_:U (WJ F m k j (.a1 (sv && s.mu.n != 1))) _ _ _ _ _) aW bh⟩
  refine U.lv 1 ?_
  refine U.aT ?_
  refine U.seq ?_
  refine U.seq ?_
  refine U.rg [0,1,2] ?_
  refine U.lv 3 ?_
  refine U.aT ?_
  refine U.is 107 (v':=.bool true) rfl (CB b4 (by rw [e1]; rfl)) ?_
  refine U.fI rfl rfl ?_
  refine U.seq ?_
  refine U.seq ?_
  refine U.rg [0,1,2,3,4,5,6,7] ?_
  refine U.lv 3 ?_
  refine U.is 110 (v':=.bool false) rfl (CB b3 (by rw [e2,e3]; rfl)) ?_
  refine U.lv 4 ?_
  refine U.is 114 (v':=.bool false) rfl (congrArg Value.bool (by show (s.mu.val.fdiv (2 ^ (min (3:Int).toNat IntKind.i32.bits)) == 0)=false; rw [r7,beq_eq_false_iff_ne]; omega)) ?_
  refine U.lv 1 ?_
  refine U.aT ?_
  refine U.eF rfl rfl ?_
  refine U.skip ?_
  refine U.seq ?_
  refine U.rg [0] ?_
  refine U.lv 1 ?_
  refine U.aT ?_
  refine U.seq ?_
  refine U.seq ?_
  refine U.rg [0,1,2,3,4,5,6] ?_
  refine U.mid (K:=?K) [(0,pm F),(9,.int .i32 (-7)),(123,.bool (!(sv && s.mu.n != 1)))] ?h1 ?h2
  case h1 =>
   intro h
   cases sv
   ·refine U.lv 7 ?_
    refine U.aT ?_
    refine h _ ?_
    exact cc.sub ⟨rfl,rfl,rfl,trivial⟩
   ·refine U.lv 6 ?_
    refine U.is 122 (v':=.bool (!(true && s.mu.n != 1))) rfl (congrArg Value.bool (by
     show (s.mu.val.fdiv (2 ^ (min (3:Int).toNat IntKind.i32.bits)) == 1)=_
     rw [r7]
     by_cases e:s.mu.n=1
     ·rw [e]; rfl
     ·rw [beq_eq_false_iff_ne.2 (by omega)]; simp [e])) ?_
    refine U.lv 1 ?_
    refine U.aT ?_
    refine h _ ?_
    exact cc.sub ⟨rfl,rfl,rfl,trivial⟩
  generalize (sv && s.mu.n != 1)=b
  refine U.join (st':=[(0,pm F),(9,.int .i32 (if b then -7 else -11))]) rfl (λ hb h=>?_) (λ hb h=>?_) ?_
  ·cases b
   ·refine U.rg [0,1,2] ?_
    refine U.lv 3 ?_
    refine U.aT ?_
    refine U.sub ?_ h
    exact cc.sub ⟨rfl,rfl,trivial⟩
   ·cases hb
  ·cases b
   ·cases hb
   ·refine U.skip ?_
    refine U.sub ?_ h
    exact cc.sub ⟨rfl,rfl,trivial⟩
  refine U.seq ?_
  refine U.rg [0,1,2,3,4] ?_
  refine U.lv 4 ?_
  refine sW λ p hp=>KW.ext rfl rfl rfl rfl afp rfl rfl λ _ w s _ bp hs _=>.inr ?_
  obtain ⟨r6,g1,g2,g3,g4,g5⟩:=hs
  have e:=aK0 (BJ r6 (show (FT F).N≤5 from Nat.le_trans hN (by omega))) g2 g3 g1 g4 b
  refine ⟨_,_,_,.le,_,AR bp.cm (bp.zm 0),.a1,trivial,qM (.inl rfl),by rw [e]; exact cB.mu bp,λ aW bh=>(?_:U (WJ F p k j .le) _ _ _ _ _) aW bh⟩
  refine U.aT ?_
  refine U.cE rfl ?_
  refine U.sub ?_ (ai2 hk p)
  exact cc.sub ⟨rfl,trivial⟩
 ·refine ⟨_,.zB e1,py (by simp),λ aW bh=>QS ((?_:U (WJ F m k j (hd ⟨s.mu,true,sv,0,ws⟩)) _ _ _ _ _) aW bh)⟩
  refine U.lv 1 ?_
  refine U.aT ?_
  refine U.seq ?_
  refine U.seq ?_
  refine U.rg [0,1,2] ?_
  refine U.lv 3 ?_
  refine U.aT ?_
  refine U.is 107 (v':=.bool false) rfl (CB b4 (by rw [e1]; rfl)) ?_
  refine U.eF rfl rfl ?_
  refine U.skip ?_
  refine U.seq ?_
  refine U.rg [0] ?_
  refine U.lv 1 ?_
  refine U.aT ?_
  refine U.rg [0] ?_
  refine U.lv 1 ?_
  refine U.aT ?_
  refine U.bC ?_
  refine U.inLoop ?_
  refine U.sub ?_ (ih m hm (⟨s.mu,true,sv,0,ws⟩,gA) ⟨hs.1,λ _=>e2,kK,Nat.zero_le _⟩)
  exact cc.sub ⟨rfl,rfl,rfl,rfl,rfl,rfl,trivial⟩
theorem ai0(hB:∀ w:World,F.B.os w.os→F.B.os w.later.os)(hk:Az F k j R H (aV (fr.finish (iM [])) cs)){n:Nat}(ih:∀ m,m < n→wF F k j R H fr cs m){old:Wd}{aw sv:Bool}{it:Nat}{ws q:Bool}{gA:Int}(kK:ws=decide (gA≠0)){st:St}(cU:aI st [(0,pm F),(2,.int .i64 gA),(3,.bool sv),(8,.bool q)]) :
  U (WJ F n k j (.s1 ⟨old,aw,sv,it,ws⟩)) (BW fr cs) R H st [.code afx,.inBlock 1,.inLoop tD,.inBlock 0,.code zD]:=by
 refine U.sub cU ?_
 refine U.seq ?_
 refine U.rg [0,1,2,3,4] ?_
 refine U.lv 4 ?_
 refine sW λ m hm=>KW.ext rfl rfl rfl rfl aru rfl rfl λ _ w s _ bp _ _=>?_
 have vv:∀ m',m' < m→wF F k j R H fr cs m':=λ m' h'=>ih m' (Nat.lt_trans h' hm)
 cases F4:s.ms with
 | zero=>exact .inl ⟨⟨_,rfl⟩,rfl,ac0 rfl (by rw [bp.Oh,F4]; rfl)⟩
 | succ u =>
  have ea:((u+1:Nat):Int) - 1=(u:Int):=by omega
  refine .inr ⟨_,_,_,if sv then .r2 ⟨old,aw,sv,it,ws⟩ else .t2 ⟨old,aw,sv,it,ws⟩,_,ae1 (n:=((u+1:Nat):Int)) rfl (by rw [← F4]; exact bp.Oh) (by omega) (bp.zm 1),.s1 F4,py (by simp),IV (.inl rfl),by rw [ea]; exact cB.ms bp,λ aW bh=>?_⟩
  cases sv
  ·refine (?_:U (WJ F m k j (.t2 ⟨old,aw,false,it,ws⟩)) _ _ _ _ _) aW bh
   refine U.aT ?_
   refine U.seq ?_
   refine U.rg [0,1,2,3,4,5,6,7] ?_
   refine U.lv 2 ?_
   refine sW λ p hp=>KW.nano hB rfl rfl rfl rfl afq (by kernel_rfl) rfl rfl ⟨by simp,by simp⟩ qL λ _ z=>?_
   refine ⟨.r2 ⟨old,aw,decide (IntKind.wrap .i64 (z - gA) > 1000000),it,ws⟩,λ s=>.t2 _,py (by simp),λ aW bh=>(?_:U (WJ F p k j (.r2 ⟨old,aw,decide (IntKind.wrap .i64 (z - gA) > 1000000),it,ws⟩)) _ _ _ _ _) aW bh⟩
   refine U.lv 5 ?_
   refine U.aT ?_
   refine ai1 hk (λ m' h'=>vv m' (Nat.lt_trans h' hp)) kK ?_
   exact cc.sub ⟨rfl,rfl,rfl,trivial⟩
  ·refine (?_:U (WJ F m k j (.r2 ⟨old,aw,true,it,ws⟩)) _ _ _ _ _) aW bh
   refine U.aT ?_
   refine U.seq ?_
   refine U.rg [0,1,2,3,4,5,6,7] ?_
   refine U.lv 8 ?_
   refine U.aT ?_
   refine ai1 hk vv kK ?_
   exact cc.sub ⟨rfl,rfl,rfl,trivial⟩
theorem aJe(hB:∀ w:World,F.B.os w.os→F.B.os w.later.os)(hk:Az F k j R H (aV (fr.finish (iM [])) cs)){n:Nat}(ih:∀ m,m < n→wF F k j R H fr cs m){old:Wd}{aw sv:Bool}{it:Nat}{ws:Bool}{gA:Int}(hx:RA F (⟨old,aw,sv,it,ws⟩,gA)){st:St}(cU:aI st (BX F ⟨old,aw,sv,it,ws⟩ gA)) :
  U (WJ F n k j (.c2 ⟨old,aw,sv,it,ws⟩)) (BW fr cs) R H st [.code Mt,.inBlock 1,.inLoop tD,.inBlock 0,.code zD]:=by
 obtain ⟨gQ,xf,kK,Pj⟩:=hx
 dsimp only at gQ xf kK Pj
 have hN:=F.hN
 have h5:old.ok 5:=BJ gQ (by omega)
 have h4:old.ok 4:=BJ gQ (by omega)
 obtain ⟨b1,b2,b3,b4,b5,b7,o1,o2,o4,n2,s3⟩:=Wd.ug h5
 obtain ⟨q1,q2,q3,q4⟩:=h4
 have k1:(vL old).ok 5:=⟨by simp only [vL]; split <;> omega,q2,q3,by simp only [vL]; omega⟩
 have k2:(xR old).ok 5:=⟨k1.1,q2,q3,by simp only [xR]; split <;> omega⟩
 have k3:(Ew old sv).ok 5:=⟨k1.1,q2,by simp only [Ew]; split <;> omega,k2.2.2.2⟩
 refine U.sub cU ?_
 refine U.seq ?_
 refine U.rg [0,1] ?_
 refine U.lv 2 ?_
 refine U.aT ?_
 refine U.seq ?_
 refine U.seq ?_
 refine U.rg [0,1,2] ?_
 refine U.lv 3 ?_
 refine U.aT ?_
 refine U.is 52 (v':=.bool (decide (old.s=0))) rfl (rH b4 (adJ (by omega))) ?_
 refine U.join (st':=Mu F ⟨old,aw,sv,it,ws⟩ gA (vL old)) rfl (λ hb h=>?_) (λ hb h=>?_) ?_
 ·refine U.rg [0,1,2] ?_
  refine U.lv 3 ?_
  refine U.aT ?_
  refine U.is 7 (v':=.int .i32 (vL old).val) rfl (Qg o1 (by simp [vL,of_decide_eq_true hb])) ?_
  refine U.sub ?_ h
  exact cc.sub ⟨rfl,rfl,rfl,rfl,rfl,rfl,rfl,trivial⟩
 ·refine U.skip ?_
  refine U.is 7 (v':=.int .i32 (vL old).val) rfl (by simp [vL,of_decide_eq_false hb]) ?_
  refine U.sub ?_ h
  exact cc.sub ⟨rfl,rfl,rfl,rfl,rfl,rfl,rfl,trivial⟩
 refine U.seq ?_
 refine U.seq ?_
 refine U.rg [0,1,2] ?_
 refine U.lv 3 ?_
 refine U.aT ?_
 refine U.is 57 (v':=.bool (decide (old.l=1∨old.s=1))) rfl (CB b5 (adL (by omega))) ?_
 refine U.join (st':=Mu F ⟨old,aw,sv,it,ws⟩ gA (xR old)) rfl (λ hb h=>?_) (λ hb h=>?_) ?_
 ·refine U.rg [0,1,2] ?_
  refine U.lv 3 ?_
  refine U.aT ?_
  have e:(vL old).val+8=(xR old).val:=by simp only [xR,vL,Wd.val,of_decide_eq_true hb,if_true]; omega
  have f:=Wd.fit k1
  refine U.is 7 (v':=.int .i32 (xR old).val) rfl (by rw [← e]; exact congrArg _ (wrap_i32 (by omega) (by omega))) ?_
  refine U.sub ?_ h
  exact cc.sub ⟨rfl,rfl,rfl,rfl,rfl,rfl,rfl,trivial⟩
 ·refine U.skip ?_
  refine U.is 7 (v':=.int .i32 (xR old).val) rfl (by simp only [xR,of_decide_eq_false hb,if_false]; rfl) ?_
  refine U.sub ?_ h
  exact cc.sub ⟨rfl,rfl,rfl,rfl,rfl,rfl,rfl,trivial⟩
 refine U.seq ?_
 refine U.seq ?_
 refine U.rg [0,1,2,3,4,5] ?_
 refine U.mid (K:=?K) ((65,.bool (decide (sv=true∧old.l=1)))::Mu F ⟨old,aw,sv,it,ws⟩ gA (xR old)) ?h1 ?h2
 case h1 =>
  intro h
  cases sv
  ·refine U.lv 6 ?_
   refine U.aT ?_
   refine h _ ?_
   exact cc.sub ⟨rfl,rfl,rfl,rfl,rfl,rfl,rfl,rfl,trivial⟩
  ·refine U.lv 5 ?_
   refine U.is 64 (v':=.bool (decide (true=true∧old.l=1))) rfl (CB b1 (adL (by simp; omega))) ?_
   refine U.lv 1 ?_
   refine U.aT ?_
   refine h _ ?_
   exact cc.sub ⟨rfl,rfl,rfl,rfl,rfl,rfl,rfl,rfl,trivial⟩
 refine U.join (st':=Mu F ⟨old,aw,sv,it,ws⟩ gA (Ew old sv)) rfl (λ hb h=>?_) (λ hb h=>?_) ?_
 ·refine U.rg [0,1,2] ?_
  refine U.lv 3 ?_
  refine U.aT ?_
  have o:=(Wd.ug k2).2.2.2.2.2.2.2.2.1
  refine U.is 7 (v':=.int .i32 (Ew old sv).val) rfl (Qg o (by simp only [Ew,of_decide_eq_true hb,and_self,if_true])) ?_
  refine U.sub ?_ h
  exact cc.sub ⟨rfl,rfl,rfl,rfl,rfl,rfl,rfl,trivial⟩
 ·refine U.skip ?_
  refine U.is 7 (v':=.int .i32 (Ew old sv).val) rfl (by simp only [Ew,of_decide_eq_false hb,if_false]; rfl) ?_
  refine U.sub ?_ h
  exact cc.sub ⟨rfl,rfl,rfl,rfl,rfl,rfl,rfl,trivial⟩
 refine U.seq ?_
 refine U.seq ?_
 refine U.rg [0] ?_
 refine U.lv 1 ?_
 refine U.aT ?_
 refine U.join (st':=Mu F ⟨old,aw,sv,it,ws⟩ gA (nw ⟨old,aw,sv,it,ws⟩)) rfl (λ hb h=>?_) (λ hb h=>?_) ?_
 ·dsimp only at hb
  subst hb
  obtain ⟨_,a2,_,_,_,_,_,_,_,wK,_⟩:=Wd.ug k3
  refine U.seq ?_
  refine U.seq ?_
  refine U.rg [0,1,2] ?_
  refine U.lv 3 ?_
  refine U.aT ?_
  have hw1:=xf rfl
  refine U.is 71 (v':=.bool false) rfl (rH a2 (by rw [beq_eq_false_iff_ne]; show ¬ (2 * (old.w:Int)=0); omega)) ?_
  refine U.eF rfl rfl ?_
  refine U.skip ?_
  refine U.rg [0,1,2] ?_
  refine U.lv 3 ?_
  refine U.aT ?_
  refine U.is 7 (v':=.int .i32 (nw ⟨old,true,sv,it,ws⟩).val) rfl (Qg wK rfl) ?_
  refine U.sub ?_ h
  exact cc.sub ⟨rfl,rfl,rfl,rfl,rfl,rfl,rfl,trivial⟩
 ·dsimp only at hb
  subst hb
  refine U.skip ?_
  refine U.is 7 (v':=.int .i32 (nw ⟨old,false,sv,it,ws⟩).val) rfl rfl ?_
  refine U.sub ?_ h
  exact cc.sub ⟨rfl,rfl,rfl,rfl,rfl,rfl,rfl,trivial⟩
 refine U.seq ?_
 refine U.rg [0,1,2,3,4,5] ?_
 refine U.lv 5 ?_
 refine sW λ m hm=>KW.ext rfl rfl rfl rfl OK rfl rfl λ _ w s _ bp hs _=>.inr ?_
 have vv:∀ m',m' < m→wF F k j R H fr cs m':=λ m' h'=>ih m' (Nat.lt_trans h' hm)
 by_cases dq:s.mu=old
 ·subst dq
  by_cases hf:s.mu.l=0∧s.mu.s=0
  ·
   refine ⟨.bool true,_,_,.le,_,FP bp.cm (bp.zm 0),.Ul rfl hf.1 hf.2,trivial,qM (.inl rfl),cB.mu bp,λ aW bh=>(?_:U (WJ F m k j .le) _ _ _ _ _) aW bh⟩
   refine U.aT ?_
   refine U.fI rfl rfl ?_
   refine U.seq ?_
   refine U.seq ?_
   refine U.rg [0,1,2] ?_
   refine U.lv 3 ?_
   refine U.aT ?_
   refine U.is 83 (v':=.bool true) rfl (rH b5 (by rw [hf.1,hf.2]; rfl)) ?_
   refine U.fI rfl rfl ?_
   refine U.cE rfl ?_
   refine U.sub ?_ (ai2 hk m)
   exact cc.sub ⟨rfl,trivial⟩
  ·
   have hq:s.mu.l=1∨s.mu.s=1:=by omega
   refine ⟨.bool true,_,_,if ws then .s1 ⟨s.mu,aw,sv,it,ws⟩ else .t1 ⟨s.mu,aw,sv,it,ws⟩,_,FP bp.cm (bp.zm 0),.yA rfl hq,py (by simp),qM (.inl rfl),cB.mu bp,λ aW bh=>?_⟩
   by_cases hw:gA=0
   ·have e0:ws=false:=by rw [kK]; simp [hw]
    subst e0
    refine (?_:U (WJ F m k j (.t1 ⟨s.mu,aw,sv,it,false⟩)) _ _ _ _ _) aW bh
    refine U.aT ?_
    refine U.fI rfl rfl ?_
    refine U.seq ?_
    refine U.seq ?_
    refine U.rg [0,1,2] ?_
    refine U.lv 3 ?_
    refine U.aT ?_
    refine U.is 83 (v':=.bool false) rfl (rH b5 (by rw [beq_eq_false_iff_ne]; omega)) ?_
    refine U.eF rfl rfl ?_
    refine U.skip ?_
    refine U.seq ?_
    refine U.rg [0,1,2] ?_
    refine U.lv 3 ?_
    refine U.aT ?_
    refine U.seq ?_
    refine U.seq ?_
    refine U.rg [0,1] ?_
    refine U.lv 2 ?_
    refine U.aT ?_
    refine U.is 87 (v':=.bool true) rfl (congrArg Value.bool (beq_iff_eq.2 hw)) ?_
    refine U.fI rfl rfl ?_
    refine U.rg [0,1] ?_
    refine sW λ p hp=>KW.nano hB rfl rfl rfl rfl afq (by kernel_rfl) rfl rfl ⟨by simp,by simp⟩ qL λ _ z=>?_
    refine ⟨.s1 ⟨s.mu,aw,sv,it,decide (z≠0)⟩,λ s=>.t1 _,py (by simp),λ aW bh=>(?_:U (WJ F p k j (.s1 ⟨s.mu,aw,sv,it,decide (z≠0)⟩)) _ _ _ _ _) aW bh⟩
    refine U.lv 1 ?_
    refine U.aT ?_
    refine ai0 hB hk (q:=(gA != 0)) (λ m' h'=>vv m' (Nat.lt_trans h' hp)) rfl ?_
    exact cc.sub ⟨rfl,rfl,rfl,rfl,trivial⟩
   ·have e0:ws=true:=by rw [kK]; simp [hw]
    subst e0
    refine (?_:U (WJ F m k j (.s1 ⟨s.mu,aw,sv,it,true⟩)) _ _ _ _ _) aW bh
    refine U.aT ?_
    refine U.fI rfl rfl ?_
    refine U.seq ?_
    refine U.seq ?_
    refine U.rg [0,1,2] ?_
    refine U.lv 3 ?_
    refine U.aT ?_
    refine U.is 83 (v':=.bool false) rfl (rH b5 (by rw [beq_eq_false_iff_ne]; omega)) ?_
    refine U.eF rfl rfl ?_
    refine U.skip ?_
    refine U.seq ?_
    refine U.rg [0,1,2] ?_
    refine U.lv 3 ?_
    refine U.aT ?_
    refine U.seq ?_
    refine U.seq ?_
    refine U.rg [0,1] ?_
    refine U.lv 2 ?_
    refine U.aT ?_
    refine U.is 87 (v':=.bool false) rfl (congrArg Value.bool (beq_eq_false_iff_ne.2 hw)) ?_
    refine U.eF rfl rfl ?_
    refine U.skip ?_
    refine ai0 hB hk (q:=(gA != 0)) vv kK ?_
    exact cc.sub ⟨rfl,rfl,rfl,rfl,trivial⟩
 ·
  refine ⟨.bool false,w,_,.r3 ⟨old,aw,sv,it,ws⟩,s,Jl bp.cm (bp.zm 0) (λ e=>dq (Wd.val_inj hs.1 gQ e)),.Um dq,py (by simp),yw (.inl rfl),cB.refl bp,λ aW bh=>(?_:U (WJ F m k j (.r3 ⟨old,aw,sv,it,ws⟩)) _ _ _ _ _) aW bh⟩
  refine U.aT ?_
  refine U.eF rfl rfl ?_
  refine U.rg [0,1,2,3,4] ?_
  refine U.lv 3 ?_
  refine sW λ p hp=>KW.look rfl rfl rfl rfl rfl Hj (by kernel_rfl) rfl ⟨by simp,by simp⟩ (λ _ h=>h) λ ot s hs=>⟨_,.r3,py (by simp),λ aW bh=>QS ((?_:U (WJ F p k j (hd ⟨s.mu,aw,sv,it,ws⟩)) _ _ _ _ _) aW bh)⟩
  refine U.lv 1 ?_
  refine U.aT ?_
  refine U.bC ?_
  refine U.inLoop ?_
  refine U.sub ?_ (vv p hp (⟨s.mu,aw,sv,it,ws⟩,gA) ⟨hs.1,hs.2,kK,Pj⟩)
  exact cc.sub ⟨rfl,rfl,rfl,rfl,rfl,rfl,trivial⟩
theorem aJf(hB:∀ w:World,F.B.os w.os→F.B.os w.later.os)(hk:Az F k j R H (aV (fr.finish (iM [])) cs))(n:Nat):wF F k j R H fr cs n:=λ x hx =>
 U.head (Jn:=λ n (x:Lc × Int)=>WJ F n k j (hd x.1)) (S:=λ x=>BX F x.1 x.2) (ok:=RA F) (λ n ih x hx=>by
  obtain ⟨⟨old,aw,sv,it,ws⟩,gA⟩:=x
  exact aJh ih hx λ m hm st cU=>aJe hB hk (λ m' h'=>ih m' (Nat.lt_of_lt_of_le h' hm)) hx cU) n x hx
end
section
variable {F:Fx} {R:az} {H:ah} {k j:Nat}
theorem aJg(hB:∀ w:World,F.B.os w.os→F.B.os w.later.os)(n:Nat):kW prog ((WJ F n k j .r0).J R H) (Az F k j R H) 231 [pm F]:=kW.oC func231 rfl rfl rfl λ fr cs hk=>by
 refine U.seq ?_
 refine U.rg [0] ?_
 refine U.lv 1 ?_
 refine U.aT ?_
 refine U.seq ?_
 refine U.rg [0] ?_
 refine U.lv 1 ?_
 refine U.aT ?_
 refine U.seq ?_
 refine U.rg [0] ?_
 refine U.lv 1 ?_
 refine U.aT ?_
 refine U.seq ?_
 refine U.rg [0] ?_
 refine U.lv 1 ?_
 refine U.aT ?_
 refine U.seq ?_
 refine U.rg [0,1,2,3,4] ?_
 refine U.lv 3 ?_
 refine sW λ m hm=>KW.look rfl rfl rfl rfl rfl Hj (by kernel_rfl) rfl ⟨by simp,by simp⟩ (λ _ h=>h) λ ot s hs=>⟨_,.r0,py (by simp),λ aW bh=>QS ((?_:U (WJ F m k j (hd ⟨s.mu,false,false,0,false⟩)) _ _ _ _ _) aW bh)⟩
 refine U.lv 1 ?_
 refine U.aT ?_
 refine U.seq ?_
 refine U.aY ?_
 refine U.enterLoop ?_
 refine U.sub ?_ (aJf hB hk m (⟨s.mu,false,false,0,false⟩,0) ⟨hs.1,by simp,by simp,Nat.zero_le _⟩)
 exact cc.sub ⟨rfl,rfl,rfl,rfl,rfl,rfl,trivial⟩
theorem aC9(hB:∀ w:World,F.B.os w.os→F.B.os w.later.os)(n:Nat):kW prog ((WJ F n k j .ld).J R H) (Az F k j R H) 203 [pm F]:=kW.oC func203 rfl rfl rfl λ fr cs hk=>by
 refine U.seq ?_
 refine U.rg [0] ?_
 refine sW λ m hm=>KW.ext rfl rfl rfl rfl Jr rfl rfl λ _ w s _ bp _ _=>.inr ⟨_,w,_,.l0,s,rJ (by simp),.ld,trivial,rfl,cB.refl bp,λ aW bh=>(?_:U (WJ F m k j .l0) _ _ _ _ _) aW bh⟩
 refine U.aT ?_
 refine U.seq ?_
 refine U.seq ?_
 refine U.rg [0,1,2,3] ?_
 refine U.lv 3 ?_
 refine sW λ p hp=>KW.ext rfl rfl rfl rfl OK rfl rfl λ _ w s _ bp hs _=>.inr ?_
 by_cases hz:s.mu = .zero
 ·refine ⟨.bool true,_,_,.le,_,FP (v:=0) (by have e:=bp.cm; rw [hz] at e; exact e) (bp.zm 0),.agR hz,trivial,qM (.inl rfl),cB.mu (m:=⟨1,0,0,0⟩) bp,λ aW bh=>(?_:U (WJ F p k j .le) _ _ _ _ _) aW bh⟩
  refine U.aT ?_
  refine U.fI rfl rfl ?_
  refine U.seq ?_
  refine U.fI rfl rfl ?_
  refine U.seq ?_
  refine U.rg [0] ?_
  refine sW λ n _=>KW.ext rfl rfl rfl rfl CQ rfl rfl λ _ w s _ bp _ _=>.inr ⟨_,w,_,.lc,s,rJ (by simp),.le,trivial,rfl,cB.refl bp,λ aW bh=>(?_:U (WJ F n k j .lc) _ _ _ _ _) aW bh⟩
  refine U.aT ?_
  refine U.rg [0,1,2] ?_
  refine U.lv 1 ?_
  refine sW λ n _=>KW.conv rfl rfl rfl rfl rfl abG rfl TM ⟨by simp,by simp⟩ qL (λ _=>.lc) trivial λ aW bh=>(?_:U (WJ F n k j .la) _ _ _ _ _) aW bh
  refine sW λ n _=>KW.ext rfl rfl rfl rfl OJ rfl rfl λ _ w s _ bp _ _=>.inr ⟨_,w,_,.ul λ _=>0,s,CJ (λ _ _=>by simp) rfl,.la,trivial,rfl,cB.refl bp,λ aW bh js iH=>(?_:U (WJ F n k j (.ul js)) _ _ _ _ _) aW bh⟩
  refine U.aT ?_
  exact U.qQ func203 rfl (hk n js iH) (.inr ⟨_,rfl⟩)
 ·refine ⟨.bool false,w,_,.r0,s,Jl bp.cm (bp.zm 0) (λ e=>hz (Wd.val_inj hs.1 (N':=0) ⟨Nat.zero_le _,Nat.zero_le _,Nat.zero_le _,eR _⟩ e)),.agQ hz,trivial,yw (.inl rfl),cB.refl bp,λ aW bh=>(?_:U (WJ F p k j .r0) _ _ _ _ _) aW bh⟩
  refine U.aT ?_
  refine U.eF rfl rfl ?_
  refine U.skip ?_
  refine U.rg [0,1] ?_
  refine U.lv 1 ?_
  refine U.xF rfl rfl rfl rfl rfl apN rfl (aJg hB p) λ aW bh n js iH=>(?_:U (WJ F n k j (.ul js)) _ _ _ _ _) aW bh
  refine U.aT ?_
  exact U.qQ func203 rfl (hk n js iH) (.inl rfl)
theorem aEc(hB:∀ w:World,F.B.os w.os→F.B.os w.later.os)(n:Nat):kW prog ((WJ F n k j .ld).J R H) (Az F k j R H) 173 [pm F]:=kW.oC func173 rfl rfl rfl λ fr cs hk=>by
 refine U.rg [0,1,2,3] ?_
 refine U.lv 3 ?_
 refine U.xF rfl rfl rfl rfl rfl apD rfl (aC9 hB n) λ aW bh n js iH=>(?_:U (WJ F n k j (.ul js)) _ _ _ _ _) aW bh
 refine U.aT ?_
 exact U.qQ func173 rfl (hk n js iH) (.inl rfl)
def TG(F:Fx)(k j:Nat)(R:az)(H:ah)(g:Goroutine):Prop:=∀ n,Own prog F.B false (KW (FT F) n k j .ue) R H g
def TH(F:Fx)(k j:Nat)(R:az)(H:ah)(g:Goroutine):Prop:=(j < F.J→∀ n,Own prog F.B false (KW (FT F) n k j .ld) R H g)∧(j=F.J→∀ n,Own prog F.B false (KW (FT F) n k j .wv) R H g)
theorem akk{m:Wd}(h:m.ok 5)(hl:m.l=0):IntKind.i32.wrap (m.val+1)=Wd.val { m with l:=1 }:=by
 have:=Wd.fit h
 rw [wrap_i32 (by omega) (by omega)]; simp only [Wd.val,hl]; omega
theorem aK1{m:Wd}(h:m.ok 5)(_:m.w=0)(hn:m.n≠0):IntKind.i32.wrap (m.val - 8)=Wd.val { m with n:=m.n - 1 }∧Wd.ok 5 { m with n:=m.n - 1 }:=by
 have:=Wd.fit h
 obtain ⟨h1,h2,h3,h4⟩:=h
 refine ⟨?_,h1,h2,h3,by simp only; omega⟩
 rw [wrap_i32 (by omega) (by omega)]; simp only [Wd.val]; omega
theorem aKZ{m:Wd}(h:m.ok 5)(hl:m.l=1):IntKind.i32.wrap (m.val + -1)=Wd.val { m with l:=0 }:=by
 have:=Wd.fit h
 rw [wrap_i32 (by omega) (by omega)]; simp only [Wd.val,hl]; omega
theorem aju{s:Sh}{w:World}(bp:fD (FT F) s w)(h0:s.ms=0):cB (FT F) { s with ms:=s.ms+1 } w (w.setCell ⟨F.bm,1,none⟩ (.int .u32 (IntKind.u32.wrap ((s.ms:Int)+1)))):=by
 rw [wrap_u32 (by omega) (by omega)]
 exact cB.ms bp
theorem aJ1{m:Wd}(h5:m.ok 5)(hl:m.l=0)(r6:m.s=1)(n:Nat):kW prog ((WJ F n k j .us).J R H) (TG F k j R H) 233 [pm F,.int .i32 m.val]:=kW.oC func233 rfl rfl rfl λ fr cs hk=>by
 have e1:=akk h5 hl
 have d5:Wd.ok 5 { m with l:=1 }:=⟨eR _,h5.2.1,h5.2.2.1,h5.2.2.2⟩
 refine U.seq ?_
 refine U.seq ?_
 refine U.rg [0,1,2,3] ?_
 refine U.lv 2 ?_
 refine U.is 6 (v':=.int .i32 (Wd.val { m with l:=1 })) rfl (congrArg _ e1) ?_
 refine U.lv 2 ?_
 refine U.aT ?_
 refine U.is 8 (v':=.bool false) rfl (rH (Wd.ug d5).1 rfl) ?_
 refine U.eF rfl rfl ?_
 refine U.skip ?_
 refine U.seq ?_
 refine U.rg [0,1,2] ?_
 refine U.lv 3 ?_
 refine U.aT ?_
 refine U.is 12 (v':=.bool false) rfl (rH (Wd.ug h5).2.2.2.1 (by rw [r6]; rfl)) ?_
 refine U.eF rfl rfl ?_
 refine U.rg [0,1,2,3] ?_
 refine U.lv 3 ?_
 refine sW λ m hm=>KW.ext rfl rfl rfl rfl afr rfl rfl λ _ w s _ bp hs _=>.inr ⟨_,_,_,.ue,_,UX rfl bp.Oh (bp.zm 1),.us,trivial,IV (.inl rfl),aju bp hs.2,λ aW bh=>(?_:U (WJ F m k j .ue) _ _ _ _ _) aW bh⟩
 refine U.aT ?_
 exact U.qQ func233 rfl (hk m) (.inl rfl)
noncomputable def aha:Code:=(xD (Tryz.f233.body.getD .skip)).getD .skip
theorem aJ2{fr:Frame}{cs:List Frame}{todo:List Item}(hk:TG F k j R H (aV (fr.finish (iM [])) cs))(n:Nat)(m:Wd)(hm:m.ok F.N) :
  U (WJ F n k j (hu m)) ⟨233,.normal,none,43,[],fr::cs⟩ R H [(0,pm F),(4,.int .i32 m.val)] (.code aha :: .inLoop aha::todo):=by
 have hN:=F.hN
 refine U.head (Jn:=λ n (m:Wd)=>WJ F n k j (hu m)) (S:=λ m=>[(0,pm F),(4,.int .i32 m.val)]) (ok:=λ m=>m.ok F.N) (λ n ih m hm=>?_) n m hm
 have h5:m.ok 5:=BJ hm (by omega)
 have s3:=(Wd.ug h5).2.2.2.2.2.2.2.2.2.2
 have b7:=(Wd.ug h5).2.2.2.2.2.1
 have r7:m.val.fdiv (2 ^ (min (3:Int).toNat IntKind.i32.bits))=(m.n:Int):=by simpa [mJ] using s3
 refine U.aY ?_
 refine U.seq ?_
 refine U.seq ?_
 refine U.rg [0,1,2,3,4,5,6,7] ?_
 refine U.lv 4 ?_
 by_cases hn:m.n=0
 ·rw [show hu m = .ue from if_pos (.inl hn)]
  refine U.is 17 (v':=.bool true) rfl (congrArg Value.bool (by show (m.val.fdiv (2 ^ (min (3:Int).toNat IntKind.i32.bits)) == 0)=true; rw [r7,hn]; rfl)) ?_
  refine U.lv 4 ?_
  refine U.aT ?_
  refine U.fI rfl rfl ?_
  exact U.qQ func233 rfl (hk n) (.inr ⟨_,rfl⟩)
 refine U.is 17 (v':=.bool false) rfl (congrArg Value.bool (by show (m.val.fdiv (2 ^ (min (3:Int).toNat IntKind.i32.bits)) == 0)=false; rw [r7,beq_eq_false_iff_ne]; omega)) ?_
 refine U.lv 3 ?_
 obtain ⟨q1,q2,q3,q4⟩:=h5
 by_cases hx:m.l=1∨m.w=1∨m.s=1
 ·rw [show hu m = .ue from if_pos (.inr hx)]
  refine U.is 20 (v':=.bool true) rfl (CB b7 (by rw [bne_iff_ne]; omega)) ?_
  refine U.lv 1 ?_
  refine U.aT ?_
  refine U.fI rfl rfl ?_
  exact U.qQ func233 rfl (hk n) (.inr ⟨_,rfl⟩)
 rw [show hu m = .uc m from if_neg (by simp only [hn,false_or]; exact hx)]
 obtain ⟨e8,k8⟩:=aK1 ⟨q1,q2,q3,q4⟩ (by omega) hn
 refine U.is 20 (v':=.bool false) rfl (CB b7 (by rw [bne_eq_false_iff_eq]; omega)) ?_
 refine U.lv 1 ?_
 refine U.aT ?_
 refine U.eF rfl rfl ?_
 refine U.skip ?_
 refine U.seq ?_
 refine U.rg [0,1,2,3] ?_
 refine U.lv 2 ?_
 refine U.is 23 (v':=.int .i32 (Wd.val { m with n:=m.n - 1 })) rfl (congrArg _ e8) ?_
 refine U.lv 2 ?_
 refine U.aT ?_
 refine U.is 1 (v':=.int .i32 (Wd.val { m with w:=1,n:=m.n - 1 })) rfl (Qg (Wd.ug k8).2.2.2.2.2.2.2.1 rfl) ?_
 refine U.seq ?_
 refine U.seq ?_
 refine U.rg [0,1,2,3,4,5] ?_
 refine U.lv 5 ?_
 refine sW λ p hp=>KW.ext rfl rfl rfl rfl OK rfl rfl λ _ w s _ bp hs _=>.inr ?_
 by_cases dq:s.mu=m
 ·subst dq
  refine ⟨.bool true,_,_,.us,_,FP bp.cm (bp.zm 0),.ajp rfl,trivial,qM (.inl rfl),cB.mu bp,λ aW bh=>(?_:U (WJ F p k j .us) _ _ _ _ _) aW bh⟩
  refine U.aT ?_
  refine U.fI rfl rfl ?_
  refine U.seq ?_
  refine U.rg [0,1,2,3] ?_
  refine U.lv 3 ?_
  refine sW λ q hq=>KW.ext rfl rfl rfl rfl afr rfl rfl λ _ w s _ bp hs _=>.inr ⟨_,_,_,.ue,_,UX rfl bp.Oh (bp.zm 1),.us,trivial,IV (.inl rfl),aju bp hs.2,λ aW bh=>(?_:U (WJ F q k j .ue) _ _ _ _ _) aW bh⟩
  refine U.aT ?_
  exact U.qQ func233 rfl (hk q) (.inr ⟨_,rfl⟩)
 ·refine ⟨.bool false,w,_,.ux,s,Jl bp.cm (bp.zm 0) (λ e=>dq (Wd.val_inj hs.1 hm e)),.abE dq,trivial,yw (.inl rfl),cB.refl bp,λ aW bh=>(?_:U (WJ F p k j .ux) _ _ _ _ _) aW bh⟩
  refine U.aT ?_
  refine U.eF rfl rfl ?_
  refine U.skip ?_
  refine U.rg [0,1,2,3,4] ?_
  refine U.lv 3 ?_
  refine sW λ q hq=>KW.look rfl rfl rfl rfl rfl Hj (by kernel_rfl) rfl ⟨by simp,by simp⟩ (λ _ h=>h) λ ot s hs=>⟨_,.ux,py (by simp),λ aW bh=>ah1 ((?_:U (WJ F q k j (hu s.mu)) _ _ _ _ _) aW bh)⟩
  refine U.lv 1 ?_
  refine U.aT ?_
  refine U.bC ?_
  refine U.inLoop ?_
  refine U.sub ?_ (ih q (Nat.lt_trans hq hp) s.mu hs.1)
  exact cc.sub ⟨rfl,rfl,trivial⟩
theorem aJ3{m:Wd}(hm:m.ok F.N)(hl:m.l=0)(Ga:m.s=0)(n:Nat):kW prog ((WJ F n k j (hu m)).J R H) (TG F k j R H) 233 [pm F,.int .i32 m.val]:=kW.oC func233 rfl rfl rfl λ fr cs hk=>by
 have hN:=F.hN
 have h5:m.ok 5:=BJ hm (by omega)
 have e1:=akk h5 hl
 have d5:Wd.ok 5 { m with l:=1 }:=⟨eR _,h5.2.1,h5.2.2.1,h5.2.2.2⟩
 refine U.seq ?_
 refine U.seq ?_
 refine U.rg [0,1,2,3] ?_
 refine U.lv 2 ?_
 refine U.is 6 (v':=.int .i32 (Wd.val { m with l:=1 })) rfl (congrArg _ e1) ?_
 refine U.lv 2 ?_
 refine U.aT ?_
 refine U.is 8 (v':=.bool false) rfl (rH (Wd.ug d5).1 rfl) ?_
 refine U.eF rfl rfl ?_
 refine U.skip ?_
 refine U.seq ?_
 refine U.rg [0,1,2] ?_
 refine U.lv 3 ?_
 refine U.aT ?_
 refine U.is 12 (v':=.bool true) rfl (rH (Wd.ug h5).2.2.2.1 (by rw [Ga]; rfl)) ?_
 refine U.fI rfl rfl ?_
 refine U.seq ?_
 refine U.rg [0,1] ?_
 refine U.lv 2 ?_
 refine U.aT ?_
 refine U.aY ?_
 refine U.enterLoop ?_
 refine U.sub ?_ (aJ2 hk n m hm)
 exact cc.sub ⟨rfl,rfl,trivial⟩
end
section
variable {F:Fx} {R:az} {H:ah} {k j:Nat}
noncomputable def aoP:Code:=match Tryz.f204.body with | some (.seq _ (.seq _ (.seq _ z)))=>z | _=>.skip
theorem Z5{fr:Frame}{cs:List Frame}{st:St}(hj:j≤F.J)(hk:TH F k j R H (aV (fr.finish (iM [])) cs))(n:Nat):U (WJ F n k j .ue) ⟨204,.normal,none,21,[],fr::cs⟩ R H st [.code aoP]:=by
 refine U.rg [0] ?_
 refine sW λ m hm=>KW.ext rfl rfl rfl rfl CQ rfl rfl λ _ w s _ bp _ _=>.inr ?_
 by_cases h:j < F.J
 ·refine ⟨_,w,_,.ld,s,rJ (by simp),.RK,h,rfl,cB.refl bp,λ aW bh=>(?_:U (WJ F m k j .ld) _ _ _ _ _) aW bh⟩
  refine U.aT ?_
  exact U.qQ func204 rfl (hk.1 h m) (.inl rfl)
 ·have h':j=F.J:=by omega
  refine ⟨_,w,_,.wv,s,rJ (by simp),.RL,h',rfl,cB.refl bp,λ aW bh=>(?_:U (WJ F m k j .wv) _ _ _ _ _) aW bh⟩
  refine U.aT ?_
  exact U.qQ func204 rfl (hk.2 h' m) (.inl rfl)
theorem aDd{js:Nat→Nat}(hj:j+1≤F.J)(n:Nat):kW prog ((WJ F n k j (.ul js)).J R ((F.bo,F.cont (gG js k (j+1)))::H)) (TH F k (j+1) R H) 204 [pm F]:=kW.oC func204 rfl rfl rfl λ fr cs hk=>by
 have hN:=F.hN
 refine U.seq ?_
 refine U.fI rfl rfl ?_
 refine U.seq ?_
 refine U.rg [0,1,2,3] ?_
 refine U.lv 3 ?_
 refine sW λ m hm=>KW.look rfl rfl rfl rfl rfl Hj (by kernel_rfl) rfl ⟨by simp,by simp⟩ (λ _ h=>h) λ ot s hs=>⟨.uv js,.ul,py (by simp),λ aW bh=>(?_:U (WJ F m k j (.uv js)) _ _ _ _ _) aW bh⟩
 refine U.aT ?_
 refine U.seq ?_
 refine U.rg [0,1,2] ?_
 refine U.lv 1 ?_
 refine sW λ m hm=>KW.conv rfl rfl rfl rfl rfl abG rfl TM ⟨by simp,by simp⟩ qL (λ _=>.uv) trivial λ aW bh=>(?_:U (WJ F m k j (.ur js)) _ _ _ _ _) aW bh
 refine sW λ m hm=>KW.ext rfl rfl rfl rfl afm rfl rfl λ _ w s _ bp _ _=>.inr ⟨_,w,_,.ud,s,CJ (λ _ _=>by simp) rfl,.ur,trivial,rfl,cB.refl bp,λ aW bh=>⟨js,H,rfl,rfl,(?_:U (WJ F m k (j+1) .ud) _ _ _ _ _) aW bh⟩⟩
 refine U.aT ?_
 refine U.rg [0] ?_
 refine sW λ m hm=>KW.ext rfl rfl rfl rfl Jr rfl rfl λ _ w s _ bp _ _=>.inr ⟨_,w,_,.u0,s,rJ (by simp),.ud,trivial,rfl,cB.refl bp,λ aW bh=>(?_:U (WJ F m k (j+1) .u0) _ _ _ _ _) aW bh⟩
 refine U.aT ?_
 refine U.seq ?_
 refine U.rg [0,1,2,3,4] ?_
 refine U.lv 3 ?_
 refine sW λ m hm=>KW.ext rfl rfl rfl rfl afp rfl rfl λ _ w s _ bp hs _=>.inr ?_
 obtain ⟨gQ,hl⟩:=hs
 have h5:s.mu.ok 5:=BJ gQ (show (FT F).N≤5 from Nat.le_trans hN (by omega))
 have e:=aKZ h5 hl
 have k5:Wd.ok F.N { s.mu with l:=0 }:=⟨Nat.zero_le _,gQ.2.1,gQ.2.2.1,gQ.2.2.2⟩
 by_cases r6:s.mu.s=1
 ·refine ⟨_,_,_,.us,_,AR bp.cm (bp.zm 0),.u0h r6,trivial,qM (.inl rfl),by rw [e]; exact cB.mu bp,λ aW bh=>(?_:U (WJ F m k (j+1) .us) _ _ _ _ _) aW bh⟩
  refine U.lv 1 ?_
  refine U.aT ?_
  refine U.is 2 (v':=.int .i32 (Wd.val { s.mu with l:=0 })) rfl (congrArg _ e) ?_
  refine U.seq ?_
  refine U.seq ?_
  refine U.rg [0,1] ?_
  refine U.lv 2 ?_
  refine U.aT ?_
  refine U.is 16 (v':=.bool true) rfl (congrArg Value.bool (by rw [bne_iff_ne]; simp only [Wd.val]; omega)) ?_
  refine U.fI rfl rfl ?_
  refine U.rg [0,1,2] ?_
  refine U.lv 2 ?_
  refine U.xF rfl rfl rfl rfl rfl aeR rfl (aJ1 (m:={ s.mu with l:=0 }) ⟨Nat.zero_le _,h5.2.1,h5.2.2.1,h5.2.2.2⟩ rfl r6 m) λ aW bh n=>(?_:U (WJ F n k (j+1) .ue) _ _ _ _ _) aW bh
  refine U.aT ?_
  exact Z5 hj hk n
 have Ga:s.mu.s=0:=by have:=gQ.2.2.1; omega
 by_cases hz:s.mu.w=0∧s.mu.s=0∧s.mu.n=0
 ·refine ⟨_,_,_,.ue,_,AR bp.cm (bp.zm 0),.u0z hz.1 hz.2.1 hz.2.2,trivial,qM (.inl rfl),by rw [e]; exact cB.mu bp,λ aW bh=>(?_:U (WJ F m k (j+1) .ue) _ _ _ _ _) aW bh⟩
  refine U.lv 1 ?_
  refine U.aT ?_
  refine U.is 2 (v':=.int .i32 (Wd.val { s.mu with l:=0 })) rfl (congrArg _ e) ?_
  refine U.seq ?_
  refine U.seq ?_
  refine U.rg [0,1] ?_
  refine U.lv 2 ?_
  refine U.aT ?_
  refine U.is 16 (v':=.bool false) rfl (congrArg Value.bool (by rw [bne_eq_false_iff_eq]; simp only [Wd.val]; omega)) ?_
  refine U.eF rfl rfl ?_
  refine U.skip ?_
  exact Z5 hj hk m
 ·refine ⟨_,_,_,hu { s.mu with l:=0 },_,AR bp.cm (bp.zm 0),.zO hz Ga,py (by simp),qM (.inl rfl),by rw [e]; exact cB.mu bp,λ aW bh=>ah1 ((?_:U (WJ F m k (j+1) (hu { s.mu with l:=0 })) _ _ _ _ _) aW bh)⟩
  refine U.lv 1 ?_
  refine U.aT ?_
  refine U.is 2 (v':=.int .i32 (Wd.val { s.mu with l:=0 })) rfl (congrArg _ e) ?_
  refine U.seq ?_
  refine U.seq ?_
  refine U.rg [0,1] ?_
  refine U.lv 2 ?_
  refine U.aT ?_
  refine U.is 16 (v':=.bool true) rfl (congrArg Value.bool (by rw [bne_iff_ne]; simp only [Wd.val]; omega)) ?_
  refine U.fI rfl rfl ?_
  refine U.rg [0,1,2] ?_
  refine U.lv 2 ?_
  refine U.xF rfl rfl rfl rfl rfl aeR rfl (aJ3 k5 rfl Ga m) λ aW bh n=>(?_:U (WJ F n k (j+1) .ue) _ _ _ _ _) aW bh
  refine U.aT ?_
  exact Z5 hj hk n
theorem aJY{js:Nat→Nat}(hj:j+1≤F.J)(n:Nat):kW prog ((WJ F n k j (.ul js)).J R ((F.bo,F.cont (gG js k (j+1)))::H)) (TH F k (j+1) R H) 174 [pm F]:=kW.oC func174 rfl rfl rfl λ fr cs hk=>by
 refine U.rg [0,1,2,3] ?_
 refine U.lv 3 ?_
 refine U.xF rfl rfl rfl rfl rfl apE rfl (aDd hj n) λ aW bh=>⟨λ h n=>(?_:U (WJ F n k (j+1) .ld) _ _ _ _ _) aW bh,λ h n=>(?_:U (WJ F n k (j+1) .wv) _ _ _ _ _) aW bh⟩
 ·refine U.aT ?_
  exact U.qQ func174 rfl (hk.1 h n) (.inl rfl)
 ·refine U.aT ?_
  exact U.qQ func174 rfl (hk.2 h n) (.inl rfl)
end
open Go.ConcN
section
variable {F:Fx} {R:az} {H:ah} {k j:Nat}
abbrev pw(F:Fx):Value:=.pointer (some (aw F))
noncomputable abbrev TQ (F:Fx) (n k j:Nat) (T:Lp) (R:az) (H:ah):=toJ prog (KW (FT F) n k j T R H)
theorem sQ{c:Ctx}{st:St}{todo:List Item}{n:Nat}{T:Lp}(h:∀ m,m < n→∀ tmps,cX c.n st tmps→KW (FT F) (m+1) k j T R H (aV (aU c tmps todo) c.cs)):aJ (TQ F n k j T R H) c st todo:=λ tmps ht=>by
 cases n with
 | zero=>exact ⟨0,trivial⟩
 | succ n=>exact ⟨0,h n (Nat.lt_succ_self n) tmps ht⟩
def Gone(g:Goroutine):Prop:=∃ q,QuitsD prog q 0 g
theorem H6(s:Sh):Ad s=4294967296 * (s.v:Int)+s.w:=rfl
theorem aoJ{s:Sh}{w:World}(bp:fD (FT F) s w)(h0:s.ws=0):cB (FT F) { s with ws:=s.ws+1 } w (w.setCell (rD F) (.int .u32 (IntKind.u32.wrap ((s.ws:Int)+1)))):=by
 rw [wrap_u32 (by omega) (by omega)]
 exact cB.ws bp
theorem ac1{n:Nat}{st:St}{fr:Frame}{cs:List Frame}{todo:List Item}{args:Array Value}(hk:Gone (aV (fr.finish (iM [])) cs))(hm:todo=[]∨∃ k,todo = .code .ret::k):aJ (zA prog 1) ⟨169,.normal,none,n,[dcall 192 args],fr::cs⟩ st todo:=by
 have key:∀ tmps todo,cX n st tmps→(zA prog 1).Q (aV (jB ⟨169,.normal,none,n,[dcall 192 args],fr::cs⟩ tmps todo) (fr::cs)):=λ tmps todo ht =>
  aId rfl CQ (QJ.back (J:=zA prog 0) func169 ht rfl hk)
 rcases hm with rfl | ⟨k,rfl⟩
 ·exact aJ.UG rfl λ tmps ht=>key tmps _ ht
 ·exact aJ.ret rfl λ tmps ht=>key tmps _ ht
noncomputable def He:Code:=match Tryz.f169.body with | some (.seq _ (.seq _ (.seq _ (.seq _ z))))=>z | _=>.skip
noncomputable def aop:Code:=match He with | .seq _ (.seq _ (.seq _ (.seq _ (.seq _ (.seq _ (.seq (.seq _ x) _))))))=>x | _=>.skip
noncomputable def r27:Code:=match He with | .seq _ (.seq _ (.seq _ (.seq _ (.seq _ (.seq _ (.seq _ y))))))=>y | _=>.skip
theorem N4{b:Option Int}{z y:Int}{p:Bool}(h:b=some z)(hp:(z != y)=p):Value.bool (b.getD 0 != y) = .bool p:=by rw [h]; exact congrArg _ hp
theorem ac2{J:QJ prog}{c:Ctx}{st:St}{kk:List Item}{v w:Nat}(hc:c.kind = .normal)(hn:c.n=117)(hv:v≤5)(hw:w≤1)(cU:aI st [(0,pw F),(1,.int .i64 (-1)),(4,.bool false),(6,.int .u64 (4294967296 * (v:Int)+w))])
  (h:aJ J c [(0,pw F),(4,.bool false),(6,.int .u64 (4294967296 * (v:Int)+w)),(8,.int .u32 w),(94,.bool (decide (0 < v∨w=0)))] (.code aop :: .code r27::kk)):aJ J c st (.code He::kk):=by
 obtain ⟨f,kind,ro,n,ds,cs⟩:=c
 dsimp only at hc hn
 subst hc hn
 obtain ⟨g1,g2,g3⟩:=ab1 hv hw
 have gs:(4294967296 * (v:Int)+w).fdiv (2 ^ (min (32:Int).toNat IntKind.u64.bits))=(v:Int):=by simpa [mJ] using g3
 refine aJ.sub cU ?_
 refine aJ.seq ?_
 refine aJ.seq ?_
 refine aJ.rg [0,1,2,3,4,5,6] ?_
 refine aJ.lv 4 ?_
 refine aJ.is 47 (v':=.bool false) rfl (N4 g1 rfl) ?_
 refine aJ.lv 3 ?_
 refine aJ.aT ?_
 refine aJ.eF rfl ?_
 refine aJ.skip ?_
 refine aJ.seq ?_
 refine aJ.rg [0,1,2,3] ?_
 refine aJ.lv 4 ?_
 refine aJ.aT ?_
 refine aJ.is 7 (v':=.int .i32 (v:Int)) rfl (congrArg _ (by
  show IntKind.i32.wrap ((4294967296 * (v:Int)+w).fdiv (2 ^ (min (32:Int).toNat IntKind.u64.bits)))=_
  rw [gs,wrap_i32 (by omega) (by omega)])) ?_
 refine aJ.seq ?_
 refine aJ.rg [0,1,2,3] ?_
 refine aJ.lv 4 ?_
 refine aJ.aT ?_
 refine aJ.is 8 (v':=.int .u32 (w:Int)) rfl (congrArg _ (by rw [g2,oT]; exact wrap_u32 (by omega) (by omega))) ?_
 refine aJ.seq ?_
 refine aJ.seq ?_
 refine aJ.rg [0,1,2,3,4,5,6,7,8,9] ?_
 refine aJ.lv 5 ?_
 refine aJ.is 62 (v':=.bool false) rfl (congrArg Value.bool (by decide)) ?_
 refine aJ.lv 5 ?_
 refine aJ.aT ?_
 refine aJ.eF rfl ?_
 refine aJ.skip ?_
 refine aJ.seq ?_
 refine aJ.seq ?_
 refine aJ.rg [0,1] ?_
 refine aJ.lv 2 ?_
 refine aJ.aT ?_
 refine aJ.is 74 (v':=.bool false) rfl (congrArg Value.bool (by rw [decide_eq_false_iff_not]; omega)) ?_
 refine aJ.eF rfl ?_
 refine aJ.skip ?_
 refine aJ.seq ?_
 refine aJ.seq ?_
 refine aJ.rg [0,1,2,3,4,5,6,7,8,9,10,11] ?_
 refine aJ.lv 3 ?_
 rcases (show w=0∨w=1 by omega) with rfl | rfl
 ·refine aJ.is 78 (v':=.bool false) rfl rfl ?_
  refine aJ.lv 9 ?_
  refine aJ.aT ?_
  refine aJ.eF rfl ?_
  refine aJ.skip ?_
  refine aJ.seq ?_
  refine aJ.seq ?_
  refine aJ.rg [0,1,2,3,4,5] ?_
  refine aJ.lv 3 ?_
  by_cases h0:0 < v
  ·refine aJ.is 91 (v':=.bool true) rfl (congrArg Value.bool (by rw [decide_eq_true_iff]; omega)) ?_
   refine aJ.lv 3 ?_
   refine aJ.aT ?_
   refine aJ.is 94 (v':=.bool (decide (0 < v∨0=0))) rfl (congrArg Value.bool (by simp [h0])) ?_
   refine aJ.sub ?_ h
   exact cc.sub ⟨rfl,rfl,rfl,rfl,rfl,trivial⟩
  ·refine aJ.is 91 (v':=.bool false) rfl (congrArg Value.bool (by rw [decide_eq_false_iff_not]; omega)) ?_
   refine aJ.lv 3 ?_
   refine aJ.aT ?_
   refine aJ.is 94 (v':=.bool (decide (0 < v∨0=0))) rfl (congrArg Value.bool (by simp [h0])) ?_
   refine aJ.sub ?_ h
   exact cc.sub ⟨rfl,rfl,rfl,rfl,rfl,trivial⟩
 ·refine aJ.is 78 (v':=.bool true) rfl rfl ?_
  refine aJ.lv 3 ?_
  refine aJ.is 81 (v':=.bool false) rfl (congrArg Value.bool (by decide)) ?_
  refine aJ.lv 6 ?_
  refine aJ.aT ?_
  refine aJ.eF rfl ?_
  refine aJ.skip ?_
  refine aJ.seq ?_
  refine aJ.seq ?_
  refine aJ.rg [0,1,2,3,4,5] ?_
  refine aJ.lv 3 ?_
  by_cases h0:0 < v
  ·refine aJ.is 91 (v':=.bool true) rfl (congrArg Value.bool (by rw [decide_eq_true_iff]; omega)) ?_
   refine aJ.lv 3 ?_
   refine aJ.aT ?_
   refine aJ.is 94 (v':=.bool (decide (0 < v∨1=0))) rfl (congrArg Value.bool (by simp [h0])) ?_
   refine aJ.sub ?_ h
   exact cc.sub ⟨rfl,rfl,rfl,rfl,rfl,trivial⟩
  ·refine aJ.is 91 (v':=.bool false) rfl (congrArg Value.bool (by rw [decide_eq_false_iff_not]; omega)) ?_
   refine aJ.lv 3 ?_
   refine aJ.aT ?_
   refine aJ.is 94 (v':=.bool (decide (0 < v∨1=0))) rfl (congrArg Value.bool (by simp [h0])) ?_
   refine aJ.sub ?_ h
   exact cc.sub ⟨rfl,rfl,rfl,rfl,rfl,trivial⟩
theorem aKT(n:Nat):kW prog ((WJ F n k j .wv).J R H) Gone 169 [pw F,.int .i64 (-1)]:=kW.oC func169 rfl rfl rfl λ fr cs hk=>by
 have hN:=F.hN
 refine U.seq ?_
 refine U.fI rfl rfl ?_
 refine U.seq ?_
 refine U.seq ?_
 refine U.rg [0,1] ?_
 refine U.lv 2 ?_
 refine U.aT ?_
 refine U.fI rfl (by decide) ?_
 refine U.rg [0,1,2] ?_
 refine U.lv 1 ?_
 refine sW λ m hm=>KW.conv rfl rfl rfl rfl rfl abF rfl TN ⟨by simp,by simp⟩ qL (λ _=>.wv) trivial λ aW bh=>(?_:U (WJ F m k j .wr) _ _ _ _ _) aW bh
 refine sW λ m hm=>KW.ext rfl rfl rfl rfl afm rfl rfl λ _ w s _ bp _ _=>.inr ⟨_,w,_,.wk,s,CJ (λ _ _=>by simp) rfl,.wr,trivial,rfl,cB.refl bp,λ aW bh=>(?_:aJ (TQ F m k j .wk R H) _ _ _) aW bh⟩
 refine aJ.aT ?_
 refine aJ.seq ?_
 refine aJ.rg [0] ?_
 refine sQ λ m hm=>KW.ext rfl rfl rfl rfl Jr rfl rfl λ _ w s _ bp _ _=>.inr ⟨_,w,_,.d1,s,rJ (by simp),.wk,trivial,rfl,cB.refl bp,λ aW bh=>(?_:aJ (TQ F m k j .d1 R H) _ _ _) aW bh⟩
 refine aJ.aT ?_
 refine aJ.rg [0] ?_
 refine aJ.defer rfl rfl rfl rfl rfl rfl rfl (.QT rfl) ?_
 refine aJ.aT ?_
 refine aJ.seq ?_
 refine aJ.rg [0] ?_
 refine aJ.lv 1 ?_
 refine aJ.aT ?_
 refine aJ.seq ?_
 refine aJ.seq ?_
 refine aJ.rg [0] ?_
 refine aJ.ext rfl rfl rfl rfl rfl afn rfl (λ w=>UW) (.put rfl) ?_
 refine aJ.aT ?_
 refine aJ.eF rfl ?_
 refine aJ.skip ?_
 refine aJ.seq ?_
 refine aJ.rg [0,1,2,3,4,5,6,7] ?_
 refine aJ.lv 6 ?_
 refine aJ.is 42 (v':=.int .u64 18446744069414584320) rfl (congrArg _ (by decide +kernel)) ?_
 refine aJ.enter rfl rfl rfl rfl rfl func197 (by decide +kernel) rfl rfl rfl λ ajm yX=>?_
 refine aJ.seq ?_
 refine aJ.rg [0] ?_
 refine aJ.lv 1 ?_
 refine aJ.aT ?_
 refine aJ.seq ?_
 refine aJ.rg [0,1,2,3,4,5] ?_
 refine aJ.lv 4 ?_
 refine sQ λ m hm=>KW.ext rfl rfl rfl rfl afo rfl rfl λ _ w s _ bp _ mD=>.inr ?_
 obtain ⟨v1,v2,w1⟩:=mD
 have v2':s.v≤F.N:=v2
 have ev:IntKind.u64.wrap (Ad s+18446744069414584320)=4294967296 * ((s.v - 1:Nat):Int)+s.w:=by rw [H6,aK7 (by omega) (by omega)]; omega
 by_cases hq:s.v≠1∨s.w=0
 ·refine ⟨_,_,_,.quit,_,AR bp.cg (bp.zg 0),.Jg hq,trivial,qM (.inr rfl),by rw [ev]; exact cB.wg bp,λ aW bh=>(?_:aJ (zA prog 1) _ _ _) aW bh⟩
  refine aJ.lv 1 ?_
  refine aJ.is 4 (v':=.int .u64 (4294967296 * ((s.v - 1:Nat):Int)+s.w)) rfl (congrArg _ ev) ?_
  refine aJ.aT ?_
  refine aJ.ret rfl λ tmps ht=>QJ.back (J:=zA prog 1) (vs:=[.int .u64 (4294967296 * ((s.v - 1:Nat):Int)+s.w)]) func197 ht rfl (aJ.resume (c':=⟨0,.normal,none,0,[],_⟩) rfl yX rfl (.put rfl) ?_ rfl)
  refine aJ.lv 1 ?_
  refine aJ.aT ?_
  refine ac2 (F:=F) (v:=s.v - 1) (w:=s.w) rfl rfl (by omega) w1 ?_ ?_
  ·exact cc.sub ⟨rfl,rfl,rfl,rfl,trivial⟩
  ·refine aJ.is 94 (v':=.bool true) rfl (congrArg Value.bool (by rw [decide_eq_true_iff]; omega)) ?_
   refine aJ.fI rfl ?_
   exact ac1 hk (.inr ⟨_,rfl⟩)
 ·have h1:s.v=1:=by omega
  have h2:s.w=1:=by omega
  refine ⟨_,_,_,.d2,_,AR bp.cg (bp.zg 0),.UD h1 h2,trivial,qM (.inr rfl),by rw [ev,h1]; exact cB.wg bp,λ aW bh=>(?_:aJ (TQ F m k j .d2 R H) _ _ _) aW bh⟩
  refine aJ.lv 1 ?_
  refine aJ.is 4 (v':=.int .u64 (4294967296 * ((0:Nat):Int)+((1:Nat):Int))) rfl (congrArg _ (by rw [ev,h1,h2])) ?_
  refine aJ.aT ?_
  refine aJ.ret rfl λ tmps ht=>QJ.back (J:=TQ F m k j .d2 R H) (vs:=[.int .u64 (4294967296 * ((0:Nat):Int)+((1:Nat):Int))]) func197 ht rfl (aJ.resume (c':=⟨0,.normal,none,0,[],_⟩) rfl yX rfl (.put rfl) ?_ rfl)
  refine aJ.lv 1 ?_
  refine aJ.aT ?_
  refine ac2 (F:=F) (v:=0) (w:=1) rfl rfl (by omega) (by omega) ?_ ?_
  ·exact cc.sub ⟨rfl,rfl,rfl,rfl,trivial⟩
  refine aJ.is 94 (v':=.bool false) rfl rfl ?_
  refine aJ.eF rfl ?_
  refine aJ.skip ?_
  refine aJ.seq ?_
  refine aJ.seq ?_
  refine aJ.rg [0,1,2,3,4,5] ?_
  refine aJ.lv 3 ?_
  refine aJ.enter rfl rfl rfl rfl rfl func199 (by decide +kernel) rfl rfl rfl λ aJT PT=>?_
  refine aJ.seq ?_
  refine aJ.rg [0] ?_
  refine aJ.lv 1 ?_
  refine aJ.aT ?_
  refine aJ.seq ?_
  refine aJ.rg [0,1,2,3,4] ?_
  refine aJ.lv 3 ?_
  refine sQ λ m hm=>KW.ext rfl rfl rfl rfl U5 rfl rfl λ _ w s _ bp _ mD=>.inr ⟨_,_,_,.d3,_,OD bp.cg,.d2,trivial,yw (.inr rfl),cB.refl bp,λ aW bh=>(?_:aJ (TQ F m k j .d3 R H) _ _ _) aW bh⟩
  obtain ⟨g1,g2⟩:=mD
  refine aJ.lv 1 ?_
  refine aJ.is 2 (v':=.int .u64 (4294967296 * ((0:Nat):Int)+((1:Nat):Int))) rfl (congrArg _ (by rw [H6,g1,g2])) ?_
  refine aJ.aT ?_
  refine aJ.ret rfl λ tmps ht=>QJ.back (J:=TQ F m k j .d3 R H) (vs:=[.int .u64 (4294967296 * ((0:Nat):Int)+((1:Nat):Int))]) func199 ht rfl (aJ.resume (c':=⟨0,.normal,none,0,[],_⟩) rfl PT rfl (.put rfl) ?_ rfl)
  refine aJ.lv 2 ?_
  refine aJ.aT ?_
  refine aJ.is 100 (v':=.bool false) rfl rfl ?_
  refine aJ.eF rfl ?_
  refine aJ.skip ?_
  refine aJ.seq ?_
  refine aJ.rg [0,1,2,3] ?_
  refine aJ.lv 3 ?_
  refine aJ.enter rfl rfl rfl rfl rfl func200 (by decide +kernel) rfl rfl rfl λ aJU YG=>?_
  refine aJ.rg [0,1,2,3,4] ?_
  refine aJ.lv 4 ?_
  refine sQ λ m hm=>KW.ext rfl rfl rfl rfl arp rfl rfl λ _ w s _ bp _ mD=>.inr ⟨_,_,_,.d4,_,aqj bp.cg (bp.zg 0),.d3,trivial,anx (.inr rfl),cB.wg (v:=0) (u:=0) bp,λ aW bh=>(?_:aJ (TQ F m k j .d4 R H) _ _ _) aW bh⟩
  refine aJ.aT ?_
  refine aJ.UG rfl λ tmps ht=>QJ.back (J:=TQ F m k j .d4 R H) (vs:=[]) func200 ht rfl (aJ.resume (c':=⟨0,.normal,none,0,[],_⟩) rfl YG rfl (.put rfl) ?_ rfl)
  refine aJ.aT ?_
  refine aJ.seq ?_
  refine aJ.seq ?_
  refine aJ.rg [0] ?_
  refine aJ.lv 1 ?_
  refine aJ.aT ?_
  refine aJ.eF rfl ?_
  refine aJ.skip ?_
  refine aJ.block ?_
  refine aJ.enterLoop ?_
  refine aJ.seq ?_
  refine aJ.seq ?_
  refine aJ.rg [0,1] ?_
  refine aJ.lv 2 ?_
  refine aJ.aT ?_
  refine aJ.is 110 (v':=.bool true) rfl rfl ?_
  refine aJ.fI rfl ?_
  refine aJ.skip ?_
  refine aJ.seq ?_
  refine aJ.block ?_
  refine aJ.rg [0,1,2,3] ?_
  refine aJ.lv 3 ?_
  refine sQ λ m hm=>KW.ext rfl rfl rfl rfl arl rfl rfl λ _ w s _ bp _ mD=>.inr ⟨_,_,_,.quit,_,UX rfl bp.Of (bp.zg 1),.d4,trivial,IV (.inr rfl),aoJ bp mD,λ aW bh=>(?_:aJ (zA prog 1) _ _ _) aW bh⟩
  refine aJ.aT ?_
  refine aJ.inBlock ?_
  refine aJ.rg [0,1,2] ?_
  refine aJ.lv 3 ?_
  refine aJ.aT ?_
  refine aJ.is 8 (v':=.int .u32 0) rfl rfl ?_
  refine aJ.inLoop ?_
  refine aJ.seq ?_
  refine aJ.seq ?_
  refine aJ.rg [0,1] ?_
  refine aJ.lv 2 ?_
  refine aJ.aT ?_
  refine aJ.is 110 (v':=.bool false) rfl rfl ?_
  refine aJ.eF rfl ?_
  refine aJ.exit rfl ?_
  exact ac1 hk (.inl rfl)
theorem aoE{fr:Frame}{cs:List Frame}(rX:fr.mode = .returning∨fr.mode = .panicking [goexitEntry])(hk:Gone (aV fr cs))(n:Nat):(WJ F n k j .wv).J R H (aV (Frame.enter prog 171 #[pw F] .deferred) (fr::cs)):=by
 refine Jd.enter (args:=[pw F]) func171 rfl rfl rfl ?_
 refine U.rg [0,1] ?_
 refine U.lv 1 ?_
 refine U.xF rfl rfl rfl rfl rfl aeO rfl (aKT n) λ aW bh=>(?_:aJ (zA prog 0) _ _ _) aW bh
 refine aJ.aT ?_
 exact aJ.UG rfl λ tmps ht=>QJ.adE (J:=zA prog 0) func171 ht rfl rX hk
end
section
variable {P:Program} {B:Base} {main:Bool} {ab:Jd P B main} {c:Ctx} {R:az} {H:ah} {st st':St} {k:List Item} {ops:Array Oper} {i:Nat} {rest:List Nat} {o:Oper} {v:Value}
theorem U.Qh{f:FuncId}{fn:Func}{body:Code}{xs:Array Operand}{iT:Array TypeId}{vs:List Value}{n:Nat}(ho:ops[i]? = some o)(hw:cM ops st o=some true)(hk:(c.kind == CallKind.early)=false)(au:o.op = .call ⟨.value (.func f),xs,iT⟩)(ha:ji st xs.toList=some vs)
  (hf:P.funcs[f]? = some fn) (Km:(fn.name == "runtime.NumGoroutine")=false) (hb:fn.body=some body) (qd:fn.ntmps=n) (hn:Nat.ble vs.length n=true)
  (h:∀ tmps,cX c.n st tmps→U ab ⟨f,.normal,none,n,[],aU c tmps (.inRegion ops (i::rest)::k)::c.cs⟩ R H (uL 0 vs) [.code body]):U ab c R H st (.inRegion ops (i::rest)::k):=λ tmps ht=>by
 have hv:ai P (execOp (aU c tmps (.inRegion ops (i::rest)::k)).eval o) (.enter f vs.toArray):=by
  rw [FR au ht ha]
  exact ET hf Km (by rw [hb]; rfl)
 refine Jd.ctl rfl (λ w=>?_) (Jd.enter hf hb qd hn (h tmps ht))
 rw [qz ho (kQ ht hw) (by rw [au]; rfl),IT rfl (by simpa [aU] using hk) (hv w).1,(hv w).2]
 rfl
theorem U.EA{tmps:Array Value}{f:FuncId}{fn:Func}{n:Nat}{vs:List Value}{stf:St}{kf:List Item}(hf:P.funcs[f]? = some fn)(hr:zC stf fn.results.toList=some vs)(ho:ops[i]? = some o)(ht:cX c.n st tmps)(hd:cj o.dst c.n)(hs:aI (cx o.dst (iM vs) st) st')(h:U ab c R H st' (.inRegion ops rest::k)) :
  U ab ⟨f,.normal,none,n,[],aU c tmps (.inRegion ops (i::rest)::k)::c.cs⟩ R H stf (.code .ret::kf) :=
 U.abC rfl λ aW bh=>Jd.back hf bh hr (by rw [qT ho]; exact h _ ((ht.put _ hd).sub hs))
end
section
variable {F:Fx} {R:az} {H:ah}
noncomputable abbrev gC (F:Fx) (n:Nat) (T:Mp):=Mz prog F.B true (KM (FT F) n T)
theorem sM{c:Ctx}{st:St}{todo:List Item}{n:Nat}{T:Mp}(h:∀ m,m < n→∀ tmps,cX c.n st tmps→KM (FT F) (m+1) T R H (aV (aU c tmps todo) c.cs)):U (gC F n T) c R H st todo:=U.aJH (F:=FT F) h
def AdK(F:Fx)(r:Nat)(R:az)(H:ah)(g:Goroutine):Prop:=∀ n,Own prog F.B true (KM (FT F) n (.go r)) R H g
noncomputable def t22:Code:=match He with | .seq _ (.seq _ (.seq _ (.seq _ y)))=>y | _=>.skip
noncomputable def aoo:Code:=match He with | .seq _ (.seq _ (.seq _ (.seq (.seq _ x) _)))=>x | _=>.skip
theorem ahN{r:Nat}{fr:Frame}{cs:List Frame}{args:Array Value}{st:St}{v:Nat}(hk:AdK F r R H (aV (fr.finish (iM [])) cs))(h1:1≤v)(h5:v≤5)(cU:aI st [(0,pw F),(1,.int .i64 1),(7,.int .i32 (v:Int)),(8,.int .u32 0)])(n:Nat) :
  U (gC F n (.ke r)) ⟨169,.normal,none,117,[dcall 192 args],fr::cs⟩ R H st [.code t22]:=by
 refine U.sub cU ?_
 refine U.seq ?_
 refine U.seq ?_
 refine U.rg [0,1] ?_
 refine U.lv 2 ?_
 refine U.aT ?_
 refine U.is 74 (v':=.bool false) rfl (congrArg Value.bool (by rw [decide_eq_false_iff_not]; omega)) ?_
 refine U.eF rfl rfl ?_
 refine U.skip ?_
 refine U.seq ?_
 refine U.seq ?_
 refine U.rg [0,1,2,3,4,5,6,7,8,9,10,11] ?_
 refine U.lv 3 ?_
 refine U.is 78 (v':=.bool false) rfl rfl ?_
 refine U.lv 9 ?_
 refine U.aT ?_
 refine U.eF rfl rfl ?_
 refine U.skip ?_
 refine U.seq ?_
 refine U.seq ?_
 refine U.rg [0,1,2,3,4,5] ?_
 refine U.lv 3 ?_
 refine U.is 91 (v':=.bool true) rfl (congrArg Value.bool (by rw [decide_eq_true_iff]; omega)) ?_
 refine U.lv 3 ?_
 refine U.aT ?_
 refine U.fI rfl rfl ?_
 refine U.abC rfl λ tmps ht=>?_
 cases n with
 | zero=>exact Own.stop _ _ _ _ trivial
 | succ n=>exact Own.stop _ _ _ _ (KM.unwind (F:=FT F) rfl CQ (Jd.back (ab:=gC F n (.go r)) func169 ht rfl (hk n)))
theorem aGF(r n:Nat):kW prog ((gC F n (.ka r)).J R H) (AdK F r R H) 169 [pw F,.int .i64 1]:=kW.oC func169 rfl rfl rfl λ fr cs hk=>by
 have hN:=F.hN
 refine U.seq ?_
 refine U.fI rfl rfl ?_
 refine U.seq ?_
 refine U.seq ?_
 refine U.rg [0,1] ?_
 refine U.lv 2 ?_
 refine U.aT ?_
 refine U.eF rfl (by decide) ?_
 refine U.skip ?_
 refine U.seq ?_
 refine U.rg [0] ?_
 refine sM λ m hm=>KM.ext rfl rfl rfl rfl Jr rfl rfl (by simp) (by simp) λ w s _ bp _=>.inr ⟨_,w,_,.kc r,s,rJ (by simp),.ka,rfl,cB.refl bp,λ aW bh=>(?_:U (gC F m (.kc r)) _ _ _ _ _) aW bh⟩
 refine U.aT ?_
 refine U.rg [0] ?_
 refine U.defer rfl rfl rfl rfl rfl rfl rfl (.QT rfl) ?_
 refine U.aT ?_
 refine U.seq ?_
 refine U.rg [0] ?_
 refine U.lv 1 ?_
 refine U.aT ?_
 refine U.seq ?_
 refine U.seq ?_
 refine U.rg [0] ?_
 refine U.ext rfl rfl rfl rfl rfl afn rfl (λ w=>UW) (.put rfl) ?_
 refine U.aT ?_
 refine U.eF rfl rfl ?_
 refine U.skip ?_
 refine U.seq ?_
 refine U.rg [0,1,2,3,4,5,6,7] ?_
 refine U.lv 6 ?_
 refine U.is 42 (v':=.int .u64 4294967296) rfl (congrArg _ (by decide +kernel)) ?_
 refine U.Qh rfl rfl rfl rfl rfl func197 (by decide +kernel) rfl rfl rfl λ ajm yX=>?_
 refine U.seq ?_
 refine U.rg [0] ?_
 refine U.lv 1 ?_
 refine U.aT ?_
 refine U.seq ?_
 refine U.rg [0,1,2,3,4,5] ?_
 refine U.lv 4 ?_
 refine sM λ m hm=>KM.ext rfl rfl rfl rfl afo rfl rfl (by simp) (by simp) λ w s _ bp mD=>.inr ?_
 obtain ⟨w0,v1⟩:=mD
 have v1':s.v+1≤F.N:=v1
 have ev:IntKind.u64.wrap (Ad s+4294967296)=4294967296 * ((s.v+1:Nat):Int)+((0:Nat):Int):=by rw [H6,akr (by omega) (by omega)]; omega
 obtain ⟨g1,g2,g3⟩:=ab1 (v:=s.v+1) (w:=0) (by omega) (by omega)
 have gs:(4294967296 * ((s.v+1:Nat):Int)+((0:Nat):Int)).fdiv (2 ^ (min (32:Int).toNat IntKind.u64.bits))=((s.v+1:Nat):Int):=by simpa [mJ] using g3
 have ako:cB (FT F) { s with v:=s.v+1 } w (w.setCell (aw F) (.int .u64 (IntKind.u64.wrap (Ad s+4294967296)))):=by
  rw [ev]; have:=cB.wg (F:=FT F) (v:=s.v+1) (u:=0) bp
  rw [show ({ s with v:=s.v+1 }:Sh)={ s with v:=s.v+1,w:=0 } by rw [← w0]]; exact this
 have go:∀ (T:Mp) (hT:U (gC F m T) ⟨169,.normal,none,117,[dcall 192 #[]],fr::cs⟩ R H [(0,pw F),(1,.int .i64 1),(7,.int .i32 ((s.v+1:Nat):Int)),(8,.int .u32 0),(67,.bool (decide (s.v+1=1)))] [.code aoo,.code t22]) (st:St),
   aI st [(0,pw F),(1,.int .i64 1),(4,.bool false),(6,.int .u64 (4294967296 * ((s.v+1:Nat):Int)+((0:Nat):Int)))]→U (gC F m T) ⟨169,.normal,none,117,[dcall 192 #[]],fr::cs⟩ R H st [.code He]:=by
  intro T hT st cU
  refine U.sub cU ?_
  refine U.seq ?_
  refine U.seq ?_
  refine U.rg [0,1,2,3,4,5,6] ?_
  refine U.lv 4 ?_
  refine U.is 47 (v':=.bool false) rfl (N4 g1 rfl) ?_
  refine U.lv 3 ?_
  refine U.aT ?_
  refine U.eF rfl rfl ?_
  refine U.skip ?_
  refine U.seq ?_
  refine U.rg [0,1,2,3] ?_
  refine U.lv 4 ?_
  refine U.aT ?_
  refine U.is 7 (v':=.int .i32 ((s.v+1:Nat):Int)) rfl (congrArg _ (by
   show IntKind.i32.wrap ((4294967296 * ((s.v+1:Nat):Int)+((0:Nat):Int)).fdiv (2 ^ (min (32:Int).toNat IntKind.u64.bits)))=_
   rw [gs,wrap_i32 (by omega) (by omega)])) ?_
  refine U.seq ?_
  refine U.rg [0,1,2,3] ?_
  refine U.lv 4 ?_
  refine U.aT ?_
  refine U.is 8 (v':=.int .u32 0) rfl (congrArg _ (by rw [g2,oT]; exact wrap_u32 (by omega) (by omega))) ?_
  refine U.seq ?_
  refine U.seq ?_
  refine U.rg [0,1,2,3,4,5,6,7,8,9] ?_
  refine U.lv 5 ?_
  refine U.is 62 (v':=.bool true) rfl (congrArg Value.bool (by decide)) ?_
  refine U.lv 4 ?_
  refine U.is 66 (v':=.bool (decide (s.v+1=1))) rfl (congrArg Value.bool (adJ (by rw [wrap_i32 (by omega) (by omega)]; omega))) ?_
  refine U.lv 1 ?_
  refine U.aT ?_
  refine U.sub ?_ hT
  exact cc.sub ⟨rfl,rfl,rfl,rfl,rfl,trivial⟩
 by_cases hv:s.v=0
 ·refine ⟨_,_,_,.kv r,{ s with v:=1 },AR bp.cg (bp.zg 0),.kc1 hv,qM (.inr rfl),by have:=ako; simp only [hv] at this; exact this,λ aW bh=>(?_:U (gC F m (.kv r)) _ _ _ _ _) aW bh⟩
  refine U.lv 1 ?_
  refine U.is 4 (v':=.int .u64 (4294967296 * ((s.v+1:Nat):Int)+((0:Nat):Int))) rfl (congrArg _ ev) ?_
  refine U.aT ?_
  refine U.EA func197 rfl rfl yX rfl (.put rfl) ?_
  refine U.lv 1 ?_
  refine U.aT ?_
  refine go _ ?_ _ ?_
  ·refine U.fI rfl (by rw [decide_eq_true_iff]; omega) ?_
   refine U.rg [0,1,2,3,4] ?_
   refine U.lv 3 ?_
   refine sM λ m hm=>KM.conv rfl rfl rfl rfl rfl ajq rfl ads (by simp) (by simp) qL (λ _=>.kv) λ aW bh=>(?_:U (gC F m (.kd r)) _ _ _ _ _) aW bh
   refine sM λ m hm=>KM.ext rfl rfl rfl rfl ark rfl rfl (by simp) (by simp) λ w s1 _ Dj _=>.inr ⟨_,w,_,.ke r,s1,CJ (λ _ _=>by simp) rfl,.kd,rfl,cB.refl Dj,λ aW bh=>(?_:U (gC F m (.ke r)) _ _ _ _ _) aW bh⟩
   refine U.aT ?_
   refine ahN hk (v:=s.v+1) (by omega) (by omega) ?_ m
   exact cc.sub ⟨rfl,rfl,rfl,rfl,trivial⟩
  ·exact cc.sub ⟨rfl,rfl,rfl,rfl,trivial⟩
 ·refine ⟨_,_,_,.ke r,_,AR bp.cg (bp.zg 0),.kcn hv,qM (.inr rfl),ako,λ aW bh=>(?_:U (gC F m (.ke r)) _ _ _ _ _) aW bh⟩
  refine U.lv 1 ?_
  refine U.is 4 (v':=.int .u64 (4294967296 * ((s.v+1:Nat):Int)+((0:Nat):Int))) rfl (congrArg _ ev) ?_
  refine U.aT ?_
  refine U.EA func197 rfl rfl yX rfl (.put rfl) ?_
  refine U.lv 1 ?_
  refine U.aT ?_
  refine go _ ?_ _ ?_
  ·refine U.eF rfl (by rw [decide_eq_false_iff_not]; omega) ?_
   refine U.skip ?_
   refine ahN hk (v:=s.v+1) (by omega) (by omega) ?_ m
   exact cc.sub ⟨rfl,rfl,rfl,rfl,trivial⟩
  ·exact cc.sub ⟨rfl,rfl,rfl,rfl,trivial⟩
end
section
variable {F:Fx} {R:az} {H:ah} {Post:Value→World→Prop}
def WtK(F:Fx)(R:az)(H:ah)(g:Goroutine):Prop:=∀ js,(∀ k,k < F.N→js k=F.J)→F.mj R ((F.bo,F.cont js)::H) g
noncomputable def ag9:Code:=(xD (Tryz.f175.body.getD .skip)).getD .skip
abbrev aKU(fr:Frame)(cs:List Frame):Ctx:=⟨175,.normal,none,84,[],fr::cs⟩
theorem aKV(tu:F.mj=jg prog F.B Post){fr:Frame}{cs:List Frame}{todo:List Item}(hk:WtK F R H (aV (fr.finish (iM [])) cs))(n:Nat):U (gC F n .w1) (aKU fr cs) R H [(0,pw F)] (.code ag9 :: .inLoop ag9::todo):=by
 have hN:=F.hN
 refine U.head (X:=Unit) (Jn:=λ n _=>gC F n .w1) (S:=λ _=>[(0,pw F)]) (ok:=λ _=>True) (λ n ih _ _=>?_) n () trivial
 refine U.aY ?_
 refine U.seq ?_
 refine U.rg [0,1,2,3,4] ?_
 refine U.lv 3 ?_
 refine U.Qh rfl rfl rfl rfl rfl func199 (by decide +kernel) rfl rfl rfl λ ajm yX=>?_
 refine U.seq ?_
 refine U.rg [0] ?_
 refine U.lv 1 ?_
 refine U.aT ?_
 refine U.seq ?_
 refine U.rg [0,1,2,3,4] ?_
 refine U.lv 3 ?_
 refine sM λ m hm=>KM.ext rfl rfl rfl rfl U5 rfl rfl (by simp) (by simp) λ w s _ bp mD=>.inr ?_
 obtain ⟨w0,v1⟩:=mD
 have v1':s.v≤F.N:=v1
 have ev:Ad s=4294967296 * (s.v:Int)+((0:Nat):Int):=by rw [H6,w0]
 obtain ⟨g1,g2,g3⟩:=ab1 (v:=s.v) (w:=0) (by omega) (by omega)
 have gs:(4294967296 * (s.v:Int)+((0:Nat):Int)).fdiv (2 ^ (min (32:Int).toNat IntKind.u64.bits))=(s.v:Int):=by simpa [mJ] using g3
 by_cases hv:s.v=0
 ·refine ⟨_,_,_,.we,s,OD bp.cg,.w1z hv,yw (.inr rfl),cB.refl bp,λ aW bh=>(?_:U (gC F m .we) _ _ _ _ _) aW bh⟩
  refine U.lv 1 ?_
  refine U.is 2 (v':=.int .u64 (4294967296 * (s.v:Int)+((0:Nat):Int))) rfl (congrArg _ ev) ?_
  refine U.aT ?_
  refine U.EA func199 rfl rfl yX rfl (.put rfl) ?_
  refine U.lv 1 ?_
  refine U.aT ?_
  refine U.seq ?_
  refine U.rg [0,1,2,3] ?_
  refine U.lv 4 ?_
  refine U.aT ?_
  refine U.is 3 (v':=.int .i32 (s.v:Int)) rfl (congrArg _ (by
   show IntKind.i32.wrap ((4294967296 * (s.v:Int)+((0:Nat):Int)).fdiv (2 ^ (min (32:Int).toNat IntKind.u64.bits)))=_
   rw [gs,wrap_i32 (by omega) (by omega)])) ?_
  refine U.seq ?_
  refine U.rg [0,1,2,3] ?_
  refine U.lv 4 ?_
  refine U.aT ?_
  refine U.is 4 (v':=.int .u32 0) rfl (congrArg _ (by rw [g2,oT]; exact wrap_u32 (by omega) (by omega))) ?_
  refine U.seq ?_
  refine U.seq ?_
  refine U.rg [0,1] ?_
  refine U.lv 2 ?_
  refine U.aT ?_
  refine U.is 19 (v':=.bool true) rfl (congrArg Value.bool (by rw [hv]; rfl)) ?_
  refine U.fI rfl rfl ?_
  refine U.seq ?_
  refine U.fI rfl rfl ?_
  refine U.seq ?_
  refine U.rg [0] ?_
  refine sM λ m hm=>KM.ext rfl rfl rfl rfl CQ rfl rfl (by simp) (by simp) λ w s1 _ Dj _=>.inr ⟨_,w,_,.qv,s1,rJ (by simp),.we,rfl,cB.refl Dj,λ aW bh=>(?_:U (gC F m .qv) _ _ _ _ _) aW bh⟩
  refine U.aT ?_
  refine U.rg [0,1,2] ?_
  refine U.lv 1 ?_
  refine sM λ m hm=>KM.conv rfl rfl rfl rfl rfl abF rfl TN (by simp) (by simp) qL (λ _=>.qv) λ aW bh=>(?_:U (gC F m .wq) _ _ _ _ _) aW bh
  refine sM λ m hm=>KM.acq rfl rfl rfl rfl OJ rfl rfl rfl λ js iH aW bh=>?_
  have dI:=hk js iH
  show F.mj _ _ _
  rw [tu] at dI ⊢
  refine (?_:U (Ev prog F.B Post) _ _ _ _ _) aW bh
  refine U.aT ?_
  refine U.seq ?_
  refine U.seq ?_
  refine U.rg [0,1,2,3,4,5,6,7,8,9,10] ?_
  refine U.lv 2 ?_
  refine U.is 25 (v':=.bool true) rfl rfl ?_
  refine U.lv 4 ?_
  refine U.is 29 (v':=.bool false) rfl (N4 g1 rfl) ?_
  refine U.lv 5 ?_
  refine U.aT ?_
  refine U.eF rfl rfl ?_
  refine U.skip ?_
  exact U.qQ func175 rfl dI (.inr ⟨_,rfl⟩)
 ·refine ⟨_,_,_,.w2 s.v,s,OD bp.cg,.w1n hv,yw (.inr rfl),cB.refl bp,λ aW bh=>(?_:U (gC F m (.w2 s.v)) _ _ _ _ _) aW bh⟩
  refine U.lv 1 ?_
  refine U.is 2 (v':=.int .u64 (4294967296 * (s.v:Int)+((0:Nat):Int))) rfl (congrArg _ ev) ?_
  refine U.aT ?_
  refine U.EA func199 rfl rfl yX rfl (.put rfl) ?_
  refine U.sub (st':=[(0,pw F),(11,.int .u64 (4294967296 * (s.v:Int)+((0:Nat):Int)))]) (cc.sub ⟨rfl,rfl,trivial⟩) ?_
  clear ev bp bh yX
  generalize s.v=u at hv v1' g1 g2 g3 gs v1 ⊢
  refine U.lv 1 ?_
  refine U.aT ?_
  refine U.seq ?_
  refine U.rg [0,1,2,3] ?_
  refine U.lv 4 ?_
  refine U.aT ?_
  refine U.is 3 (v':=.int .i32 (u:Int)) rfl (congrArg _ (by
   show IntKind.i32.wrap ((4294967296 * (u:Int)+((0:Nat):Int)).fdiv (2 ^ (min (32:Int).toNat IntKind.u64.bits)))=_
   rw [gs,wrap_i32 (by omega) (by omega)])) ?_
  refine U.seq ?_
  refine U.rg [0,1,2,3] ?_
  refine U.lv 4 ?_
  refine U.aT ?_
  refine U.is 4 (v':=.int .u32 0) rfl (congrArg _ (by rw [g2,oT]; exact wrap_u32 (by omega) (by omega))) ?_
  refine U.seq ?_
  refine U.seq ?_
  refine U.rg [0,1] ?_
  refine U.lv 2 ?_
  refine U.aT ?_
  refine U.is 19 (v':=.bool false) rfl (congrArg Value.bool (by rw [beq_eq_false_iff_ne]; omega)) ?_
  refine U.eF rfl rfl ?_
  refine U.skip ?_
  refine U.seq ?_
  refine U.rg [0,1,2,3,4,5,6] ?_
  refine U.lv 6 ?_
  refine U.is 47 (v':=.int .u64 (4294967296 * (u:Int)+((1:Nat):Int))) rfl (congrArg _ (by rw [akr (by omega) (by omega)]; omega)) ?_
  refine U.Qh rfl rfl rfl rfl rfl func207 (by decide +kernel) rfl rfl rfl λ aJT PT=>?_
  refine U.seq ?_
  refine U.rg [0] ?_
  refine U.lv 1 ?_
  refine U.aT ?_
  refine U.seq ?_
  refine U.rg [0,1,2,3,4,5,6] ?_
  refine U.lv 5 ?_
  refine sM λ p hp=>KM.ext rfl rfl rfl rfl arq rfl rfl (by simp) (by simp) λ w s2 _ Kz mD=>.inr ?_
  obtain ⟨y0,y1,y2⟩:=mD
  have ev2:Ad s2=4294967296 * (s2.v:Int)+((0:Nat):Int):=by rw [H6,y0]
  have V0:=Kz.cg
  rw [ev2] at V0
  by_cases he:s2.v=u
  ·subst he
   refine ⟨.bool true,_,_,.wV,{ s2 with w:=1 },FP V0 (Kz.zg 0),.aki,qM (.inr rfl),cB.wg (v:=s2.v) (u:=1) Kz,λ aW bh=>(?_:U (gC F p .wV) _ _ _ _ _) aW bh⟩
   refine U.lv 1 ?_
   refine U.aT ?_
   refine U.EA func207 rfl rfl PT rfl (.put rfl) ?_
   refine U.aT ?_
   refine U.fI rfl rfl ?_
   refine U.seq ?_
   refine U.seq ?_
   refine U.rg [0,1,2,3] ?_
   refine U.lv 3 ?_
   refine U.is 51 (v':=.bool true) rfl rfl ?_
   refine U.lv 1 ?_
   refine U.aT ?_
   refine U.fI rfl rfl ?_
   refine U.rg [0,1,2,3,4] ?_
   refine U.lv 3 ?_
   refine sM λ m hm=>KM.conv rfl rfl rfl rfl rfl ajq rfl ads (by simp) (by simp) qL (λ _=>.wV) λ aW bh=>(?_:U (gC F m .wW) _ _ _ _ _) aW bh
   refine sM λ m hm=>KM.ext rfl rfl rfl rfl arn rfl rfl (by simp) (by simp) λ w s1 _ Dj _=>.inr ⟨_,w,_,.w3,s1,CJ (λ _ _=>by simp) rfl,.wW,rfl,cB.refl Dj,λ aW bh=>(?_:U (gC F m .w3) _ _ _ _ _) aW bh⟩
   refine U.aT ?_
   refine U.seq ?_
   refine U.rg [0] ?_
   refine U.lv 1 ?_
   refine U.aT ?_
   refine U.seq ?_
   refine U.seq ?_
   refine U.rg [0,1,2,3,4,5] ?_
   refine U.lv 3 ?_
   refine U.is 60 (v':=.bool false) rfl (N4 g1 rfl) ?_
   refine U.lv 3 ?_
   refine U.aT ?_
   refine U.eF rfl rfl ?_
   refine U.skip ?_
   refine U.seq ?_
   refine U.rg [0,1,2,3,4] ?_
   refine U.lv 4 ?_
   refine sM λ m hm=>KM.ext rfl rfl rfl rfl aro rfl rfl (by simp) (by simp) λ w s3 _ r7 _=>?_
   cases kK:s3.ws with
   | zero=>exact .inl ⟨rfl,rfl,ac0 rfl (by have e:=r7.Of; rw [kK] at e; exact e)⟩
   | succ z =>
    have ea:((z+1:Nat):Int) - 1=(z:Int):=by omega
    refine .inr ⟨_,_,_,.w4,_,ae1 (n:=((z+1:Nat):Int)) rfl (by have e:=r7.Of; rw [kK] at e; exact e) (by omega) (r7.zg 1),.w3 kK,IV (.inr rfl),by rw [ea]; exact cB.ws r7,λ aW bh=>(?_:U (gC F m .w4) _ _ _ _ _) aW bh⟩
    refine U.aT ?_
    refine U.seq ?_
    refine U.rg [0,1,2,3,4,5] ?_
    refine U.lv 3 ?_
    refine U.Qh rfl rfl rfl rfl rfl func199 (by decide +kernel) rfl rfl rfl λ aJU YG=>?_
    refine U.seq ?_
    refine U.rg [0] ?_
    refine U.lv 1 ?_
    refine U.aT ?_
    refine U.seq ?_
    refine U.rg [0,1,2,3,4] ?_
    refine U.lv 3 ?_
    refine sM λ m hm=>KM.ext rfl rfl rfl rfl U5 rfl rfl (by simp) (by simp) λ w s4 _ agj mD=>.inr ⟨_,_,_,.we,s4,OD agj.cg,.w4,yw (.inr rfl),cB.refl agj,λ aW bh=>(?_:U (gC F m .we) _ _ _ _ _) aW bh⟩
    obtain ⟨z1,z2⟩:=mD
    refine U.lv 1 ?_
    refine U.is 2 (v':=.int .u64 0) rfl (congrArg _ (by rw [H6,z1,z2]; rfl)) ?_
    refine U.aT ?_
    refine U.EA func199 rfl rfl YG rfl (.put rfl) ?_
    refine U.lv 2 ?_
    refine U.aT ?_
    refine U.is 6 (v':=.bool false) rfl rfl ?_
    refine U.seq ?_
    refine U.fI rfl rfl ?_
    refine U.seq ?_
    refine U.rg [0] ?_
    refine sM λ m hm=>KM.ext rfl rfl rfl rfl CQ rfl rfl (by simp) (by simp) λ w s1 _ Dj _=>.inr ⟨_,w,_,.qv,s1,rJ (by simp),.we,rfl,cB.refl Dj,λ aW bh=>(?_:U (gC F m .qv) _ _ _ _ _) aW bh⟩
    refine U.aT ?_
    refine U.rg [0,1,2] ?_
    refine U.lv 1 ?_
    refine sM λ m hm=>KM.conv rfl rfl rfl rfl rfl abF rfl TN (by simp) (by simp) qL (λ _=>.qv) λ aW bh=>(?_:U (gC F m .wq) _ _ _ _ _) aW bh
    refine sM λ m hm=>KM.acq rfl rfl rfl rfl OJ rfl rfl rfl λ js iH aW bh=>?_
    have dI:=hk js iH
    show F.mj _ _ _
    rw [tu] at dI ⊢
    refine (?_:U (Ev prog F.B Post) _ _ _ _ _) aW bh
    refine U.aT ?_
    refine U.seq ?_
    refine U.seq ?_
    refine U.rg [0] ?_
    refine U.lv 1 ?_
    refine U.aT ?_
    refine U.eF rfl rfl ?_
    refine U.skip ?_
    exact U.qQ func175 rfl dI (.inr ⟨_,rfl⟩)
  ·refine ⟨.bool false,w,_,.w1,s2,Jl V0 (Kz.zg 0) (λ e=>he (by omega)),.akh he,yw (.inr rfl),cB.refl Kz,λ aW bh=>(?_:U (gC F p .w1) _ _ _ _ _) aW bh⟩
   refine U.lv 1 ?_
   refine U.aT ?_
   refine U.EA func207 rfl rfl PT rfl (.put rfl) ?_
   refine U.aT ?_
   refine U.eF rfl rfl ?_
   refine U.skip ?_
   refine U.bC ?_
   refine U.inLoop ?_
   refine U.sub ?_ (ih p (Nat.lt_trans hp hm) () trivial)
   exact cc.sub ⟨rfl,trivial⟩
theorem aKW(tu:F.mj=jg prog F.B Post)(n:Nat):kW prog ((gC F n .wa).J R H) (WtK F R H) 175 [pw F]:=kW.oC func175 rfl rfl rfl λ fr cs hk=>by
 refine U.seq ?_
 refine U.fI rfl rfl ?_
 refine U.rg [0] ?_
 refine sM λ m hm=>KM.ext rfl rfl rfl rfl Jr rfl rfl (by simp) (by simp) λ w s _ bp _=>.inr ⟨_,w,_,.w1,s,rJ (by simp),.wa,rfl,cB.refl bp,λ aW bh=>(?_:U (gC F m .w1) _ _ _ _ _) aW bh⟩
 refine U.aT ?_
 refine U.aY ?_
 refine U.enterLoop ?_
 refine U.sub ?_ (aKV tu hk m)
 exact cc.sub ⟨rfl,trivial⟩
end
end Go.Proofs.YtihapemckcdicaaGreatDoor
namespace Go.Lg
open Go.Conc Go.ConcN
def ny(a:Nat→Nat→Bool)(js:Nat→Nat):List Value:=(List.range 16).map λ p=>.bool (decide (p / 4 < js (p % 4)) && a (p / 4) (p % 4))
theorem aHw(a:Nat→Nat→Bool):ny a (λ _=>0)=List.replicate 16 (.bool false):=by
 simp [ny,List.range,List.range.loop,List.replicate]
theorem aaY{a:Nat→Nat→Bool}{js:Nat→Nat}{p:Nat}(hp:p < 16):(ny a js)[p]? = some (.bool (decide (p / 4 < js (p % 4)) && a (p / 4) (p % 4))):=by
 simp [ny,hp]
theorem aHv{a:Nat→Nat→Bool}{js:Nat→Nat}{k j:Nat}(hk:k < 4)(_:j < 4)(iH:js k=j):ny a (gG js k (j+1))=(ny a js).set (4 * j+k) (.bool (a j k)):=by
 have hl:∀ js,(ny a js).length=16:=λ js=>by simp [ny]
 apply List.ext_getElem?
 intro p
 rcases Nat.lt_or_ge p 16 with hp | hp
 ·rw [aaY hp,List.getElem?_set,aaY hp]
  by_cases e:4 * j+k=p
  ·subst e
   rw [if_pos rfl,if_pos (by rw [hl]; omega)]
   have e1:(4 * j+k) / 4=j:=by omega
   have e2:(4 * j+k) % 4=k:=by omega
   rw [e1,e2,uj]
   simp
  ·rw [if_neg e]
   by_cases e2:p % 4=k
   ·have e3:p / 4≠j:=by omega
    rw [e2,uj,iH]
    have:decide (p / 4 < j+1)=decide (p / 4 < j):=by
     by_cases h:p / 4 < j
     ·simp [h]; omega
     ·simp [h]; omega
    rw [this]
   ·rw [ui e2]
 ·rw [List.getElem?_eq_none (by rw [hl]; exact hp),List.getElem?_eq_none (by rw [List.length_set,hl]; exact hp)]
end Go.Lg
