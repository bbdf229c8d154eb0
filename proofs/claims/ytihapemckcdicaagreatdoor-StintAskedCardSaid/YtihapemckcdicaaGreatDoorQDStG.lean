/- What sync does, walked for the machine. Conditions: none. -/
import Derived.Test.YtihapemckcdicaaGreatDoorQDLgE
import Derived.Test.YtihapemckcdicaaGreatDoorQDStF
namespace Go.Proofs.YtihapemckcdicaaGreatDoor
open Go.Lg Go.Proofs Go.Conc Tryz
set_option maxRecDepth 100000
theorem Ys:fT prog 190 (Extern.Race.marked .releaseMerge):=⟨⟨Tryz.f190,func190,by kernel_rfl,by kernel_rfl,by kernel_rfl,by kernel_rfl⟩⟩
theorem FG:fT prog 191 (λ _=>do mark .disable; pure Extern.Race.none_):=⟨⟨Tryz.f191,func191,by kernel_rfl,by kernel_rfl,by kernel_rfl,by kernel_rfl⟩⟩
theorem zL:fT prog 192 (λ _=>do mark .enable; pure Extern.Race.none_):=⟨⟨Tryz.f192,func192,by kernel_rfl,by kernel_rfl,by kernel_rfl,by kernel_rfl⟩⟩
theorem Yt:fT prog 193 (λ _=>pure (.bool false)):=⟨⟨Tryz.f193,func193,by kernel_rfl,by kernel_rfl,by kernel_rfl,by kernel_rfl⟩⟩
theorem aiS:fT prog 198 (Extern.Race.marked .read):=⟨⟨Tryz.f198,func198,by kernel_rfl,by kernel_rfl,by kernel_rfl,by kernel_rfl⟩⟩
theorem aiT:fT prog 202 Extern.Sync.semrelease:=⟨⟨Tryz.f202,func202,by kernel_rfl,by kernel_rfl,by kernel_rfl,by kernel_rfl⟩⟩
theorem J2:fT prog 205 (Extern.Race.marked .acquire):=⟨⟨Tryz.f205,func205,by kernel_rfl,by kernel_rfl,by kernel_rfl,by kernel_rfl⟩⟩
theorem aiU:fT prog 208 (Extern.Race.marked .write):=⟨⟨Tryz.f208,func208,by kernel_rfl,by kernel_rfl,by kernel_rfl,by kernel_rfl⟩⟩
theorem aiV:fT prog 209 Extern.Sync.semacquire:=⟨⟨Tryz.f209,func209,by kernel_rfl,by kernel_rfl,by kernel_rfl,by kernel_rfl⟩⟩
theorem Yu:fT prog 227 (Extern.Atomic.update (Op.intArith .add) .u64 true):=⟨⟨Tryz.f227,func227,by kernel_rfl,by kernel_rfl,by kernel_rfl,by kernel_rfl⟩⟩
theorem Pb:fT prog 228 (Extern.Atomic.loadT (.int .u64)):=⟨⟨Tryz.f228,func228,by kernel_rfl,by kernel_rfl,by kernel_rfl,by kernel_rfl⟩⟩
theorem aiW:fT prog 229 Extern.Atomic.storeT:=⟨⟨Tryz.f229,func229,by kernel_rfl,by kernel_rfl,by kernel_rfl,by kernel_rfl⟩⟩
theorem J3:fT prog 230 (Extern.Atomic.casT (.int .i32)):=⟨⟨Tryz.f230,func230,by kernel_rfl,by kernel_rfl,by kernel_rfl,by kernel_rfl⟩⟩
theorem Yv:fT prog 232 (Extern.Atomic.update (Op.intArith .add) .i32 true):=⟨⟨Tryz.f232,func232,by kernel_rfl,by kernel_rfl,by kernel_rfl,by kernel_rfl⟩⟩
theorem aiX:fT prog 234 (Extern.Atomic.casT (.int .u64)):=⟨⟨Tryz.f234,func234,by kernel_rfl,by kernel_rfl,by kernel_rfl,by kernel_rfl⟩⟩
theorem aiY:fT prog 241 Extern.Sync.canSpin:=⟨⟨Tryz.f241,func241,by kernel_rfl,by kernel_rfl,by kernel_rfl,by kernel_rfl⟩⟩
theorem aiZ:fT prog 242 Extern.Sync.nothing:=⟨⟨Tryz.f242,func242,by kernel_rfl,by kernel_rfl,by kernel_rfl,by kernel_rfl⟩⟩
theorem Yw:fT prog 244 Extern.OsHooks.nano:=⟨⟨Tryz.f244,func244,by kernel_rfl,by kernel_rfl,by kernel_rfl,by kernel_rfl⟩⟩
theorem ai0:fT prog 245 Extern.Sync.semacquire:=⟨⟨Tryz.f245,func245,by kernel_rfl,by kernel_rfl,by kernel_rfl,by kernel_rfl⟩⟩
theorem Yx:fT prog 247 Extern.Sync.semrelease:=⟨⟨Tryz.f247,func247,by kernel_rfl,by kernel_rfl,by kernel_rfl,by kernel_rfl⟩⟩
def ZL:Nat→Option IntKind
 | 2 | 3=>some .i64
 | 21=>some .i32
 | 190=>some .u32
 | 197=>some .u64
 | _=>none
instance:rO prog:=⟨ZL,λ t k h=>by
 unfold ZL at h
 split at h
 ·cases h; exact underlying2
 ·cases h; exact underlying3
 ·cases h; exact underlying21
 ·cases h; exact underlying190
 ·cases h; exact underlying197
 ·cases h⟩
theorem Uf:B9 prog 255 223:=⟨192,underlying255,underlying223,by kernel_rfl⟩
theorem Ue:B9 prog 221 223:=⟨201,underlying221,underlying223,by kernel_rfl⟩
theorem abM:B9 prog 228 223:=⟨190,underlying228,underlying223,by kernel_rfl⟩
end Go.Proofs.YtihapemckcdicaaGreatDoor
namespace Go.Proofs.YtihapemckcdicaaGreatDoor
open Go.Lg Go.Proofs Go.Conc Tryz
set_option maxRecDepth 100000
set_option maxHeartbeats 4000000
noncomputable abbrev FT (F:Fx):Fx:={ F with P:=prog }
section
variable {F:Fx} {R:av} {H:ai} {k j:Nat} {fr:Frame} {cs:List Frame}
abbrev pm(F:Fx):Value:=.pointer (some (am F))
noncomputable abbrev WJ (F:Fx) (n k j:Nat) (T:Lp):=HW prog F.B false (KW (FT F) n k j T)
def xC(F:Fx)(k j:Nat)(R:av)(H:ai)(g:Goroutine):Prop:=∀ n js,js k=j→Own prog F.B false (KW (FT F) n k j (.ul js)) R ((F.bo,F.cont js)::H) g
theorem sW{c:Ctx}{st:St}{todo:List Item}{n:Nat}{T:Lp}(h:∀ m,m < n→∀ tmps,cL c.n st tmps→KW (FT F) (m+1) k j T R H (aX (aV c tmps todo) c.cs)):U (WJ F n k j T) c R H st todo:=U.axx (F:=FT F) h
def WO:Code→Option Code
 | .seq (.block _ _) r=>some r
 | .seq _ y=>WO y
 | _=>none
def uE:Code→Option Code
 | .loop c=>some c
 | .seq x y=>match uE x with | some c=>some c | none=>uE y
 | .block _ c=>uE c
 | .cond _ x y=>match uE x with | some c=>some c | none=>uE y
 | _=>none
noncomputable def wE:Code:=(WO (Tryz.f231.body.getD .skip)).getD .skip
noncomputable def q6:Code:=(uE (Tryz.f231.body.getD .skip)).getD .skip
theorem abu(hk:xC F k j R H (aX (fr.finish (gG [])) cs))(n:Nat):U (WJ F n k j .le) ⟨231,.normal,none,139,[],fr::cs⟩ R H [(0,pm F)] [.code wE]:=by
 refine U.fe rfl rfl ?_
 refine U.seq ?_
 refine U.rg [0] ?_
 refine sW λ n _=>KW.ext rfl rfl rfl rfl zL rfl rfl λ _ w s _ bh _ _=>.inr ⟨_,w,_,.lc,s,pQ (by simp),.le,trivial,rfl,bV.refl bh,λ aZ bd=>(?_:U (WJ F n k j .lc) _ _ _ _ _) aZ bd⟩
 refine U.aU ?_
 refine U.rg [0,1,2] ?_
 refine U.lv 1 ?_
 refine sW λ n _=>KW.conv rfl rfl rfl rfl rfl Uf rfl NW ⟨by simp,by simp⟩ o5 (λ _=>.lc) trivial λ aZ bd=>(?_:U (WJ F n k j .la) _ _ _ _ _) aZ bd
 refine sW λ n _=>KW.ext rfl rfl rfl rfl J2 rfl rfl λ _ w s _ bh _ _=>.inr ⟨_,w,_,.ul λ _=>0,s,zH (λ _ _=>by simp) rfl,.la,trivial,rfl,bV.refl bh,λ aZ bd js gE=>(?_:U (WJ F n k j (.ul js)) _ _ _ _ _) aZ bd⟩
 refine U.aU ?_
 exact U.o7 func231 rfl (hk n js gE) (.inl rfl)
theorem yG{N N':Nat}{m:Wd}(h:m.ok N)(hn:N≤N'):m.ok N':=⟨h.1,h.2.1,h.2.2.1,Nat.le_trans h.2.2.2 hn⟩
def yS(F:Fx)(c:Lc)(fL:Int):St:=[(0,pm F),(2,.int .i64 fL),(3,.bool c.sv),(4,.bool c.aw),(5,.int .i64 c.it),(6,.int .i32 c.old.val)]
def LY(F:Fx)(x:Lc × Int):Prop:=x.1.old.ok F.N∧(x.1.aw=true→x.1.old.w=1)∧x.1.ws=decide (x.2≠0)∧x.1.it≤4
theorem pO{b:Option Int}{z y:Int}{p:Bool}(h:b=some z)(hp:(z == y)=p):Value.bool (b.getD 0 == y) = .bool p:=by rw [h]; exact congrArg _ hp
noncomputable def HS:Code:=match q6 with | .block _ (.seq _ y)=>y | _=>.skip
noncomputable def axb:Code:=match q6 with | .block _ (.seq (.seq _ (.cond _ (.seq _ z) _)) _)=>z | _=>.skip
abbrev yR(fr:Frame)(cs:List Frame):Ctx:=⟨231,.normal,none,139,[],fr::cs⟩
def tx(F:Fx)(k j:Nat)(R:av)(H:ai)(fr:Frame)(cs:List Frame)(m:Nat):Prop:=∀ x,LY F x→U (WJ F m k j (hd x.1)) (yR fr cs) R H (yS F x.1 x.2) [.code q6,.inLoop q6,.inBlock 0,.code wE]
theorem Ib{n:Nat}(ih:∀ m,m < n→tx F k j R H fr cs m){old:Wd}{aw sv:Bool}{it:Nat}{ws:Bool}{fL:Int}(jT:ws=decide (fL≠0)){st:St}(cJ:aF st [(0,pm F),(2,.int .i64 fL),(3,.bool sv),(4,.bool aw),(5,.int .i64 it)]) :
  U (WJ F n k j (.r1 ⟨old,aw,sv,it,ws⟩)) (yR fr cs) R H st [.code axb,.code HS,.inBlock 1,.inLoop q6,.inBlock 0,.code wE]:=by
 refine U.sub cJ ?_
 refine U.seq ?_
 refine U.rg [0] ?_
 refine U.ext rfl rfl rfl rfl rfl aiZ rfl (λ w=>O0) (.put rfl) ?_
 refine U.aU ?_
 refine U.seq ?_
 refine U.rg [0,1,2] ?_
 refine U.lv 3 ?_
 refine U.aU ?_
 refine U.seq ?_
 refine U.rg [0,1,2,3,4] ?_
 refine U.lv 3 ?_
 refine sW λ m hm=>KW.look rfl rfl rfl rfl rfl DL (by kernel_rfl) rfl ⟨by simp,by simp⟩ (λ _ h=>h) λ ot s hs=>⟨_,.r1,nU (by simp),λ aZ bd=>Lu ((?_:U (WJ F m k j (hd ⟨s.mu,aw,sv,it+1,ws⟩)) _ _ _ _ _) aZ bd)⟩
 obtain ⟨t1,t2,t3⟩:=ot
 dsimp only at t2
 refine U.lv 1 ?_
 refine U.aU ?_
 refine U.exit rfl ?_
 refine U.inLoop ?_
 refine U.is 5 (v':=.int .i64 ((it+1:Nat):Int)) rfl (by rw [show ((it+1:Nat):Int)=(it:Int)+1 by omega]; exact congrArg _ (acE (by constructor <;> omega))) ?_
 exact U.sub (st':=yS F ⟨s.mu,aw,sv,it+1,ws⟩ fL) (bS.sub ⟨rfl,rfl,rfl,rfl,rfl,rfl,trivial⟩) (ih m hm (⟨s.mu,aw,sv,it+1,ws⟩,fL) ⟨hs.1,hs.2,jT,by dsimp only; omega⟩)
theorem aw6{n:Nat}(ih:∀ m,m < n→tx F k j R H fr cs m){old:Wd}{aw sv:Bool}{it:Nat}{ws:Bool}{fL:Int}(hx:LY F (⟨old,aw,sv,it,ws⟩,fL))
  (abJ:∀ m,m≤n→∀ st,aF st (yS F ⟨old,aw,sv,it,ws⟩ fL)→U (WJ F m k j (.c2 ⟨old,aw,sv,it,ws⟩)) (yR fr cs) R H st [.code HS,.inBlock 1,.inLoop q6,.inBlock 0,.code wE]) :
  U (WJ F n k j (hd ⟨old,aw,sv,it,ws⟩)) (yR fr cs) R H (yS F ⟨old,aw,sv,it,ws⟩ fL) [.code q6,.inLoop q6,.inBlock 0,.code wE]:=by
 obtain ⟨ix,tS,jT,Ko⟩:=hx
 dsimp only at ix tS jT Ko
 have hN:=F.hN
 have h5:=yG ix (show F.N≤5 by omega)
 obtain ⟨b1,b2,b3,b4,b5,b7,o1,o2,o4,n2,s3⟩:=Wd.ru h5
 obtain ⟨q1,q2,q3,q4⟩:=h5
 refine U.block ?_
 refine U.seq ?_
 refine U.seq ?_
 refine U.rg [0,1,2,3,4,5,6] ?_
 refine U.lv 4 ?_
 by_cases hq:old.l=1∧old.s=0
 ·have ON:hd ⟨old,aw,sv,it,ws⟩ = .sq ⟨old,aw,sv,it,ws⟩:=if_pos hq
  rw [ON]
  refine U.is 17 (v':=.bool true) rfl (pO b5 (by simp [hq])) ?_
  refine U.lv 1 ?_
  refine sW λ m hm=>KW.ext rfl rfl rfl rfl aiY rfl rfl λ _ w s _ bh _ _=>.inr ?_
  have no:∀ st,aF st (yS F ⟨old,aw,sv,it,ws⟩ fL)→U (WJ F m k j (.c2 ⟨old,aw,sv,it,ws⟩)) (yR fr cs) R H st [.code HS,.inBlock 1,.inLoop q6,.inBlock 0,.code wE]:=λ st hs=>abJ m (Nat.le_of_lt hm) st hs
  by_cases h4:4≤it
  ·refine ⟨.bool false,w,#[],.c2 _,s,ah5 (by dsimp only; omega),.LZ,trivial,o5,bV.refl bh,λ aZ bd=>(?_:U (WJ F m k j (.c2 ⟨old,aw,sv,it,ws⟩)) _ _ _ _ _) aZ bd⟩
   refine U.lv 1 ?_
   refine U.aU ?_
   refine U.dW rfl rfl ?_
   refine U.skip ?_
   exact no _ (bS.sub ⟨rfl,rfl,rfl,rfl,rfl,rfl,trivial⟩)
  ·cases Zp:w.spins
   ·refine ⟨.bool false,w.asked,#[],.c2 _,s,Zp ▸ X8 (by dsimp only; omega),.LZ,trivial,o5,bV.asked bh,λ aZ bd=>(?_:U (WJ F m k j (.c2 ⟨old,aw,sv,it,ws⟩)) _ _ _ _ _) aZ bd⟩
    refine U.lv 1 ?_
    refine U.aU ?_
    refine U.dW rfl rfl ?_
    refine U.skip ?_
    exact no _ (bS.sub ⟨rfl,rfl,rfl,rfl,rfl,rfl,trivial⟩)
   ·refine ⟨.bool true,w.asked,#[],iE ⟨old,aw,sv,it,ws⟩,s,Zp ▸ X8 (by dsimp only; omega),.wK (by show it < 4; omega),nU (by simp),o5,bV.asked bh,λ aZ bd=>avo ((?_:U (WJ F m k j (iE ⟨old,aw,sv,it,ws⟩)) _ _ _ _ _) aZ bd)⟩
    refine U.lv 1 ?_
    refine U.aU ?_
    refine U.fe rfl rfl ?_
    refine U.seq ?_
    refine U.seq ?_
    refine U.rg [0,1,2,3,4,5,6,7,8,9,10,11,12,13,14,15,16,17,18,19,20] ?_
    have sJ:∀ m',m' < m→tx F k j R H fr cs m':=λ m' h'=>ih m' (Nat.lt_trans h' hm)
    have quiet:¬ (aw=false∧old.w=0∧old.n≠0)→iE ⟨old,aw,sv,it,ws⟩ = .r1 ⟨old,aw,sv,it,ws⟩:=λ h=>if_neg h
    cases aw
    case true =>
     rw [quiet (by simp)]
     refine U.lv 21 ?_
     refine U.aU ?_
     refine U.dW rfl rfl ?_
     refine U.skip ?_
     refine Ib sJ jT ?_
     exact bS.sub ⟨rfl,rfl,rfl,rfl,rfl,trivial⟩
    case false =>
     refine U.lv 6 ?_
     by_cases R7:old.w=0
     case neg =>
      rw [quiet (by simp [R7])]
      refine U.is 26 (v':=.bool false) rfl (pO b2 (by rw [beq_eq_false_iff_ne]; omega)) ?_
      refine U.lv 15 ?_
      refine U.aU ?_
      refine U.dW rfl rfl ?_
      refine U.skip ?_
      refine Ib sJ jT ?_
      exact bS.sub ⟨rfl,rfl,rfl,rfl,rfl,trivial⟩
     refine U.is 26 (v':=.bool true) rfl (pO b2 (by simp [R7])) ?_
     refine U.lv 5 ?_
     have pZ:old.val.fdiv (2 ^ (min (3:Int).toNat IntKind.i32.bits))=(old.n:Int):=by simpa [lR] using s3
     by_cases CD:old.n=0
     case pos =>
      rw [quiet (by simp [CD])]
      refine U.is 31 (v':=.bool false) rfl (congrArg Value.bool (by show (old.val.fdiv (2 ^ (min (3:Int).toNat IntKind.i32.bits)) != 0)=false; rw [pZ,CD]; rfl)) ?_
      refine U.lv 10 ?_
      refine U.aU ?_
      refine U.dW rfl rfl ?_
      refine U.skip ?_
      refine Ib sJ jT ?_
      exact bS.sub ⟨rfl,rfl,rfl,rfl,rfl,trivial⟩
     refine U.is 31 (v':=.bool true) rfl (congrArg Value.bool (by show (old.val.fdiv (2 ^ (min (3:Int).toNat IntKind.i32.bits)) != 0)=true; rw [pZ,bne_iff_ne]; omega)) ?_
     rw [show iE ⟨old,false,sv,it,ws⟩ = .c1 ⟨old,false,sv,it,ws⟩ from if_pos ⟨rfl,R7,CD⟩]
     refine U.lv 8 ?_
     refine U.is 39 (v':=.int .i32 (Wd.val { old with w:=1 })) rfl (by rw [o2]; rfl) ?_
     refine sW λ p hp=>KW.ext rfl rfl rfl rfl J3 rfl rfl λ _ w s _ bh hs _=>.inr ?_
     have Zk:∀ m',m' < p→tx F k j R H fr cs m':=λ m' h'=>sJ m' (Nat.lt_trans h' hp)
     by_cases da:s.mu=old
     ·subst da
      refine ⟨.bool true,_,_,.r1 ⟨s.mu,true,sv,it,ws⟩,_,Cp bh.cm (bh.zm 0),.Ot rfl,nU (by simp),o6 (.inl rfl),bV.mu bh,λ aZ bd=>(?_:U (WJ F p k j (.r1 ⟨s.mu,true,sv,it,ws⟩)) _ _ _ _ _) aZ bd⟩
      refine U.lv 1 ?_
      refine U.aU ?_
      refine U.fe rfl rfl ?_
      refine U.rg [0] ?_
      refine U.lv 1 ?_
      refine U.aU ?_
      refine Ib Zk jT ?_
      exact bS.sub ⟨rfl,rfl,rfl,rfl,rfl,trivial⟩
     ·refine ⟨.bool false,w,_,.r1 ⟨old,false,sv,it,ws⟩,s,FC bh.cm (bh.zm 0) (λ e=>da (Wd.val_inj hs.1 ix e)),.Oq da,nU (by simp),vo (.inl rfl),bV.refl bh,λ aZ bd=>(?_:U (WJ F p k j (.r1 ⟨old,false,sv,it,ws⟩)) _ _ _ _ _) aZ bd⟩
      refine U.lv 1 ?_
      refine U.aU ?_
      refine U.dW rfl rfl ?_
      refine U.skip ?_
      refine Ib Zk jT ?_
      exact bS.sub ⟨rfl,rfl,rfl,rfl,rfl,trivial⟩
 ·have ON:hd ⟨old,aw,sv,it,ws⟩ = .c2 ⟨old,aw,sv,it,ws⟩:=if_neg hq
  rw [ON]
  refine U.is 17 (v':=.bool false) rfl (pO b5 (by rw [beq_eq_false_iff_ne]; show ¬ ((old.l:Int)+4 * old.s=1); omega)) ?_
  refine U.lv 3 ?_
  refine U.aU ?_
  refine U.dW rfl rfl ?_
  refine U.skip ?_
  exact abJ n (Nat.le_refl _) _ (bS.sub ⟨rfl,rfl,rfl,rfl,rfl,rfl,trivial⟩)
def sR(o:Wd):Wd:={ o with l:=if o.s=0 then 1 else o.l }
def uM(o:Wd):Wd:={ sR o with n:=if o.l=1∨o.s=1 then o.n+1 else o.n }
def A8(o:Wd)(sv:Bool):Wd:={ uM o with s:=if sv=true∧o.l=1 then 1 else o.s }
theorem WQ{a b:Int}{p:Prop}[Decidable p](h:a=b↔p):(a == b)=decide p:=by
 by_cases hp:p
 ·rw [decide_eq_true hp]; exact beq_iff_eq.2 (h.2 hp)
 ·rw [decide_eq_false hp]; exact beq_eq_false_iff_ne.2 λ e=>hp (h.1 e)
theorem WR{a b:Int}{p:Prop}[Decidable p](h:a≠b↔p):(a != b)=decide p:=by
 by_cases hp:p
 ·rw [decide_eq_true hp]; exact bne_iff_ne.2 (h.2 hp)
 ·rw [decide_eq_false hp,bne,beq_iff_eq.2 (Classical.byContradiction λ e=>hp (h.1 e))]; rfl
theorem zG{b:Option Int}{z y:Int}{p:Bool}(h:b=some z)(hp:(z != y)=p):Value.bool (b.getD 0 != y) = .bool p:=by rw [h]; exact congrArg _ hp
theorem KV{b:Option Int}{z y:Int}(h:b=some z)(hp:z=y):Value.int .i32 (b.getD 0) = .int .i32 y:=by rw [h,← hp]; rfl
theorem U.mid{P:Program}{B:Base}{main:Bool}{ab:Jd P B main}{c:Ctx}{R:av}{H:ai}{st:St}{todo K:List Item}(S':St)(h1:(∀ st,aF st S'→U ab c R H st K)→U ab c R H st todo)(h2:U ab c R H S' K):U ab c R H st todo:=h1 λ _ hs=>U.sub hs h2
abbrev HT(F:Fx)(c:Lc)(fL:Int)(m:Wd):St:=(7,.int .i32 m.val)::yS F c fL
noncomputable def asj:Code:=match HS with | .seq _ (.seq _ (.seq _ (.seq _ (.seq _ (.seq _ (.cond _ x _))))))=>x | _=>.skip
noncomputable def YD:Code:=match asj with | .seq _ (.seq _ (.seq _ x))=>x | _=>.skip
noncomputable def ajC:Code:=match YD with | .seq _ (.seq _ x)=>x | _=>.skip
theorem ayy{m:Wd}(h:m.ok 5)(hl:m.l=0)(hw:m.w=0)(hs:m.s=1)(hn:m.n≠0)(b:Bool):IntKind.i32.wrap (m.val+(if b then -7 else -11))=Wd.val ⟨1,m.w,if b then m.s else 0,m.n - 1⟩:=by
 obtain ⟨l,w,s,n⟩:=m
 dsimp only at hl hw hs hn
 subst hl hw hs
 have:=h.2.2.2
 dsimp only at this
 cases b
 ·rw [wrap_i32 (by simp only [Wd.val]; split <;> omega) (by simp only [Wd.val]; split <;> omega)]
  simp only [Wd.val]; simp; omega
 ·rw [wrap_i32 (by simp only [Wd.val]; split <;> omega) (by simp only [Wd.val]; split <;> omega)]
  simp only [Wd.val]; simp; omega
theorem abt(hk:xC F k j R H (aX (fr.finish (gG [])) cs)){n:Nat}(ih:∀ m,m < n→tx F k j R H fr cs m){old:Wd}{aw sv:Bool}{it:Nat}{ws:Bool}{fL:Int}(jT:ws=decide (fL≠0)){st:St}(cJ:aF st [(0,pm F),(2,.int .i64 fL),(3,.bool sv)]) :
  U (WJ F n k j (.r2 ⟨old,aw,sv,it,ws⟩)) (yR fr cs) R H st [.code ajC,.inBlock 1,.inLoop q6,.inBlock 0,.code wE]:=by
 have hN:=F.hN
 refine U.sub cJ ?_
 refine U.seq ?_
 refine U.rg [0,1,2,3,4] ?_
 refine U.lv 3 ?_
 refine sW λ m hm=>KW.look rfl rfl rfl rfl rfl DL (by kernel_rfl) rfl ⟨by simp,by simp⟩ (λ _ h=>h) λ _ s hs=>?_
 have h5:=yG hs.1 (show (FT F).N≤5 from Nat.le_trans hN (by omega))
 obtain ⟨b1,b2,b3,b4,b5,b7,o1,o2,o4,n2,s3⟩:=Wd.ru h5
 have pZ:s.mu.val.fdiv (2 ^ (min (3:Int).toNat IntKind.i32.bits))=(s.mu.n:Int):=by simpa [lR] using s3
 rcases hs.2 with ⟨e1,e2,e3,e4⟩ | ⟨e1,e2⟩
 ·refine ⟨_,.H7 e1,nU (by simp),λ aZ bd=>(?_:U (WJ F m k j (.a1 (sv && s.mu.n != 1))) _ _ _ _ _) aZ bd⟩
  refine U.lv 1 ?_
  refine U.aU ?_
  refine U.seq ?_
  refine U.seq ?_
  refine U.rg [0,1,2] ?_
  refine U.lv 3 ?_
  refine U.aU ?_
  refine U.is 107 (v':=.bool true) rfl (zG b4 (by rw [e1]; rfl)) ?_
  refine U.fe rfl rfl ?_
  refine U.seq ?_
  refine U.seq ?_
  refine U.rg [0,1,2,3,4,5,6,7] ?_
  refine U.lv 3 ?_
  refine U.is 110 (v':=.bool false) rfl (zG b3 (by rw [e2,e3]; rfl)) ?_
  refine U.lv 4 ?_
  refine U.is 114 (v':=.bool false) rfl (congrArg Value.bool (by show (s.mu.val.fdiv (2 ^ (min (3:Int).toNat IntKind.i32.bits)) == 0)=false; rw [pZ,beq_eq_false_iff_ne]; omega)) ?_
  refine U.lv 1 ?_
  refine U.aU ?_
  refine U.dW rfl rfl ?_
  refine U.skip ?_
  refine U.seq ?_
  refine U.rg [0] ?_
  refine U.lv 1 ?_
  refine U.aU ?_
  refine U.seq ?_
  refine U.seq ?_
  refine U.rg [0,1,2,3,4,5,6] ?_
  refine U.mid (K:=?K) [(0,pm F),(9,.int .i32 (-7)),(123,.bool (!(sv && s.mu.n != 1)))] ?h1 ?h2
  case h1 =>
   intro h
   cases sv
   ·refine U.lv 7 ?_
    refine U.aU ?_
    refine h _ ?_
    exact bS.sub ⟨rfl,rfl,rfl,trivial⟩
   ·refine U.lv 6 ?_
    refine U.is 122 (v':=.bool (!(true && s.mu.n != 1))) rfl (congrArg Value.bool (by
     show (s.mu.val.fdiv (2 ^ (min (3:Int).toNat IntKind.i32.bits)) == 1)=_
     rw [pZ]
     by_cases e:s.mu.n=1
     ·rw [e]; rfl
     ·rw [beq_eq_false_iff_ne.2 (by omega)]; simp [e])) ?_
    refine U.lv 1 ?_
    refine U.aU ?_
    refine h _ ?_
    exact bS.sub ⟨rfl,rfl,rfl,trivial⟩
  generalize (sv && s.mu.n != 1)=b
  refine U.join (st':=[(0,pm F),(9,.int .i32 (if b then -7 else -11))]) rfl (λ hb h=>?_) (λ hb h=>?_) ?_
  ·cases b
   ·refine U.rg [0,1,2] ?_
    refine U.lv 3 ?_
    refine U.aU ?_
    refine U.sub ?_ h
    exact bS.sub ⟨rfl,rfl,trivial⟩
   ·cases hb
  ·cases b
   ·cases hb
   ·refine U.skip ?_
    refine U.sub ?_ h
    exact bS.sub ⟨rfl,rfl,trivial⟩
  refine U.seq ?_
  refine U.rg [0,1,2,3,4] ?_
  refine U.lv 4 ?_
  refine sW λ p hp=>KW.ext rfl rfl rfl rfl Yv rfl rfl λ _ w s _ bh hs _=>.inr ?_
  obtain ⟨pY,g1,g2,g3,g4,g5⟩:=hs
  have e:=ayy (yG pY (show (FT F).N≤5 from Nat.le_trans hN (by omega))) g2 g3 g1 g4 b
  refine ⟨_,_,_,.le,_,xU bh.cm (bh.zm 0),.a1,trivial,o6 (.inl rfl),by rw [e]; exact bV.mu bh,λ aZ bd=>(?_:U (WJ F p k j .le) _ _ _ _ _) aZ bd⟩
  refine U.aU ?_
  refine U.exit rfl ?_
  refine U.sub ?_ (abu hk p)
  exact bS.sub ⟨rfl,trivial⟩
 ·refine ⟨_,.wC e1,nU (by simp),λ aZ bd=>Lu ((?_:U (WJ F m k j (hd ⟨s.mu,true,sv,0,ws⟩)) _ _ _ _ _) aZ bd)⟩
  refine U.lv 1 ?_
  refine U.aU ?_
  refine U.seq ?_
  refine U.seq ?_
  refine U.rg [0,1,2] ?_
  refine U.lv 3 ?_
  refine U.aU ?_
  refine U.is 107 (v':=.bool false) rfl (zG b4 (by rw [e1]; rfl)) ?_
  refine U.dW rfl rfl ?_
  refine U.skip ?_
  refine U.seq ?_
  refine U.rg [0] ?_
  refine U.lv 1 ?_
  refine U.aU ?_
  refine U.rg [0] ?_
  refine U.lv 1 ?_
  refine U.aU ?_
  refine U.inBlock ?_
  refine U.inLoop ?_
  refine U.sub ?_ (ih m hm (⟨s.mu,true,sv,0,ws⟩,fL) ⟨hs.1,λ _=>e2,jT,Nat.zero_le _⟩)
  exact bS.sub ⟨rfl,rfl,rfl,rfl,rfl,rfl,trivial⟩
theorem abr(hB:∀ w:World,F.B.os w.os→F.B.os w.later.os)(hk:xC F k j R H (aX (fr.finish (gG [])) cs)){n:Nat}(ih:∀ m,m < n→tx F k j R H fr cs m){old:Wd}{aw sv:Bool}{it:Nat}{ws q:Bool}{fL:Int}(jT:ws=decide (fL≠0)){st:St}(cJ:aF st [(0,pm F),(2,.int .i64 fL),(3,.bool sv),(8,.bool q)]) :
  U (WJ F n k j (.s1 ⟨old,aw,sv,it,ws⟩)) (yR fr cs) R H st [.code YD,.inBlock 1,.inLoop q6,.inBlock 0,.code wE]:=by
 refine U.sub cJ ?_
 refine U.seq ?_
 refine U.rg [0,1,2,3,4] ?_
 refine U.lv 4 ?_
 refine sW λ m hm=>KW.ext rfl rfl rfl rfl ai0 rfl rfl λ _ w s _ bh _ _=>?_
 have sJ:∀ m',m' < m→tx F k j R H fr cs m':=λ m' h'=>ih m' (Nat.lt_trans h' hm)
 cases CB:s.ms with
 | zero=>exact .inl ⟨⟨_,rfl⟩,rfl,Wa rfl (by rw [bh.JI,CB]; rfl)⟩
 | succ u =>
  have ea:((u+1:Nat):Int) - 1=(u:Int):=by omega
  refine .inr ⟨_,_,_,if sv then .r2 ⟨old,aw,sv,it,ws⟩ else .t2 ⟨old,aw,sv,it,ws⟩,_,X7 (n:=((u+1:Nat):Int)) rfl (by rw [← CB]; exact bh.JI) (by omega) (bh.zm 1),.s1 CB,nU (by simp),E9 (.inl rfl),by rw [ea]; exact bV.ms bh,λ aZ bd=>?_⟩
  cases sv
  ·refine (?_:U (WJ F m k j (.t2 ⟨old,aw,false,it,ws⟩)) _ _ _ _ _) aZ bd
   refine U.aU ?_
   refine U.seq ?_
   refine U.rg [0,1,2,3,4,5,6,7] ?_
   refine U.lv 2 ?_
   refine sW λ p hp=>KW.nano hB rfl rfl rfl rfl Yw (by kernel_rfl) rfl rfl ⟨by simp,by simp⟩ o5 λ _ z=>?_
   refine ⟨.r2 ⟨old,aw,decide (IntKind.wrap .i64 (z - fL) > 1000000),it,ws⟩,λ s=>.t2 _,nU (by simp),λ aZ bd=>(?_:U (WJ F p k j (.r2 ⟨old,aw,decide (IntKind.wrap .i64 (z - fL) > 1000000),it,ws⟩)) _ _ _ _ _) aZ bd⟩
   refine U.lv 5 ?_
   refine U.aU ?_
   refine abt hk (λ m' h'=>sJ m' (Nat.lt_trans h' hp)) jT ?_
   exact bS.sub ⟨rfl,rfl,rfl,trivial⟩
  ·refine (?_:U (WJ F m k j (.r2 ⟨old,aw,true,it,ws⟩)) _ _ _ _ _) aZ bd
   refine U.aU ?_
   refine U.seq ?_
   refine U.rg [0,1,2,3,4,5,6,7] ?_
   refine U.lv 8 ?_
   refine U.aU ?_
   refine abt hk sJ jT ?_
   exact bS.sub ⟨rfl,rfl,rfl,trivial⟩
theorem aw3(hB:∀ w:World,F.B.os w.os→F.B.os w.later.os)(hk:xC F k j R H (aX (fr.finish (gG [])) cs)){n:Nat}(ih:∀ m,m < n→tx F k j R H fr cs m){old:Wd}{aw sv:Bool}{it:Nat}{ws:Bool}{fL:Int}(hx:LY F (⟨old,aw,sv,it,ws⟩,fL)){st:St}(cJ:aF st (yS F ⟨old,aw,sv,it,ws⟩ fL)) :
  U (WJ F n k j (.c2 ⟨old,aw,sv,it,ws⟩)) (yR fr cs) R H st [.code HS,.inBlock 1,.inLoop q6,.inBlock 0,.code wE]:=by
 obtain ⟨ix,tS,jT,Ko⟩:=hx
 dsimp only at ix tS jT Ko
 have hN:=F.hN
 have h5:old.ok 5:=yG ix (by omega)
 have h4:old.ok 4:=yG ix (by omega)
 obtain ⟨b1,b2,b3,b4,b5,b7,o1,o2,o4,n2,s3⟩:=Wd.ru h5
 obtain ⟨q1,q2,q3,q4⟩:=h4
 have k1:(sR old).ok 5:=⟨by simp only [sR]; split <;> omega,q2,q3,by simp only [sR]; omega⟩
 have k2:(uM old).ok 5:=⟨k1.1,q2,q3,by simp only [uM]; split <;> omega⟩
 have k3:(A8 old sv).ok 5:=⟨k1.1,q2,by simp only [A8]; split <;> omega,k2.2.2.2⟩
 refine U.sub cJ ?_
 refine U.seq ?_
 refine U.rg [0,1] ?_
 refine U.lv 2 ?_
 refine U.aU ?_
 refine U.seq ?_
 refine U.seq ?_
 refine U.rg [0,1,2] ?_
 refine U.lv 3 ?_
 refine U.aU ?_
 refine U.is 52 (v':=.bool (decide (old.s=0))) rfl (pO b4 (WQ (by omega))) ?_
 refine U.join (st':=HT F ⟨old,aw,sv,it,ws⟩ fL (sR old)) rfl (λ hb h=>?_) (λ hb h=>?_) ?_
 ·refine U.rg [0,1,2] ?_
  refine U.lv 3 ?_
  refine U.aU ?_
  refine U.is 7 (v':=.int .i32 (sR old).val) rfl (KV o1 (by simp [sR,of_decide_eq_true hb])) ?_
  refine U.sub ?_ h
  exact bS.sub ⟨rfl,rfl,rfl,rfl,rfl,rfl,rfl,trivial⟩
 ·refine U.skip ?_
  refine U.is 7 (v':=.int .i32 (sR old).val) rfl (by simp [sR,of_decide_eq_false hb]) ?_
  refine U.sub ?_ h
  exact bS.sub ⟨rfl,rfl,rfl,rfl,rfl,rfl,rfl,trivial⟩
 refine U.seq ?_
 refine U.seq ?_
 refine U.rg [0,1,2] ?_
 refine U.lv 3 ?_
 refine U.aU ?_
 refine U.is 57 (v':=.bool (decide (old.l=1∨old.s=1))) rfl (zG b5 (WR (by omega))) ?_
 refine U.join (st':=HT F ⟨old,aw,sv,it,ws⟩ fL (uM old)) rfl (λ hb h=>?_) (λ hb h=>?_) ?_
 ·refine U.rg [0,1,2] ?_
  refine U.lv 3 ?_
  refine U.aU ?_
  have e:(sR old).val+8=(uM old).val:=by simp only [uM,sR,Wd.val,of_decide_eq_true hb,if_true]; omega
  have f:=Wd.fit k1
  refine U.is 7 (v':=.int .i32 (uM old).val) rfl (by rw [← e]; exact congrArg _ (wrap_i32 (by omega) (by omega))) ?_
  refine U.sub ?_ h
  exact bS.sub ⟨rfl,rfl,rfl,rfl,rfl,rfl,rfl,trivial⟩
 ·refine U.skip ?_
  refine U.is 7 (v':=.int .i32 (uM old).val) rfl (by simp only [uM,of_decide_eq_false hb,if_false]; rfl) ?_
  refine U.sub ?_ h
  exact bS.sub ⟨rfl,rfl,rfl,rfl,rfl,rfl,rfl,trivial⟩
 refine U.seq ?_
 refine U.seq ?_
 refine U.rg [0,1,2,3,4,5] ?_
 refine U.mid (K:=?K) ((65,.bool (decide (sv=true∧old.l=1)))::HT F ⟨old,aw,sv,it,ws⟩ fL (uM old)) ?h1 ?h2
 case h1 =>
  intro h
  cases sv
  ·refine U.lv 6 ?_
   refine U.aU ?_
   refine h _ ?_
   exact bS.sub ⟨rfl,rfl,rfl,rfl,rfl,rfl,rfl,rfl,trivial⟩
  ·refine U.lv 5 ?_
   refine U.is 64 (v':=.bool (decide (true=true∧old.l=1))) rfl (zG b1 (WR (by simp; omega))) ?_
   refine U.lv 1 ?_
   refine U.aU ?_
   refine h _ ?_
   exact bS.sub ⟨rfl,rfl,rfl,rfl,rfl,rfl,rfl,rfl,trivial⟩
 refine U.join (st':=HT F ⟨old,aw,sv,it,ws⟩ fL (A8 old sv)) rfl (λ hb h=>?_) (λ hb h=>?_) ?_
 ·refine U.rg [0,1,2] ?_
  refine U.lv 3 ?_
  refine U.aU ?_
  have o:=(Wd.ru k2).2.2.2.2.2.2.2.2.1
  refine U.is 7 (v':=.int .i32 (A8 old sv).val) rfl (KV o (by simp only [A8,of_decide_eq_true hb,and_self,if_true])) ?_
  refine U.sub ?_ h
  exact bS.sub ⟨rfl,rfl,rfl,rfl,rfl,rfl,rfl,trivial⟩
 ·refine U.skip ?_
  refine U.is 7 (v':=.int .i32 (A8 old sv).val) rfl (by simp only [A8,of_decide_eq_false hb,if_false]; rfl) ?_
  refine U.sub ?_ h
  exact bS.sub ⟨rfl,rfl,rfl,rfl,rfl,rfl,rfl,trivial⟩
 refine U.seq ?_
 refine U.seq ?_
 refine U.rg [0] ?_
 refine U.lv 1 ?_
 refine U.aU ?_
 refine U.join (st':=HT F ⟨old,aw,sv,it,ws⟩ fL (nw ⟨old,aw,sv,it,ws⟩)) rfl (λ hb h=>?_) (λ hb h=>?_) ?_
 ·dsimp only at hb
  subst hb
  obtain ⟨_,a2,_,_,_,_,_,_,_,lX,_⟩:=Wd.ru k3
  refine U.seq ?_
  refine U.seq ?_
  refine U.rg [0,1,2] ?_
  refine U.lv 3 ?_
  refine U.aU ?_
  have hw1:=tS rfl
  refine U.is 71 (v':=.bool false) rfl (pO a2 (by rw [beq_eq_false_iff_ne]; show ¬ (2 * (old.w:Int)=0); omega)) ?_
  refine U.dW rfl rfl ?_
  refine U.skip ?_
  refine U.rg [0,1,2] ?_
  refine U.lv 3 ?_
  refine U.aU ?_
  refine U.is 7 (v':=.int .i32 (nw ⟨old,true,sv,it,ws⟩).val) rfl (KV lX rfl) ?_
  refine U.sub ?_ h
  exact bS.sub ⟨rfl,rfl,rfl,rfl,rfl,rfl,rfl,trivial⟩
 ·dsimp only at hb
  subst hb
  refine U.skip ?_
  refine U.is 7 (v':=.int .i32 (nw ⟨old,false,sv,it,ws⟩).val) rfl rfl ?_
  refine U.sub ?_ h
  exact bS.sub ⟨rfl,rfl,rfl,rfl,rfl,rfl,rfl,trivial⟩
 refine U.seq ?_
 refine U.rg [0,1,2,3,4,5] ?_
 refine U.lv 5 ?_
 refine sW λ m hm=>KW.ext rfl rfl rfl rfl J3 rfl rfl λ _ w s _ bh hs _=>.inr ?_
 have sJ:∀ m',m' < m→tx F k j R H fr cs m':=λ m' h'=>ih m' (Nat.lt_trans h' hm)
 by_cases da:s.mu=old
 ·subst da
  by_cases hf:s.mu.l=0∧s.mu.s=0
  ·
   refine ⟨.bool true,_,_,.le,_,Cp bh.cm (bh.zm 0),.Oy rfl hf.1 hf.2,trivial,o6 (.inl rfl),bV.mu bh,λ aZ bd=>(?_:U (WJ F m k j .le) _ _ _ _ _) aZ bd⟩
   refine U.aU ?_
   refine U.fe rfl rfl ?_
   refine U.seq ?_
   refine U.seq ?_
   refine U.rg [0,1,2] ?_
   refine U.lv 3 ?_
   refine U.aU ?_
   refine U.is 83 (v':=.bool true) rfl (pO b5 (by rw [hf.1,hf.2]; rfl)) ?_
   refine U.fe rfl rfl ?_
   refine U.exit rfl ?_
   refine U.sub ?_ (abu hk m)
   exact bS.sub ⟨rfl,trivial⟩
  ·
   have hq:s.mu.l=1∨s.mu.s=1:=by omega
   refine ⟨.bool true,_,_,if ws then .s1 ⟨s.mu,aw,sv,it,ws⟩ else .t1 ⟨s.mu,aw,sv,it,ws⟩,_,Cp bh.cm (bh.zm 0),.vt rfl hq,nU (by simp),o6 (.inl rfl),bV.mu bh,λ aZ bd=>?_⟩
   by_cases hw:fL=0
   ·have e0:ws=false:=by rw [jT]; simp [hw]
    subst e0
    refine (?_:U (WJ F m k j (.t1 ⟨s.mu,aw,sv,it,false⟩)) _ _ _ _ _) aZ bd
    refine U.aU ?_
    refine U.fe rfl rfl ?_
    refine U.seq ?_
    refine U.seq ?_
    refine U.rg [0,1,2] ?_
    refine U.lv 3 ?_
    refine U.aU ?_
    refine U.is 83 (v':=.bool false) rfl (pO b5 (by rw [beq_eq_false_iff_ne]; omega)) ?_
    refine U.dW rfl rfl ?_
    refine U.skip ?_
    refine U.seq ?_
    refine U.rg [0,1,2] ?_
    refine U.lv 3 ?_
    refine U.aU ?_
    refine U.seq ?_
    refine U.seq ?_
    refine U.rg [0,1] ?_
    refine U.lv 2 ?_
    refine U.aU ?_
    refine U.is 87 (v':=.bool true) rfl (congrArg Value.bool (beq_iff_eq.2 hw)) ?_
    refine U.fe rfl rfl ?_
    refine U.rg [0,1] ?_
    refine sW λ p hp=>KW.nano hB rfl rfl rfl rfl Yw (by kernel_rfl) rfl rfl ⟨by simp,by simp⟩ o5 λ _ z=>?_
    refine ⟨.s1 ⟨s.mu,aw,sv,it,decide (z≠0)⟩,λ s=>.t1 _,nU (by simp),λ aZ bd=>(?_:U (WJ F p k j (.s1 ⟨s.mu,aw,sv,it,decide (z≠0)⟩)) _ _ _ _ _) aZ bd⟩
    refine U.lv 1 ?_
    refine U.aU ?_
    refine abr hB hk (q:=(fL != 0)) (λ m' h'=>sJ m' (Nat.lt_trans h' hp)) rfl ?_
    exact bS.sub ⟨rfl,rfl,rfl,rfl,trivial⟩
   ·have e0:ws=true:=by rw [jT]; simp [hw]
    subst e0
    refine (?_:U (WJ F m k j (.s1 ⟨s.mu,aw,sv,it,true⟩)) _ _ _ _ _) aZ bd
    refine U.aU ?_
    refine U.fe rfl rfl ?_
    refine U.seq ?_
    refine U.seq ?_
    refine U.rg [0,1,2] ?_
    refine U.lv 3 ?_
    refine U.aU ?_
    refine U.is 83 (v':=.bool false) rfl (pO b5 (by rw [beq_eq_false_iff_ne]; omega)) ?_
    refine U.dW rfl rfl ?_
    refine U.skip ?_
    refine U.seq ?_
    refine U.rg [0,1,2] ?_
    refine U.lv 3 ?_
    refine U.aU ?_
    refine U.seq ?_
    refine U.seq ?_
    refine U.rg [0,1] ?_
    refine U.lv 2 ?_
    refine U.aU ?_
    refine U.is 87 (v':=.bool false) rfl (congrArg Value.bool (beq_eq_false_iff_ne.2 hw)) ?_
    refine U.dW rfl rfl ?_
    refine U.skip ?_
    refine abr hB hk (q:=(fL != 0)) sJ jT ?_
    exact bS.sub ⟨rfl,rfl,rfl,rfl,trivial⟩
 ·
  refine ⟨.bool false,w,_,.r3 ⟨old,aw,sv,it,ws⟩,s,FC bh.cm (bh.zm 0) (λ e=>da (Wd.val_inj hs.1 ix e)),.Oz da,nU (by simp),vo (.inl rfl),bV.refl bh,λ aZ bd=>(?_:U (WJ F m k j (.r3 ⟨old,aw,sv,it,ws⟩)) _ _ _ _ _) aZ bd⟩
  refine U.aU ?_
  refine U.dW rfl rfl ?_
  refine U.rg [0,1,2,3,4] ?_
  refine U.lv 3 ?_
  refine sW λ p hp=>KW.look rfl rfl rfl rfl rfl DL (by kernel_rfl) rfl ⟨by simp,by simp⟩ (λ _ h=>h) λ ot s hs=>⟨_,.r3,nU (by simp),λ aZ bd=>Lu ((?_:U (WJ F p k j (hd ⟨s.mu,aw,sv,it,ws⟩)) _ _ _ _ _) aZ bd)⟩
  refine U.lv 1 ?_
  refine U.aU ?_
  refine U.inBlock ?_
  refine U.inLoop ?_
  refine U.sub ?_ (sJ p hp (⟨s.mu,aw,sv,it,ws⟩,fL) ⟨hs.1,hs.2,jT,Ko⟩)
  exact bS.sub ⟨rfl,rfl,rfl,rfl,rfl,rfl,trivial⟩
theorem aw4(hB:∀ w:World,F.B.os w.os→F.B.os w.later.os)(hk:xC F k j R H (aX (fr.finish (gG [])) cs))(n:Nat):tx F k j R H fr cs n:=λ x hx =>
 U.head (Jn:=λ n (x:Lc × Int)=>WJ F n k j (hd x.1)) (S:=λ x=>yS F x.1 x.2) (ok:=LY F) (λ n ih x hx=>by
  obtain ⟨⟨old,aw,sv,it,ws⟩,fL⟩:=x
  exact aw6 ih hx λ m hm st cJ=>aw3 hB hk (λ m' h'=>ih m' (Nat.lt_of_lt_of_le h' hm)) hx cJ) n x hx
end
end Go.Proofs.YtihapemckcdicaaGreatDoor
namespace Go.Proofs.YtihapemckcdicaaGreatDoor
open Go.Lg Go.Proofs Go.Conc Tryz
set_option maxRecDepth 100000
set_option maxHeartbeats 4000000
section
variable {F:Fx} {R:av} {H:ai} {k j:Nat}
theorem aw5(hB:∀ w:World,F.B.os w.os→F.B.os w.later.os)(n:Nat):j5 prog ((WJ F n k j .r0).J R H) (xC F k j R H) 231 [pm F]:=j5.bl func231 rfl rfl rfl λ fr cs hk=>by
 refine U.seq ?_
 refine U.rg [0] ?_
 refine U.lv 1 ?_
 refine U.aU ?_
 refine U.seq ?_
 refine U.rg [0] ?_
 refine U.lv 1 ?_
 refine U.aU ?_
 refine U.seq ?_
 refine U.rg [0] ?_
 refine U.lv 1 ?_
 refine U.aU ?_
 refine U.seq ?_
 refine U.rg [0] ?_
 refine U.lv 1 ?_
 refine U.aU ?_
 refine U.seq ?_
 refine U.rg [0,1,2,3,4] ?_
 refine U.lv 3 ?_
 refine sW λ m hm=>KW.look rfl rfl rfl rfl rfl DL (by kernel_rfl) rfl ⟨by simp,by simp⟩ (λ _ h=>h) λ ot s hs=>⟨_,.r0,nU (by simp),λ aZ bd=>Lu ((?_:U (WJ F m k j (hd ⟨s.mu,false,false,0,false⟩)) _ _ _ _ _) aZ bd)⟩
 refine U.lv 1 ?_
 refine U.aU ?_
 refine U.seq ?_
 refine U.block ?_
 refine U.enterLoop ?_
 refine U.sub ?_ (aw4 hB hk m (⟨s.mu,false,false,0,false⟩,0) ⟨hs.1,by simp,by simp,Nat.zero_le _⟩)
 exact bS.sub ⟨rfl,rfl,rfl,rfl,rfl,rfl,trivial⟩
theorem asl(hB:∀ w:World,F.B.os w.os→F.B.os w.later.os)(n:Nat):j5 prog ((WJ F n k j .ld).J R H) (xC F k j R H) 203 [pm F]:=j5.bl func203 rfl rfl rfl λ fr cs hk=>by
 refine U.seq ?_
 refine U.rg [0] ?_
 refine sW λ m hm=>KW.ext rfl rfl rfl rfl FG rfl rfl λ _ w s _ bh _ _=>.inr ⟨_,w,_,.l0,s,pQ (by simp),.ld,trivial,rfl,bV.refl bh,λ aZ bd=>(?_:U (WJ F m k j .l0) _ _ _ _ _) aZ bd⟩
 refine U.aU ?_
 refine U.seq ?_
 refine U.seq ?_
 refine U.rg [0,1,2,3] ?_
 refine U.lv 3 ?_
 refine sW λ p hp=>KW.ext rfl rfl rfl rfl J3 rfl rfl λ _ w s _ bh hs _=>.inr ?_
 by_cases hz:s.mu = .zero
 ·refine ⟨.bool true,_,_,.le,_,Cp (v:=0) (by have e:=bh.cm; rw [hz] at e; exact e) (bh.zm 0),.ZO hz,trivial,o6 (.inl rfl),bV.mu (m:=⟨1,0,0,0⟩) bh,λ aZ bd=>(?_:U (WJ F p k j .le) _ _ _ _ _) aZ bd⟩
  refine U.aU ?_
  refine U.fe rfl rfl ?_
  refine U.seq ?_
  refine U.fe rfl rfl ?_
  refine U.seq ?_
  refine U.rg [0] ?_
  refine sW λ n _=>KW.ext rfl rfl rfl rfl zL rfl rfl λ _ w s _ bh _ _=>.inr ⟨_,w,_,.lc,s,pQ (by simp),.le,trivial,rfl,bV.refl bh,λ aZ bd=>(?_:U (WJ F n k j .lc) _ _ _ _ _) aZ bd⟩
  refine U.aU ?_
  refine U.rg [0,1,2] ?_
  refine U.lv 1 ?_
  refine sW λ n _=>KW.conv rfl rfl rfl rfl rfl Uf rfl NW ⟨by simp,by simp⟩ o5 (λ _=>.lc) trivial λ aZ bd=>(?_:U (WJ F n k j .la) _ _ _ _ _) aZ bd
  refine sW λ n _=>KW.ext rfl rfl rfl rfl J2 rfl rfl λ _ w s _ bh _ _=>.inr ⟨_,w,_,.ul λ _=>0,s,zH (λ _ _=>by simp) rfl,.la,trivial,rfl,bV.refl bh,λ aZ bd js gE=>(?_:U (WJ F n k j (.ul js)) _ _ _ _ _) aZ bd⟩
  refine U.aU ?_
  exact U.o7 func203 rfl (hk n js gE) (.inr ⟨_,rfl⟩)
 ·refine ⟨.bool false,w,_,.r0,s,FC bh.cm (bh.zm 0) (λ e=>hz (Wd.val_inj hs.1 (N':=0) ⟨Nat.zero_le _,Nat.zero_le _,Nat.zero_le _,Nat.le_refl _⟩ e)),.ZN hz,trivial,vo (.inl rfl),bV.refl bh,λ aZ bd=>(?_:U (WJ F p k j .r0) _ _ _ _ _) aZ bd⟩
  refine U.aU ?_
  refine U.dW rfl rfl ?_
  refine U.skip ?_
  refine U.rg [0,1] ?_
  refine U.lv 1 ?_
  refine U.uG rfl rfl rfl rfl rfl ahG rfl (aw5 hB p) λ aZ bd n js gE=>(?_:U (WJ F n k j (.ul js)) _ _ _ _ _) aZ bd
  refine U.aU ?_
  exact U.o7 func203 rfl (hk n js gE) (.inl rfl)
theorem atf(hB:∀ w:World,F.B.os w.os→F.B.os w.later.os)(n:Nat):j5 prog ((WJ F n k j .ld).J R H) (xC F k j R H) 173 [pm F]:=j5.bl func173 rfl rfl rfl λ fr cs hk=>by
 refine U.rg [0,1,2,3] ?_
 refine U.lv 3 ?_
 refine U.uG rfl rfl rfl rfl rfl ahy rfl (asl hB n) λ aZ bd n js gE=>(?_:U (WJ F n k j (.ul js)) _ _ _ _ _) aZ bd
 refine U.aU ?_
 exact U.o7 func173 rfl (hk n js gE) (.inl rfl)
def NQ(F:Fx)(k j:Nat)(R:av)(H:ai)(g:Goroutine):Prop:=∀ n,Own prog F.B false (KW (FT F) n k j .ue) R H g
def NR(F:Fx)(k j:Nat)(R:av)(H:ai)(g:Goroutine):Prop:=(j < F.J→∀ n,Own prog F.B false (KW (FT F) n k j .ld) R H g)∧(j=F.J→∀ n,Own prog F.B false (KW (FT F) n k j .wv) R H g)
theorem acA{m:Wd}(h:m.ok 5)(hl:m.l=0):IntKind.i32.wrap (m.val+1)=Wd.val { m with l:=1 }:=by
 have:=Wd.fit h
 rw [wrap_i32 (by omega) (by omega)]; simp only [Wd.val,hl]; omega
theorem ayz{m:Wd}(h:m.ok 5)(_:m.w=0)(hn:m.n≠0):IntKind.i32.wrap (m.val - 8)=Wd.val { m with n:=m.n - 1 }∧Wd.ok 5 { m with n:=m.n - 1 }:=by
 have:=Wd.fit h
 obtain ⟨h1,h2,h3,h4⟩:=h
 refine ⟨?_,h1,h2,h3,by simp only; omega⟩
 rw [wrap_i32 (by omega) (by omega)]; simp only [Wd.val]; omega
theorem ayx{m:Wd}(h:m.ok 5)(hl:m.l=1):IntKind.i32.wrap (m.val + -1)=Wd.val { m with l:=0 }:=by
 have:=Wd.fit h
 rw [wrap_i32 (by omega) (by omega)]; simp only [Wd.val,hl]; omega
theorem abN{s:Sh}{w:World}(bh:eZ (FT F) s w)(h0:s.ms=0):bV (FT F) { s with ms:=s.ms+1 } w (w.setCell ⟨F.bm,1,none⟩ (.int .u32 (IntKind.u32.wrap ((s.ms:Int)+1)))):=by
 rw [wrap_u32 (by omega) (by omega)]
 exact bV.ms bh
theorem axP{m:Wd}(h5:m.ok 5)(hl:m.l=0)(pY:m.s=1)(n:Nat):j5 prog ((WJ F n k j .us).J R H) (NQ F k j R H) 233 [pm F,.int .i32 m.val]:=j5.bl func233 rfl rfl rfl λ fr cs hk=>by
 have e1:=acA h5 hl
 have d5:Wd.ok 5 { m with l:=1 }:=⟨Nat.le_refl _,h5.2.1,h5.2.2.1,h5.2.2.2⟩
 refine U.seq ?_
 refine U.seq ?_
 refine U.rg [0,1,2,3] ?_
 refine U.lv 2 ?_
 refine U.is 6 (v':=.int .i32 (Wd.val { m with l:=1 })) rfl (congrArg _ e1) ?_
 refine U.lv 2 ?_
 refine U.aU ?_
 refine U.is 8 (v':=.bool false) rfl (pO (Wd.ru d5).1 rfl) ?_
 refine U.dW rfl rfl ?_
 refine U.skip ?_
 refine U.seq ?_
 refine U.rg [0,1,2] ?_
 refine U.lv 3 ?_
 refine U.aU ?_
 refine U.is 12 (v':=.bool false) rfl (pO (Wd.ru h5).2.2.2.1 (by rw [pY]; rfl)) ?_
 refine U.dW rfl rfl ?_
 refine U.rg [0,1,2,3] ?_
 refine U.lv 3 ?_
 refine sW λ m hm=>KW.ext rfl rfl rfl rfl Yx rfl rfl λ _ w s _ bh hs _=>.inr ⟨_,_,_,.ue,_,O1 rfl bh.JI (bh.zm 1),.us,trivial,E9 (.inl rfl),abN bh hs.2,λ aZ bd=>(?_:U (WJ F m k j .ue) _ _ _ _ _) aZ bd⟩
 refine U.aU ?_
 exact U.o7 func233 rfl (hk m) (.inl rfl)
noncomputable def Z2:Code:=(uE (Tryz.f233.body.getD .skip)).getD .skip
theorem axQ{fr:Frame}{cs:List Frame}{todo:List Item}(hk:NQ F k j R H (aX (fr.finish (gG [])) cs))(n:Nat)(m:Wd)(hm:m.ok F.N) :
  U (WJ F n k j (hu m)) ⟨233,.normal,none,43,[],fr::cs⟩ R H [(0,pm F),(4,.int .i32 m.val)] (.code Z2 :: .inLoop Z2::todo):=by
 have hN:=F.hN
 refine U.head (Jn:=λ n (m:Wd)=>WJ F n k j (hu m)) (S:=λ m=>[(0,pm F),(4,.int .i32 m.val)]) (ok:=λ m=>m.ok F.N) (λ n ih m hm=>?_) n m hm
 have h5:m.ok 5:=yG hm (by omega)
 have s3:=(Wd.ru h5).2.2.2.2.2.2.2.2.2.2
 have b7:=(Wd.ru h5).2.2.2.2.2.1
 have pZ:m.val.fdiv (2 ^ (min (3:Int).toNat IntKind.i32.bits))=(m.n:Int):=by simpa [lR] using s3
 refine U.block ?_
 refine U.seq ?_
 refine U.seq ?_
 refine U.rg [0,1,2,3,4,5,6,7] ?_
 refine U.lv 4 ?_
 by_cases hn:m.n=0
 ·rw [show hu m = .ue from if_pos (.inl hn)]
  refine U.is 17 (v':=.bool true) rfl (congrArg Value.bool (by show (m.val.fdiv (2 ^ (min (3:Int).toNat IntKind.i32.bits)) == 0)=true; rw [pZ,hn]; rfl)) ?_
  refine U.lv 4 ?_
  refine U.aU ?_
  refine U.fe rfl rfl ?_
  exact U.o7 func233 rfl (hk n) (.inr ⟨_,rfl⟩)
 refine U.is 17 (v':=.bool false) rfl (congrArg Value.bool (by show (m.val.fdiv (2 ^ (min (3:Int).toNat IntKind.i32.bits)) == 0)=false; rw [pZ,beq_eq_false_iff_ne]; omega)) ?_
 refine U.lv 3 ?_
 obtain ⟨q1,q2,q3,q4⟩:=h5
 by_cases hx:m.l=1∨m.w=1∨m.s=1
 ·rw [show hu m = .ue from if_pos (.inr hx)]
  refine U.is 20 (v':=.bool true) rfl (zG b7 (by rw [bne_iff_ne]; omega)) ?_
  refine U.lv 1 ?_
  refine U.aU ?_
  refine U.fe rfl rfl ?_
  exact U.o7 func233 rfl (hk n) (.inr ⟨_,rfl⟩)
 rw [show hu m = .uc m from if_neg (by simp only [hn,false_or]; exact hx)]
 obtain ⟨e8,k8⟩:=ayz ⟨q1,q2,q3,q4⟩ (by omega) hn
 refine U.is 20 (v':=.bool false) rfl (zG b7 (by rw [bne_eq_false_iff_eq]; omega)) ?_
 refine U.lv 1 ?_
 refine U.aU ?_
 refine U.dW rfl rfl ?_
 refine U.skip ?_
 refine U.seq ?_
 refine U.rg [0,1,2,3] ?_
 refine U.lv 2 ?_
 refine U.is 23 (v':=.int .i32 (Wd.val { m with n:=m.n - 1 })) rfl (congrArg _ e8) ?_
 refine U.lv 2 ?_
 refine U.aU ?_
 refine U.is 1 (v':=.int .i32 (Wd.val { m with w:=1,n:=m.n - 1 })) rfl (KV (Wd.ru k8).2.2.2.2.2.2.2.1 rfl) ?_
 refine U.seq ?_
 refine U.seq ?_
 refine U.rg [0,1,2,3,4,5] ?_
 refine U.lv 5 ?_
 refine sW λ p hp=>KW.ext rfl rfl rfl rfl J3 rfl rfl λ _ w s _ bh hs _=>.inr ?_
 by_cases da:s.mu=m
 ·subst da
  refine ⟨.bool true,_,_,.us,_,Cp bh.cm (bh.zm 0),.abL rfl,trivial,o6 (.inl rfl),bV.mu bh,λ aZ bd=>(?_:U (WJ F p k j .us) _ _ _ _ _) aZ bd⟩
  refine U.aU ?_
  refine U.fe rfl rfl ?_
  refine U.seq ?_
  refine U.rg [0,1,2,3] ?_
  refine U.lv 3 ?_
  refine sW λ q hq=>KW.ext rfl rfl rfl rfl Yx rfl rfl λ _ w s _ bh hs _=>.inr ⟨_,_,_,.ue,_,O1 rfl bh.JI (bh.zm 1),.us,trivial,E9 (.inl rfl),abN bh hs.2,λ aZ bd=>(?_:U (WJ F q k j .ue) _ _ _ _ _) aZ bd⟩
  refine U.aU ?_
  exact U.o7 func233 rfl (hk q) (.inr ⟨_,rfl⟩)
 ·refine ⟨.bool false,w,_,.ux,s,FC bh.cm (bh.zm 0) (λ e=>da (Wd.val_inj hs.1 hm e)),.Ud da,trivial,vo (.inl rfl),bV.refl bh,λ aZ bd=>(?_:U (WJ F p k j .ux) _ _ _ _ _) aZ bd⟩
  refine U.aU ?_
  refine U.dW rfl rfl ?_
  refine U.skip ?_
  refine U.rg [0,1,2,3,4] ?_
  refine U.lv 3 ?_
  refine sW λ q hq=>KW.look rfl rfl rfl rfl rfl DL (by kernel_rfl) rfl ⟨by simp,by simp⟩ (λ _ h=>h) λ ot s hs=>⟨_,.ux,nU (by simp),λ aZ bd=>aaB ((?_:U (WJ F q k j (hu s.mu)) _ _ _ _ _) aZ bd)⟩
  refine U.lv 1 ?_
  refine U.aU ?_
  refine U.inBlock ?_
  refine U.inLoop ?_
  refine U.sub ?_ (ih q (Nat.lt_trans hq hp) s.mu hs.1)
  exact bS.sub ⟨rfl,rfl,trivial⟩
theorem axR{m:Wd}(hm:m.ok F.N)(hl:m.l=0)(CJ:m.s=0)(n:Nat):j5 prog ((WJ F n k j (hu m)).J R H) (NQ F k j R H) 233 [pm F,.int .i32 m.val]:=j5.bl func233 rfl rfl rfl λ fr cs hk=>by
 have hN:=F.hN
 have h5:m.ok 5:=yG hm (by omega)
 have e1:=acA h5 hl
 have d5:Wd.ok 5 { m with l:=1 }:=⟨Nat.le_refl _,h5.2.1,h5.2.2.1,h5.2.2.2⟩
 refine U.seq ?_
 refine U.seq ?_
 refine U.rg [0,1,2,3] ?_
 refine U.lv 2 ?_
 refine U.is 6 (v':=.int .i32 (Wd.val { m with l:=1 })) rfl (congrArg _ e1) ?_
 refine U.lv 2 ?_
 refine U.aU ?_
 refine U.is 8 (v':=.bool false) rfl (pO (Wd.ru d5).1 rfl) ?_
 refine U.dW rfl rfl ?_
 refine U.skip ?_
 refine U.seq ?_
 refine U.rg [0,1,2] ?_
 refine U.lv 3 ?_
 refine U.aU ?_
 refine U.is 12 (v':=.bool true) rfl (pO (Wd.ru h5).2.2.2.1 (by rw [CJ]; rfl)) ?_
 refine U.fe rfl rfl ?_
 refine U.seq ?_
 refine U.rg [0,1] ?_
 refine U.lv 2 ?_
 refine U.aU ?_
 refine U.block ?_
 refine U.enterLoop ?_
 refine U.sub ?_ (axQ hk n m hm)
 exact bS.sub ⟨rfl,rfl,trivial⟩
end
end Go.Proofs.YtihapemckcdicaaGreatDoor
namespace Go.Proofs.YtihapemckcdicaaGreatDoor
open Go.Lg Go.Proofs Go.Conc Tryz
set_option maxRecDepth 100000
set_option maxHeartbeats 4000000
section
variable {F:Fx} {R:av} {H:ai} {k j:Nat}
noncomputable def agM:Code:=match Tryz.f204.body with | some (.seq _ (.seq _ (.seq _ z)))=>z | _=>.skip
theorem SQ{fr:Frame}{cs:List Frame}{st:St}(hj:j≤F.J)(hk:NR F k j R H (aX (fr.finish (gG [])) cs))(n:Nat):U (WJ F n k j .ue) ⟨204,.normal,none,21,[],fr::cs⟩ R H st [.code agM]:=by
 refine U.rg [0] ?_
 refine sW λ m hm=>KW.ext rfl rfl rfl rfl zL rfl rfl λ _ w s _ bh _ _=>.inr ?_
 by_cases h:j < F.J
 ·refine ⟨_,w,_,.ld,s,pQ (by simp),.L7,h,rfl,bV.refl bh,λ aZ bd=>(?_:U (WJ F m k j .ld) _ _ _ _ _) aZ bd⟩
  refine U.aU ?_
  exact U.o7 func204 rfl (hk.1 h m) (.inl rfl)
 ·have h':j=F.J:=by omega
  refine ⟨_,w,_,.wv,s,pQ (by simp),.L8,h',rfl,bV.refl bh,λ aZ bd=>(?_:U (WJ F m k j .wv) _ _ _ _ _) aZ bd⟩
  refine U.aU ?_
  exact U.o7 func204 rfl (hk.2 h' m) (.inl rfl)
theorem aso{js:Nat→Nat}(hj:j+1≤F.J)(n:Nat):j5 prog ((WJ F n k j (.ul js)).J R ((F.bo,F.cont (fS js k (j+1)))::H)) (NR F k (j+1) R H) 204 [pm F]:=j5.bl func204 rfl rfl rfl λ fr cs hk=>by
 have hN:=F.hN
 refine U.seq ?_
 refine U.fe rfl rfl ?_
 refine U.seq ?_
 refine U.rg [0,1,2,3] ?_
 refine U.lv 3 ?_
 refine sW λ m hm=>KW.look rfl rfl rfl rfl rfl DL (by kernel_rfl) rfl ⟨by simp,by simp⟩ (λ _ h=>h) λ ot s hs=>⟨.uv js,.ul,nU (by simp),λ aZ bd=>(?_:U (WJ F m k j (.uv js)) _ _ _ _ _) aZ bd⟩
 refine U.aU ?_
 refine U.seq ?_
 refine U.rg [0,1,2] ?_
 refine U.lv 1 ?_
 refine sW λ m hm=>KW.conv rfl rfl rfl rfl rfl Uf rfl NW ⟨by simp,by simp⟩ o5 (λ _=>.uv) trivial λ aZ bd=>(?_:U (WJ F m k j (.ur js)) _ _ _ _ _) aZ bd
 refine sW λ m hm=>KW.ext rfl rfl rfl rfl Ys rfl rfl λ _ w s _ bh _ _=>.inr ⟨_,w,_,.ud,s,zH (λ _ _=>by simp) rfl,.ur,trivial,rfl,bV.refl bh,λ aZ bd=>⟨js,H,rfl,rfl,(?_:U (WJ F m k (j+1) .ud) _ _ _ _ _) aZ bd⟩⟩
 refine U.aU ?_
 refine U.rg [0] ?_
 refine sW λ m hm=>KW.ext rfl rfl rfl rfl FG rfl rfl λ _ w s _ bh _ _=>.inr ⟨_,w,_,.u0,s,pQ (by simp),.ud,trivial,rfl,bV.refl bh,λ aZ bd=>(?_:U (WJ F m k (j+1) .u0) _ _ _ _ _) aZ bd⟩
 refine U.aU ?_
 refine U.seq ?_
 refine U.rg [0,1,2,3,4] ?_
 refine U.lv 3 ?_
 refine sW λ m hm=>KW.ext rfl rfl rfl rfl Yv rfl rfl λ _ w s _ bh hs _=>.inr ?_
 obtain ⟨ix,hl⟩:=hs
 have h5:s.mu.ok 5:=yG ix (show (FT F).N≤5 from Nat.le_trans hN (by omega))
 have e:=ayx h5 hl
 have k5:Wd.ok F.N { s.mu with l:=0 }:=⟨Nat.zero_le _,ix.2.1,ix.2.2.1,ix.2.2.2⟩
 by_cases pY:s.mu.s=1
 ·refine ⟨_,_,_,.us,_,xU bh.cm (bh.zm 0),.u0h pY,trivial,o6 (.inl rfl),by rw [e]; exact bV.mu bh,λ aZ bd=>(?_:U (WJ F m k (j+1) .us) _ _ _ _ _) aZ bd⟩
  refine U.lv 1 ?_
  refine U.aU ?_
  refine U.is 2 (v':=.int .i32 (Wd.val { s.mu with l:=0 })) rfl (congrArg _ e) ?_
  refine U.seq ?_
  refine U.seq ?_
  refine U.rg [0,1] ?_
  refine U.lv 2 ?_
  refine U.aU ?_
  refine U.is 16 (v':=.bool true) rfl (congrArg Value.bool (by rw [bne_iff_ne]; simp only [Wd.val]; omega)) ?_
  refine U.fe rfl rfl ?_
  refine U.rg [0,1,2] ?_
  refine U.lv 2 ?_
  refine U.uG rfl rfl rfl rfl rfl XZ rfl (axP (m:={ s.mu with l:=0 }) ⟨Nat.zero_le _,h5.2.1,h5.2.2.1,h5.2.2.2⟩ rfl pY m) λ aZ bd n=>(?_:U (WJ F n k (j+1) .ue) _ _ _ _ _) aZ bd
  refine U.aU ?_
  exact SQ hj hk n
 have CJ:s.mu.s=0:=by have:=ix.2.2.1; omega
 by_cases hz:s.mu.w=0∧s.mu.s=0∧s.mu.n=0
 ·refine ⟨_,_,_,.ue,_,xU bh.cm (bh.zm 0),.u0z hz.1 hz.2.1 hz.2.2,trivial,o6 (.inl rfl),by rw [e]; exact bV.mu bh,λ aZ bd=>(?_:U (WJ F m k (j+1) .ue) _ _ _ _ _) aZ bd⟩
  refine U.lv 1 ?_
  refine U.aU ?_
  refine U.is 2 (v':=.int .i32 (Wd.val { s.mu with l:=0 })) rfl (congrArg _ e) ?_
  refine U.seq ?_
  refine U.seq ?_
  refine U.rg [0,1] ?_
  refine U.lv 2 ?_
  refine U.aU ?_
  refine U.is 16 (v':=.bool false) rfl (congrArg Value.bool (by rw [bne_eq_false_iff_eq]; simp only [Wd.val]; omega)) ?_
  refine U.dW rfl rfl ?_
  refine U.skip ?_
  exact SQ hj hk m
 ·refine ⟨_,_,_,hu { s.mu with l:=0 },_,xU bh.cm (bh.zm 0),.wL hz CJ,nU (by simp),o6 (.inl rfl),by rw [e]; exact bV.mu bh,λ aZ bd=>aaB ((?_:U (WJ F m k (j+1) (hu { s.mu with l:=0 })) _ _ _ _ _) aZ bd)⟩
  refine U.lv 1 ?_
  refine U.aU ?_
  refine U.is 2 (v':=.int .i32 (Wd.val { s.mu with l:=0 })) rfl (congrArg _ e) ?_
  refine U.seq ?_
  refine U.seq ?_
  refine U.rg [0,1] ?_
  refine U.lv 2 ?_
  refine U.aU ?_
  refine U.is 16 (v':=.bool true) rfl (congrArg Value.bool (by rw [bne_iff_ne]; simp only [Wd.val]; omega)) ?_
  refine U.fe rfl rfl ?_
  refine U.rg [0,1,2] ?_
  refine U.lv 2 ?_
  refine U.uG rfl rfl rfl rfl rfl XZ rfl (axR k5 rfl CJ m) λ aZ bd n=>(?_:U (WJ F n k (j+1) .ue) _ _ _ _ _) aZ bd
  refine U.aU ?_
  exact SQ hj hk n
theorem axM{js:Nat→Nat}(hj:j+1≤F.J)(n:Nat):j5 prog ((WJ F n k j (.ul js)).J R ((F.bo,F.cont (fS js k (j+1)))::H)) (NR F k (j+1) R H) 174 [pm F]:=j5.bl func174 rfl rfl rfl λ fr cs hk=>by
 refine U.rg [0,1,2,3] ?_
 refine U.lv 3 ?_
 refine U.uG rfl rfl rfl rfl rfl ahz rfl (aso hj n) λ aZ bd=>⟨λ h n=>(?_:U (WJ F n k (j+1) .ld) _ _ _ _ _) aZ bd,λ h n=>(?_:U (WJ F n k (j+1) .wv) _ _ _ _ _) aZ bd⟩
 ·refine U.aU ?_
  exact U.o7 func174 rfl (hk.1 h n) (.inl rfl)
 ·refine U.aU ?_
  exact U.o7 func174 rfl (hk.2 h n) (.inl rfl)
end
end Go.Proofs.YtihapemckcdicaaGreatDoor
namespace Go.Proofs.YtihapemckcdicaaGreatDoor
open Go.Lg Go.Proofs Go.Conc Go.ConcN Tryz
set_option maxRecDepth 100000
set_option maxHeartbeats 4000000
section
variable {F:Fx} {R:av} {H:ai} {k j:Nat}
abbrev pw(F:Fx):Value:=.pointer (some (aw F))
noncomputable abbrev TQ (F:Fx) (n k j:Nat) (T:Lp) (R:av) (H:ai):=toJ prog (KW (FT F) n k j T R H)
theorem sQ{c:Ctx}{st:St}{todo:List Item}{n:Nat}{T:Lp}(h:∀ m,m < n→∀ tmps,cL c.n st tmps→KW (FT F) (m+1) k j T R H (aX (aV c tmps todo) c.cs)):ay (TQ F n k j T R H) c st todo:=λ tmps ht=>by
 cases n with
 | zero=>exact ⟨0,trivial⟩
 | succ n=>exact ⟨0,h n (Nat.lt_succ_self n) tmps ht⟩
def Gone(g:Goroutine):Prop:=∃ q,QuitsD prog q 0 g
theorem Ei(s:Sh):w8 s=4294967296 * (s.v:Int)+s.w:=rfl
theorem agG{s:Sh}{w:World}(bh:eZ (FT F) s w)(h0:s.ws=0):bV (FT F) { s with ws:=s.ws+1 } w (w.setCell (pM F) (.int .u32 (IntKind.u32.wrap ((s.ws:Int)+1)))):=by
 rw [wrap_u32 (by omega) (by omega)]
 exact bV.ws bh
theorem Wb{n:Nat}{st:St}{fr:Frame}{cs:List Frame}{todo:List Item}{args:Array Value}(hk:Gone (aX (fr.finish (gG [])) cs))(hm:todo=[]∨∃ k,todo = .code .ret::k):ay (wB prog 1) ⟨169,.normal,none,n,[dcall 192 args],fr::cs⟩ st todo:=by
 have key:∀ tmps todo,cL n st tmps→(wB prog 1).Q (aX (iC ⟨169,.normal,none,n,[dcall 192 args],fr::cs⟩ tmps todo) (fr::cs)):=λ tmps todo ht =>
  awd rfl zL (QJ.back (J:=wB prog 0) func169 ht rfl hk)
 rcases hm with rfl | ⟨k,rfl⟩
 ·exact ay.OP rfl λ tmps ht=>key tmps _ ht
 ·exact ay.ret rfl λ tmps ht=>key tmps _ ht
noncomputable def DG:Code:=match Tryz.f169.body with | some (.seq _ (.seq _ (.seq _ (.seq _ z))))=>z | _=>.skip
noncomputable def ags:Code:=match DG with | .seq _ (.seq _ (.seq _ (.seq _ (.seq _ (.seq _ (.seq (.seq _ x) _))))))=>x | _=>.skip
noncomputable def r27:Code:=match DG with | .seq _ (.seq _ (.seq _ (.seq _ (.seq _ (.seq _ (.seq _ y))))))=>y | _=>.skip
theorem Jw{b:Option Int}{z y:Int}{p:Bool}(h:b=some z)(hp:(z != y)=p):Value.bool (b.getD 0 != y) = .bool p:=by rw [h]; exact congrArg _ hp
theorem Wc{J:QJ prog}{c:Ctx}{st:St}{kk:List Item}{v w:Nat}(hc:c.kind = .normal)(hn:c.n=117)(hv:v≤5)(hw:w≤1)(cJ:aF st [(0,pw F),(1,.int .i64 (-1)),(4,.bool false),(6,.int .u64 (4294967296 * (v:Int)+w))])
  (h:ay J c [(0,pw F),(4,.bool false),(6,.int .u64 (4294967296 * (v:Int)+w)),(8,.int .u32 w),(94,.bool (decide (0 < v∨w=0)))] (.code ags :: .code r27::kk)):ay J c st (.code DG::kk):=by
 obtain ⟨f,kind,ro,n,ds,cs⟩:=c
 dsimp only at hc hn
 subst hc hn
 obtain ⟨g1,g2,g3⟩:=Uy hv hw
 have gs:(4294967296 * (v:Int)+w).fdiv (2 ^ (min (32:Int).toNat IntKind.u64.bits))=(v:Int):=by simpa [lR] using g3
 refine ay.sub cJ ?_
 refine ay.seq ?_
 refine ay.seq ?_
 refine ay.rg [0,1,2,3,4,5,6] ?_
 refine ay.lv 4 ?_
 refine ay.is 47 (v':=.bool false) rfl (Jw g1 rfl) ?_
 refine ay.lv 3 ?_
 refine ay.aU ?_
 refine ay.dW rfl ?_
 refine ay.skip ?_
 refine ay.seq ?_
 refine ay.rg [0,1,2,3] ?_
 refine ay.lv 4 ?_
 refine ay.aU ?_
 refine ay.is 7 (v':=.int .i32 (v:Int)) rfl (congrArg _ (by
  show IntKind.i32.wrap ((4294967296 * (v:Int)+w).fdiv (2 ^ (min (32:Int).toNat IntKind.u64.bits)))=_
  rw [gs,wrap_i32 (by omega) (by omega)])) ?_
 refine ay.seq ?_
 refine ay.rg [0,1,2,3] ?_
 refine ay.lv 4 ?_
 refine ay.aU ?_
 refine ay.is 8 (v':=.int .u32 (w:Int)) rfl (congrArg _ (by rw [g2,Option.getD_some]; exact wrap_u32 (by omega) (by omega))) ?_
 refine ay.seq ?_
 refine ay.seq ?_
 refine ay.rg [0,1,2,3,4,5,6,7,8,9] ?_
 refine ay.lv 5 ?_
 refine ay.is 62 (v':=.bool false) rfl (congrArg Value.bool (by decide)) ?_
 refine ay.lv 5 ?_
 refine ay.aU ?_
 refine ay.dW rfl ?_
 refine ay.skip ?_
 refine ay.seq ?_
 refine ay.seq ?_
 refine ay.rg [0,1] ?_
 refine ay.lv 2 ?_
 refine ay.aU ?_
 refine ay.is 74 (v':=.bool false) rfl (congrArg Value.bool (by rw [decide_eq_false_iff_not]; omega)) ?_
 refine ay.dW rfl ?_
 refine ay.skip ?_
 refine ay.seq ?_
 refine ay.seq ?_
 refine ay.rg [0,1,2,3,4,5,6,7,8,9,10,11] ?_
 refine ay.lv 3 ?_
 rcases (show w=0∨w=1 by omega) with rfl | rfl
 ·refine ay.is 78 (v':=.bool false) rfl rfl ?_
  refine ay.lv 9 ?_
  refine ay.aU ?_
  refine ay.dW rfl ?_
  refine ay.skip ?_
  refine ay.seq ?_
  refine ay.seq ?_
  refine ay.rg [0,1,2,3,4,5] ?_
  refine ay.lv 3 ?_
  by_cases h0:0 < v
  ·refine ay.is 91 (v':=.bool true) rfl (congrArg Value.bool (by rw [decide_eq_true_iff]; omega)) ?_
   refine ay.lv 3 ?_
   refine ay.aU ?_
   refine ay.is 94 (v':=.bool (decide (0 < v∨0=0))) rfl (congrArg Value.bool (by simp [h0])) ?_
   refine ay.sub ?_ h
   exact bS.sub ⟨rfl,rfl,rfl,rfl,rfl,trivial⟩
  ·refine ay.is 91 (v':=.bool false) rfl (congrArg Value.bool (by rw [decide_eq_false_iff_not]; omega)) ?_
   refine ay.lv 3 ?_
   refine ay.aU ?_
   refine ay.is 94 (v':=.bool (decide (0 < v∨0=0))) rfl (congrArg Value.bool (by simp [h0])) ?_
   refine ay.sub ?_ h
   exact bS.sub ⟨rfl,rfl,rfl,rfl,rfl,trivial⟩
 ·refine ay.is 78 (v':=.bool true) rfl rfl ?_
  refine ay.lv 3 ?_
  refine ay.is 81 (v':=.bool false) rfl (congrArg Value.bool (by decide)) ?_
  refine ay.lv 6 ?_
  refine ay.aU ?_
  refine ay.dW rfl ?_
  refine ay.skip ?_
  refine ay.seq ?_
  refine ay.seq ?_
  refine ay.rg [0,1,2,3,4,5] ?_
  refine ay.lv 3 ?_
  by_cases h0:0 < v
  ·refine ay.is 91 (v':=.bool true) rfl (congrArg Value.bool (by rw [decide_eq_true_iff]; omega)) ?_
   refine ay.lv 3 ?_
   refine ay.aU ?_
   refine ay.is 94 (v':=.bool (decide (0 < v∨1=0))) rfl (congrArg Value.bool (by simp [h0])) ?_
   refine ay.sub ?_ h
   exact bS.sub ⟨rfl,rfl,rfl,rfl,rfl,trivial⟩
  ·refine ay.is 91 (v':=.bool false) rfl (congrArg Value.bool (by rw [decide_eq_false_iff_not]; omega)) ?_
   refine ay.lv 3 ?_
   refine ay.aU ?_
   refine ay.is 94 (v':=.bool (decide (0 < v∨1=0))) rfl (congrArg Value.bool (by simp [h0])) ?_
   refine ay.sub ?_ h
   exact bS.sub ⟨rfl,rfl,rfl,rfl,rfl,trivial⟩
theorem ays(n:Nat):j5 prog ((WJ F n k j .wv).J R H) Gone 169 [pw F,.int .i64 (-1)]:=j5.bl func169 rfl rfl rfl λ fr cs hk=>by
 have hN:=F.hN
 refine U.seq ?_
 refine U.fe rfl rfl ?_
 refine U.seq ?_
 refine U.seq ?_
 refine U.rg [0,1] ?_
 refine U.lv 2 ?_
 refine U.aU ?_
 refine U.fe rfl (by decide) ?_
 refine U.rg [0,1,2] ?_
 refine U.lv 1 ?_
 refine sW λ m hm=>KW.conv rfl rfl rfl rfl rfl Ue rfl NY ⟨by simp,by simp⟩ o5 (λ _=>.wv) trivial λ aZ bd=>(?_:U (WJ F m k j .wr) _ _ _ _ _) aZ bd
 refine sW λ m hm=>KW.ext rfl rfl rfl rfl Ys rfl rfl λ _ w s _ bh _ _=>.inr ⟨_,w,_,.wk,s,zH (λ _ _=>by simp) rfl,.wr,trivial,rfl,bV.refl bh,λ aZ bd=>(?_:ay (TQ F m k j .wk R H) _ _ _) aZ bd⟩
 refine ay.aU ?_
 refine ay.seq ?_
 refine ay.rg [0] ?_
 refine sQ λ m hm=>KW.ext rfl rfl rfl rfl FG rfl rfl λ _ w s _ bh _ _=>.inr ⟨_,w,_,.d1,s,pQ (by simp),.wk,trivial,rfl,bV.refl bh,λ aZ bd=>(?_:ay (TQ F m k j .d1 R H) _ _ _) aZ bd⟩
 refine ay.aU ?_
 refine ay.rg [0] ?_
 refine ay.defer rfl rfl rfl rfl rfl rfl rfl (.Lv rfl) ?_
 refine ay.aU ?_
 refine ay.seq ?_
 refine ay.rg [0] ?_
 refine ay.lv 1 ?_
 refine ay.aU ?_
 refine ay.seq ?_
 refine ay.seq ?_
 refine ay.rg [0] ?_
 refine ay.ext rfl rfl rfl rfl rfl Yt rfl (λ w=>O0) (.put rfl) ?_
 refine ay.aU ?_
 refine ay.dW rfl ?_
 refine ay.skip ?_
 refine ay.seq ?_
 refine ay.rg [0,1,2,3,4,5,6,7] ?_
 refine ay.lv 6 ?_
 refine ay.is 42 (v':=.int .u64 18446744069414584320) rfl (congrArg _ (by decide +kernel)) ?_
 refine ay.enter rfl rfl rfl rfl rfl func197 (by decide +kernel) rfl rfl rfl λ abI vP=>?_
 refine ay.seq ?_
 refine ay.rg [0] ?_
 refine ay.lv 1 ?_
 refine ay.aU ?_
 refine ay.seq ?_
 refine ay.rg [0,1,2,3,4,5] ?_
 refine ay.lv 4 ?_
 refine sQ λ m hm=>KW.ext rfl rfl rfl rfl Yu rfl rfl λ _ w s _ bh _ lI=>.inr ?_
 obtain ⟨v1,v2,w1⟩:=lI
 have v2':s.v≤F.N:=v2
 have ev:IntKind.u64.wrap (w8 s+18446744069414584320)=4294967296 * ((s.v - 1:Nat):Int)+s.w:=by rw [Ei,ayE (by omega) (by omega)]; omega
 by_cases hq:s.v≠1∨s.w=0
 ·refine ⟨_,_,_,.quit,_,xU bh.cg (bh.zg 0),.FA hq,trivial,o6 (.inr rfl),by rw [ev]; exact bV.wg bh,λ aZ bd=>(?_:ay (wB prog 1) _ _ _) aZ bd⟩
  refine ay.lv 1 ?_
  refine ay.is 4 (v':=.int .u64 (4294967296 * ((s.v - 1:Nat):Int)+s.w)) rfl (congrArg _ ev) ?_
  refine ay.aU ?_
  refine ay.ret rfl λ tmps ht=>QJ.back (J:=wB prog 1) (vs:=[.int .u64 (4294967296 * ((s.v - 1:Nat):Int)+s.w)]) func197 ht rfl (ay.resume (c':=⟨0,.normal,none,0,[],_⟩) rfl vP rfl (.put rfl) ?_ rfl)
  refine ay.lv 1 ?_
  refine ay.aU ?_
  refine Wc (F:=F) (v:=s.v - 1) (w:=s.w) rfl rfl (by omega) w1 ?_ ?_
  ·exact bS.sub ⟨rfl,rfl,rfl,rfl,trivial⟩
  ·refine ay.is 94 (v':=.bool true) rfl (congrArg Value.bool (by rw [decide_eq_true_iff]; omega)) ?_
   refine ay.fe rfl ?_
   exact Wb hk (.inr ⟨_,rfl⟩)
 ·have h1:s.v=1:=by omega
  have h2:s.w=1:=by omega
  refine ⟨_,_,_,.d2,_,xU bh.cg (bh.zg 0),.OM h1 h2,trivial,o6 (.inr rfl),by rw [ev,h1]; exact bV.wg bh,λ aZ bd=>(?_:ay (TQ F m k j .d2 R H) _ _ _) aZ bd⟩
  refine ay.lv 1 ?_
  refine ay.is 4 (v':=.int .u64 (4294967296 * ((0:Nat):Int)+((1:Nat):Int))) rfl (congrArg _ (by rw [ev,h1,h2])) ?_
  refine ay.aU ?_
  refine ay.ret rfl λ tmps ht=>QJ.back (J:=TQ F m k j .d2 R H) (vs:=[.int .u64 (4294967296 * ((0:Nat):Int)+((1:Nat):Int))]) func197 ht rfl (ay.resume (c':=⟨0,.normal,none,0,[],_⟩) rfl vP rfl (.put rfl) ?_ rfl)
  refine ay.lv 1 ?_
  refine ay.aU ?_
  refine Wc (F:=F) (v:=0) (w:=1) rfl rfl (by omega) (by omega) ?_ ?_
  ·exact bS.sub ⟨rfl,rfl,rfl,rfl,trivial⟩
  refine ay.is 94 (v':=.bool false) rfl rfl ?_
  refine ay.dW rfl ?_
  refine ay.skip ?_
  refine ay.seq ?_
  refine ay.seq ?_
  refine ay.rg [0,1,2,3,4,5] ?_
  refine ay.lv 3 ?_
  refine ay.enter rfl rfl rfl rfl rfl func199 (by decide +kernel) rfl rfl rfl λ axG KC=>?_
  refine ay.seq ?_
  refine ay.rg [0] ?_
  refine ay.lv 1 ?_
  refine ay.aU ?_
  refine ay.seq ?_
  refine ay.rg [0,1,2,3,4] ?_
  refine ay.lv 3 ?_
  refine sQ λ m hm=>KW.ext rfl rfl rfl rfl Pb rfl rfl λ _ w s _ bh _ lI=>.inr ⟨_,_,_,.d3,_,JZ bh.cg,.d2,trivial,vo (.inr rfl),bV.refl bh,λ aZ bd=>(?_:ay (TQ F m k j .d3 R H) _ _ _) aZ bd⟩
  obtain ⟨g1,g2⟩:=lI
  refine ay.lv 1 ?_
  refine ay.is 2 (v':=.int .u64 (4294967296 * ((0:Nat):Int)+((1:Nat):Int))) rfl (congrArg _ (by rw [Ei,g1,g2])) ?_
  refine ay.aU ?_
  refine ay.ret rfl λ tmps ht=>QJ.back (J:=TQ F m k j .d3 R H) (vs:=[.int .u64 (4294967296 * ((0:Nat):Int)+((1:Nat):Int))]) func199 ht rfl (ay.resume (c':=⟨0,.normal,none,0,[],_⟩) rfl KC rfl (.put rfl) ?_ rfl)
  refine ay.lv 2 ?_
  refine ay.aU ?_
  refine ay.is 100 (v':=.bool false) rfl rfl ?_
  refine ay.dW rfl ?_
  refine ay.skip ?_
  refine ay.seq ?_
  refine ay.rg [0,1,2,3] ?_
  refine ay.lv 3 ?_
  refine ay.enter rfl rfl rfl rfl rfl func200 (by decide +kernel) rfl rfl rfl λ axH RZ=>?_
  refine ay.rg [0,1,2,3,4] ?_
  refine ay.lv 4 ?_
  refine sQ λ m hm=>KW.ext rfl rfl rfl rfl aiW rfl rfl λ _ w s _ bh _ lI=>.inr ⟨_,_,_,.d4,_,ah6 bh.cg (bh.zg 0),.d3,trivial,afP (.inr rfl),bV.wg (v:=0) (u:=0) bh,λ aZ bd=>(?_:ay (TQ F m k j .d4 R H) _ _ _) aZ bd⟩
  refine ay.aU ?_
  refine ay.OP rfl λ tmps ht=>QJ.back (J:=TQ F m k j .d4 R H) (vs:=[]) func200 ht rfl (ay.resume (c':=⟨0,.normal,none,0,[],_⟩) rfl RZ rfl (.put rfl) ?_ rfl)
  refine ay.aU ?_
  refine ay.seq ?_
  refine ay.seq ?_
  refine ay.rg [0] ?_
  refine ay.lv 1 ?_
  refine ay.aU ?_
  refine ay.dW rfl ?_
  refine ay.skip ?_
  refine ay.block ?_
  refine ay.enterLoop ?_
  refine ay.seq ?_
  refine ay.seq ?_
  refine ay.rg [0,1] ?_
  refine ay.lv 2 ?_
  refine ay.aU ?_
  refine ay.is 110 (v':=.bool true) rfl rfl ?_
  refine ay.fe rfl ?_
  refine ay.skip ?_
  refine ay.seq ?_
  refine ay.block ?_
  refine ay.rg [0,1,2,3] ?_
  refine ay.lv 3 ?_
  refine sQ λ m hm=>KW.ext rfl rfl rfl rfl aiT rfl rfl λ _ w s _ bh _ lI=>.inr ⟨_,_,_,.quit,_,O1 rfl bh.JF (bh.zg 1),.d4,trivial,E9 (.inr rfl),agG bh lI,λ aZ bd=>(?_:ay (wB prog 1) _ _ _) aZ bd⟩
  refine ay.aU ?_
  refine ay.inBlock ?_
  refine ay.rg [0,1,2] ?_
  refine ay.lv 3 ?_
  refine ay.aU ?_
  refine ay.is 8 (v':=.int .u32 0) rfl rfl ?_
  refine ay.inLoop ?_
  refine ay.seq ?_
  refine ay.seq ?_
  refine ay.rg [0,1] ?_
  refine ay.lv 2 ?_
  refine ay.aU ?_
  refine ay.is 110 (v':=.bool false) rfl rfl ?_
  refine ay.dW rfl ?_
  refine ay.exit rfl ?_
  exact Wb hk (.inl rfl)
theorem agC{fr:Frame}{cs:List Frame}(yg:fr.mode = .returning∨fr.mode = .panicking [goexitEntry])(hk:Gone (aX fr cs))(n:Nat):(WJ F n k j .wv).J R H (aX (Frame.enter prog 171 #[pw F] .deferred) (fr::cs)):=by
 refine Jd.enter (args:=[pw F]) func171 rfl rfl rfl ?_
 refine U.rg [0,1] ?_
 refine U.lv 1 ?_
 refine U.uG rfl rfl rfl rfl rfl XX rfl (ays n) λ aZ bd=>(?_:ay (wB prog 0) _ _ _) aZ bd
 refine ay.aU ?_
 exact ay.OP rfl λ tmps ht=>QJ.WM (J:=wB prog 0) func171 ht rfl yg hk
end
section
variable {P:Program} {B:Base} {main:Bool} {ab:Jd P B main} {c:Ctx} {R:av} {H:ai} {st st':St} {k:List Item} {ops:Array Oper} {i:Nat} {rest:List Nat} {o:Oper} {v:Value}
theorem U.KX{f:FuncId}{fn:Func}{body:Code}{xs:Array Operand}{gL:Array TypeId}{vs:List Value}{n:Nat}(ho:ops[i]? = some o)(hw:cF ops st o=some true)(hk:(c.kind == CallKind.early)=false)(an:o.op = .call ⟨.value (.func f),xs,gL⟩)(ha:ia st xs.toList=some vs)
  (hf:P.funcs[f]? = some fn) (Gi:(fn.name == "runtime.NumGoroutine")=false) (hb:fn.body=some body) (pX:fn.ntmps=n) (hn:Nat.ble vs.length n=true)
  (h:∀ tmps,cL c.n st tmps→U ab ⟨f,.normal,none,n,[],aV c tmps (.inRegion ops (i::rest)::k)::c.cs⟩ R H (tB 0 vs) [.code body]):U ab c R H st (.inRegion ops (i::rest)::k):=λ tmps ht=>by
 have hv:ah P (execOp (aV c tmps (.inRegion ops (i::rest)::k)).eval o) (.enter f vs.toArray):=by
  rw [Cs an ht ha]
  exact Bs hf Gi (by rw [hb]; rfl)
 refine Jd.ctl rfl (λ w=>?_) (Jd.enter hf hb pX hn (h tmps ht))
 rw [oN ho (jY ht hw) (by rw [an]; rfl),E7 rfl (by simpa [aV] using hk) (hv w).1,(hv w).2]
 rfl
theorem U.Be{tmps:Array Value}{f:FuncId}{fn:Func}{n:Nat}{vs:List Value}{stf:St}{kf:List Item}(hf:P.funcs[f]? = some fn)(hr:wD stf fn.results.toList=some vs)(ho:ops[i]? = some o)(ht:cL c.n st tmps)(hd:bQ o.dst c.n)(hs:aF (bT o.dst (gG vs) st) st')(h:U ab c R H st' (.inRegion ops rest::k)) :
  U ab ⟨f,.normal,none,n,[],aV c tmps (.inRegion ops (i::rest)::k)::c.cs⟩ R H stf (.code .ret::kf) :=
 U.Uc rfl λ aZ bd=>Jd.back hf bd hr (by rw [pa ho]; exact h _ ((ht.put _ hd).sub hs))
end
end Go.Proofs.YtihapemckcdicaaGreatDoor
namespace Go.Proofs.YtihapemckcdicaaGreatDoor
open Go.Lg Go.Proofs Go.Conc Go.ConcN Tryz
set_option maxRecDepth 100000
set_option maxHeartbeats 4000000
section
variable {F:Fx} {R:av} {H:ai}
noncomputable abbrev fO (F:Fx) (n:Nat) (T:Mp):=HW prog F.B true (KM (FT F) n T)
theorem sM{c:Ctx}{st:St}{todo:List Item}{n:Nat}{T:Mp}(h:∀ m,m < n→∀ tmps,cL c.n st tmps→KM (FT F) (m+1) T R H (aX (aV c tmps todo) c.cs)):U (fO F n T) c R H st todo:=U.axw (F:=FT F) h
def VC(F:Fx)(r:Nat)(R:av)(H:ai)(g:Goroutine):Prop:=∀ n,Own prog F.B true (KM (FT F) n (.go r)) R H g
noncomputable def t22:Code:=match DG with | .seq _ (.seq _ (.seq _ (.seq _ y)))=>y | _=>.skip
noncomputable def agr:Code:=match DG with | .seq _ (.seq _ (.seq _ (.seq (.seq _ x) _)))=>x | _=>.skip
theorem aau{r:Nat}{fr:Frame}{cs:List Frame}{args:Array Value}{st:St}{v:Nat}(hk:VC F r R H (aX (fr.finish (gG [])) cs))(h1:1≤v)(h5:v≤5)(cJ:aF st [(0,pw F),(1,.int .i64 1),(7,.int .i32 (v:Int)),(8,.int .u32 0)])(n:Nat) :
  U (fO F n (.ke r)) ⟨169,.normal,none,117,[dcall 192 args],fr::cs⟩ R H st [.code t22]:=by
 refine U.sub cJ ?_
 refine U.seq ?_
 refine U.seq ?_
 refine U.rg [0,1] ?_
 refine U.lv 2 ?_
 refine U.aU ?_
 refine U.is 74 (v':=.bool false) rfl (congrArg Value.bool (by rw [decide_eq_false_iff_not]; omega)) ?_
 refine U.dW rfl rfl ?_
 refine U.skip ?_
 refine U.seq ?_
 refine U.seq ?_
 refine U.rg [0,1,2,3,4,5,6,7,8,9,10,11] ?_
 refine U.lv 3 ?_
 refine U.is 78 (v':=.bool false) rfl rfl ?_
 refine U.lv 9 ?_
 refine U.aU ?_
 refine U.dW rfl rfl ?_
 refine U.skip ?_
 refine U.seq ?_
 refine U.seq ?_
 refine U.rg [0,1,2,3,4,5] ?_
 refine U.lv 3 ?_
 refine U.is 91 (v':=.bool true) rfl (congrArg Value.bool (by rw [decide_eq_true_iff]; omega)) ?_
 refine U.lv 3 ?_
 refine U.aU ?_
 refine U.fe rfl rfl ?_
 refine U.Uc rfl λ tmps ht=>?_
 cases n with
 | zero=>exact Own.stop _ _ _ _ trivial
 | succ n=>exact Own.stop _ _ _ _ (KM.unwind (F:=FT F) rfl zL (Jd.back (ab:=fO F n (.go r)) func169 ht rfl (hk n)))
theorem au6(r n:Nat):j5 prog ((fO F n (.ka r)).J R H) (VC F r R H) 169 [pw F,.int .i64 1]:=j5.bl func169 rfl rfl rfl λ fr cs hk=>by
 have hN:=F.hN
 refine U.seq ?_
 refine U.fe rfl rfl ?_
 refine U.seq ?_
 refine U.seq ?_
 refine U.rg [0,1] ?_
 refine U.lv 2 ?_
 refine U.aU ?_
 refine U.dW rfl (by decide) ?_
 refine U.skip ?_
 refine U.seq ?_
 refine U.rg [0] ?_
 refine sM λ m hm=>KM.ext rfl rfl rfl rfl FG rfl rfl (by simp) (by simp) λ w s _ bh _=>.inr ⟨_,w,_,.kc r,s,pQ (by simp),.ka,rfl,bV.refl bh,λ aZ bd=>(?_:U (fO F m (.kc r)) _ _ _ _ _) aZ bd⟩
 refine U.aU ?_
 refine U.rg [0] ?_
 refine U.defer rfl rfl rfl rfl rfl rfl rfl (.Lv rfl) ?_
 refine U.aU ?_
 refine U.seq ?_
 refine U.rg [0] ?_
 refine U.lv 1 ?_
 refine U.aU ?_
 refine U.seq ?_
 refine U.seq ?_
 refine U.rg [0] ?_
 refine U.ext rfl rfl rfl rfl rfl Yt rfl (λ w=>O0) (.put rfl) ?_
 refine U.aU ?_
 refine U.dW rfl rfl ?_
 refine U.skip ?_
 refine U.seq ?_
 refine U.rg [0,1,2,3,4,5,6,7] ?_
 refine U.lv 6 ?_
 refine U.is 42 (v':=.int .u64 4294967296) rfl (congrArg _ (by decide +kernel)) ?_
 refine U.KX rfl rfl rfl rfl rfl func197 (by decide +kernel) rfl rfl rfl λ abI vP=>?_
 refine U.seq ?_
 refine U.rg [0] ?_
 refine U.lv 1 ?_
 refine U.aU ?_
 refine U.seq ?_
 refine U.rg [0,1,2,3,4,5] ?_
 refine U.lv 4 ?_
 refine sM λ m hm=>KM.ext rfl rfl rfl rfl Yu rfl rfl (by simp) (by simp) λ w s _ bh lI=>.inr ?_
 obtain ⟨w0,v1⟩:=lI
 have v1':s.v+1≤F.N:=v1
 have ev:IntKind.u64.wrap (w8 s+4294967296)=4294967296 * ((s.v+1:Nat):Int)+((0:Nat):Int):=by rw [Ei,acG (by omega) (by omega)]; omega
 obtain ⟨g1,g2,g3⟩:=Uy (v:=s.v+1) (w:=0) (by omega) (by omega)
 have gs:(4294967296 * ((s.v+1:Nat):Int)+((0:Nat):Int)).fdiv (2 ^ (min (32:Int).toNat IntKind.u64.bits))=((s.v+1:Nat):Int):=by simpa [lR] using g3
 have acD:bV (FT F) { s with v:=s.v+1 } w (w.setCell (aw F) (.int .u64 (IntKind.u64.wrap (w8 s+4294967296)))):=by
  rw [ev]; have:=bV.wg (F:=FT F) (v:=s.v+1) (u:=0) bh
  rw [show ({ s with v:=s.v+1 }:Sh)={ s with v:=s.v+1,w:=0 } by rw [← w0]]; exact this
 have go:∀ (T:Mp) (hT:U (fO F m T) ⟨169,.normal,none,117,[dcall 192 #[]],fr::cs⟩ R H [(0,pw F),(1,.int .i64 1),(7,.int .i32 ((s.v+1:Nat):Int)),(8,.int .u32 0),(67,.bool (decide (s.v+1=1)))] [.code agr,.code t22]) (st:St),
   aF st [(0,pw F),(1,.int .i64 1),(4,.bool false),(6,.int .u64 (4294967296 * ((s.v+1:Nat):Int)+((0:Nat):Int)))]→U (fO F m T) ⟨169,.normal,none,117,[dcall 192 #[]],fr::cs⟩ R H st [.code DG]:=by
  intro T hT st cJ
  refine U.sub cJ ?_
  refine U.seq ?_
  refine U.seq ?_
  refine U.rg [0,1,2,3,4,5,6] ?_
  refine U.lv 4 ?_
  refine U.is 47 (v':=.bool false) rfl (Jw g1 rfl) ?_
  refine U.lv 3 ?_
  refine U.aU ?_
  refine U.dW rfl rfl ?_
  refine U.skip ?_
  refine U.seq ?_
  refine U.rg [0,1,2,3] ?_
  refine U.lv 4 ?_
  refine U.aU ?_
  refine U.is 7 (v':=.int .i32 ((s.v+1:Nat):Int)) rfl (congrArg _ (by
   show IntKind.i32.wrap ((4294967296 * ((s.v+1:Nat):Int)+((0:Nat):Int)).fdiv (2 ^ (min (32:Int).toNat IntKind.u64.bits)))=_
   rw [gs,wrap_i32 (by omega) (by omega)])) ?_
  refine U.seq ?_
  refine U.rg [0,1,2,3] ?_
  refine U.lv 4 ?_
  refine U.aU ?_
  refine U.is 8 (v':=.int .u32 0) rfl (congrArg _ (by rw [g2,Option.getD_some]; exact wrap_u32 (by omega) (by omega))) ?_
  refine U.seq ?_
  refine U.seq ?_
  refine U.rg [0,1,2,3,4,5,6,7,8,9] ?_
  refine U.lv 5 ?_
  refine U.is 62 (v':=.bool true) rfl (congrArg Value.bool (by decide)) ?_
  refine U.lv 4 ?_
  refine U.is 66 (v':=.bool (decide (s.v+1=1))) rfl (congrArg Value.bool (WQ (by rw [wrap_i32 (by omega) (by omega)]; omega))) ?_
  refine U.lv 1 ?_
  refine U.aU ?_
  refine U.sub ?_ hT
  exact bS.sub ⟨rfl,rfl,rfl,rfl,rfl,trivial⟩
 by_cases hv:s.v=0
 ·refine ⟨_,_,_,.kv r,{ s with v:=1 },xU bh.cg (bh.zg 0),.kc1 hv,o6 (.inr rfl),by have:=acD; simp only [hv] at this; exact this,λ aZ bd=>(?_:U (fO F m (.kv r)) _ _ _ _ _) aZ bd⟩
  refine U.lv 1 ?_
  refine U.is 4 (v':=.int .u64 (4294967296 * ((s.v+1:Nat):Int)+((0:Nat):Int))) rfl (congrArg _ ev) ?_
  refine U.aU ?_
  refine U.Be func197 rfl rfl vP rfl (.put rfl) ?_
  refine U.lv 1 ?_
  refine U.aU ?_
  refine go _ ?_ _ ?_
  ·refine U.fe rfl (by rw [decide_eq_true_iff]; omega) ?_
   refine U.rg [0,1,2,3,4] ?_
   refine U.lv 3 ?_
   refine sM λ m hm=>KM.conv rfl rfl rfl rfl rfl abM rfl Wu (by simp) (by simp) o5 (λ _=>.kv) λ aZ bd=>(?_:U (fO F m (.kd r)) _ _ _ _ _) aZ bd
   refine sM λ m hm=>KM.ext rfl rfl rfl rfl aiS rfl rfl (by simp) (by simp) λ w s1 _ Ae _=>.inr ⟨_,w,_,.ke r,s1,zH (λ _ _=>by simp) rfl,.kd,rfl,bV.refl Ae,λ aZ bd=>(?_:U (fO F m (.ke r)) _ _ _ _ _) aZ bd⟩
   refine U.aU ?_
   refine aau hk (v:=s.v+1) (by omega) (by omega) ?_ m
   exact bS.sub ⟨rfl,rfl,rfl,rfl,trivial⟩
  ·exact bS.sub ⟨rfl,rfl,rfl,rfl,trivial⟩
 ·refine ⟨_,_,_,.ke r,_,xU bh.cg (bh.zg 0),.kcn hv,o6 (.inr rfl),acD,λ aZ bd=>(?_:U (fO F m (.ke r)) _ _ _ _ _) aZ bd⟩
  refine U.lv 1 ?_
  refine U.is 4 (v':=.int .u64 (4294967296 * ((s.v+1:Nat):Int)+((0:Nat):Int))) rfl (congrArg _ ev) ?_
  refine U.aU ?_
  refine U.Be func197 rfl rfl vP rfl (.put rfl) ?_
  refine U.lv 1 ?_
  refine U.aU ?_
  refine go _ ?_ _ ?_
  ·refine U.dW rfl (by rw [decide_eq_false_iff_not]; omega) ?_
   refine U.skip ?_
   refine aau hk (v:=s.v+1) (by omega) (by omega) ?_ m
   exact bS.sub ⟨rfl,rfl,rfl,rfl,trivial⟩
  ·exact bS.sub ⟨rfl,rfl,rfl,rfl,trivial⟩
end
end Go.Proofs.YtihapemckcdicaaGreatDoor
namespace Go.Proofs.YtihapemckcdicaaGreatDoor
open Go.Lg Go.Proofs Go.Conc Go.ConcN Tryz
set_option maxRecDepth 100000
set_option maxHeartbeats 4000000
section
variable {F:Fx} {R:av} {H:ai} {Post:Value→World→Prop}
def V7(F:Fx)(R:av)(H:ai)(g:Goroutine):Prop:=∀ js,(∀ k,k < F.N→js k=F.J)→F.mj R ((F.bo,F.cont js)::H) g
noncomputable def Z1:Code:=(uE (Tryz.f175.body.getD .skip)).getD .skip
abbrev ayt(fr:Frame)(cs:List Frame):Ctx:=⟨175,.normal,none,84,[],fr::cs⟩
theorem ayu(qU:F.mj=hU prog F.B Post){fr:Frame}{cs:List Frame}{todo:List Item}(hk:V7 F R H (aX (fr.finish (gG [])) cs))(n:Nat):U (fO F n .w1) (ayt fr cs) R H [(0,pw F)] (.code Z1 :: .inLoop Z1::todo):=by
 have hN:=F.hN
 refine U.head (X:=Unit) (Jn:=λ n _=>fO F n .w1) (S:=λ _=>[(0,pw F)]) (ok:=λ _=>True) (λ n ih _ _=>?_) n () trivial
 refine U.block ?_
 refine U.seq ?_
 refine U.rg [0,1,2,3,4] ?_
 refine U.lv 3 ?_
 refine U.KX rfl rfl rfl rfl rfl func199 (by decide +kernel) rfl rfl rfl λ abI vP=>?_
 refine U.seq ?_
 refine U.rg [0] ?_
 refine U.lv 1 ?_
 refine U.aU ?_
 refine U.seq ?_
 refine U.rg [0,1,2,3,4] ?_
 refine U.lv 3 ?_
 refine sM λ m hm=>KM.ext rfl rfl rfl rfl Pb rfl rfl (by simp) (by simp) λ w s _ bh lI=>.inr ?_
 obtain ⟨w0,v1⟩:=lI
 have v1':s.v≤F.N:=v1
 have ev:w8 s=4294967296 * (s.v:Int)+((0:Nat):Int):=by rw [Ei,w0]
 obtain ⟨g1,g2,g3⟩:=Uy (v:=s.v) (w:=0) (by omega) (by omega)
 have gs:(4294967296 * (s.v:Int)+((0:Nat):Int)).fdiv (2 ^ (min (32:Int).toNat IntKind.u64.bits))=(s.v:Int):=by simpa [lR] using g3
 by_cases hv:s.v=0
 ·refine ⟨_,_,_,.we,s,JZ bh.cg,.w1z hv,vo (.inr rfl),bV.refl bh,λ aZ bd=>(?_:U (fO F m .we) _ _ _ _ _) aZ bd⟩
  refine U.lv 1 ?_
  refine U.is 2 (v':=.int .u64 (4294967296 * (s.v:Int)+((0:Nat):Int))) rfl (congrArg _ ev) ?_
  refine U.aU ?_
  refine U.Be func199 rfl rfl vP rfl (.put rfl) ?_
  refine U.lv 1 ?_
  refine U.aU ?_
  refine U.seq ?_
  refine U.rg [0,1,2,3] ?_
  refine U.lv 4 ?_
  refine U.aU ?_
  refine U.is 3 (v':=.int .i32 (s.v:Int)) rfl (congrArg _ (by
   show IntKind.i32.wrap ((4294967296 * (s.v:Int)+((0:Nat):Int)).fdiv (2 ^ (min (32:Int).toNat IntKind.u64.bits)))=_
   rw [gs,wrap_i32 (by omega) (by omega)])) ?_
  refine U.seq ?_
  refine U.rg [0,1,2,3] ?_
  refine U.lv 4 ?_
  refine U.aU ?_
  refine U.is 4 (v':=.int .u32 0) rfl (congrArg _ (by rw [g2,Option.getD_some]; exact wrap_u32 (by omega) (by omega))) ?_
  refine U.seq ?_
  refine U.seq ?_
  refine U.rg [0,1] ?_
  refine U.lv 2 ?_
  refine U.aU ?_
  refine U.is 19 (v':=.bool true) rfl (congrArg Value.bool (by rw [hv]; rfl)) ?_
  refine U.fe rfl rfl ?_
  refine U.seq ?_
  refine U.fe rfl rfl ?_
  refine U.seq ?_
  refine U.rg [0] ?_
  refine sM λ m hm=>KM.ext rfl rfl rfl rfl zL rfl rfl (by simp) (by simp) λ w s1 _ Ae _=>.inr ⟨_,w,_,.qv,s1,pQ (by simp),.we,rfl,bV.refl Ae,λ aZ bd=>(?_:U (fO F m .qv) _ _ _ _ _) aZ bd⟩
  refine U.aU ?_
  refine U.rg [0,1,2] ?_
  refine U.lv 1 ?_
  refine sM λ m hm=>KM.conv rfl rfl rfl rfl rfl Ue rfl NY (by simp) (by simp) o5 (λ _=>.qv) λ aZ bd=>(?_:U (fO F m .wq) _ _ _ _ _) aZ bd
  refine sM λ m hm=>KM.acq rfl rfl rfl rfl J2 rfl rfl rfl λ js gE aZ bd=>?_
  have dy:=hk js gE
  show F.mj _ _ _
  rw [qU] at dy ⊢
  refine (?_:U (A6 prog F.B Post) _ _ _ _ _) aZ bd
  refine U.aU ?_
  refine U.seq ?_
  refine U.seq ?_
  refine U.rg [0,1,2,3,4,5,6,7,8,9,10] ?_
  refine U.lv 2 ?_
  refine U.is 25 (v':=.bool true) rfl rfl ?_
  refine U.lv 4 ?_
  refine U.is 29 (v':=.bool false) rfl (Jw g1 rfl) ?_
  refine U.lv 5 ?_
  refine U.aU ?_
  refine U.dW rfl rfl ?_
  refine U.skip ?_
  exact U.o7 func175 rfl dy (.inr ⟨_,rfl⟩)
 ·refine ⟨_,_,_,.w2 s.v,s,JZ bh.cg,.w1n hv,vo (.inr rfl),bV.refl bh,λ aZ bd=>(?_:U (fO F m (.w2 s.v)) _ _ _ _ _) aZ bd⟩
  refine U.lv 1 ?_
  refine U.is 2 (v':=.int .u64 (4294967296 * (s.v:Int)+((0:Nat):Int))) rfl (congrArg _ ev) ?_
  refine U.aU ?_
  refine U.Be func199 rfl rfl vP rfl (.put rfl) ?_
  refine U.sub (st':=[(0,pw F),(11,.int .u64 (4294967296 * (s.v:Int)+((0:Nat):Int)))]) (bS.sub ⟨rfl,rfl,trivial⟩) ?_
  clear ev bh bd vP
  generalize s.v=u at hv v1' g1 g2 g3 gs v1 ⊢
  refine U.lv 1 ?_
  refine U.aU ?_
  refine U.seq ?_
  refine U.rg [0,1,2,3] ?_
  refine U.lv 4 ?_
  refine U.aU ?_
  refine U.is 3 (v':=.int .i32 (u:Int)) rfl (congrArg _ (by
   show IntKind.i32.wrap ((4294967296 * (u:Int)+((0:Nat):Int)).fdiv (2 ^ (min (32:Int).toNat IntKind.u64.bits)))=_
   rw [gs,wrap_i32 (by omega) (by omega)])) ?_
  refine U.seq ?_
  refine U.rg [0,1,2,3] ?_
  refine U.lv 4 ?_
  refine U.aU ?_
  refine U.is 4 (v':=.int .u32 0) rfl (congrArg _ (by rw [g2,Option.getD_some]; exact wrap_u32 (by omega) (by omega))) ?_
  refine U.seq ?_
  refine U.seq ?_
  refine U.rg [0,1] ?_
  refine U.lv 2 ?_
  refine U.aU ?_
  refine U.is 19 (v':=.bool false) rfl (congrArg Value.bool (by rw [beq_eq_false_iff_ne]; omega)) ?_
  refine U.dW rfl rfl ?_
  refine U.skip ?_
  refine U.seq ?_
  refine U.rg [0,1,2,3,4,5,6] ?_
  refine U.lv 6 ?_
  refine U.is 47 (v':=.int .u64 (4294967296 * (u:Int)+((1:Nat):Int))) rfl (congrArg _ (by rw [acG (by omega) (by omega)]; omega)) ?_
  refine U.KX rfl rfl rfl rfl rfl func207 (by decide +kernel) rfl rfl rfl λ axG KC=>?_
  refine U.seq ?_
  refine U.rg [0] ?_
  refine U.lv 1 ?_
  refine U.aU ?_
  refine U.seq ?_
  refine U.rg [0,1,2,3,4,5,6] ?_
  refine U.lv 5 ?_
  refine sM λ p hp=>KM.ext rfl rfl rfl rfl aiX rfl rfl (by simp) (by simp) λ w s2 _ Gn lI=>.inr ?_
  obtain ⟨y0,y1,y2⟩:=lI
  have ev2:w8 s2=4294967296 * (s2.v:Int)+((0:Nat):Int):=by rw [Ei,y0]
  have PK:=Gn.cg
  rw [ev2] at PK
  by_cases he:s2.v=u
  ·subst he
   refine ⟨.bool true,_,_,.wV,{ s2 with w:=1 },Cp PK (Gn.zg 0),.acy,o6 (.inr rfl),bV.wg (v:=s2.v) (u:=1) Gn,λ aZ bd=>(?_:U (fO F p .wV) _ _ _ _ _) aZ bd⟩
   refine U.lv 1 ?_
   refine U.aU ?_
   refine U.Be func207 rfl rfl KC rfl (.put rfl) ?_
   refine U.aU ?_
   refine U.fe rfl rfl ?_
   refine U.seq ?_
   refine U.seq ?_
   refine U.rg [0,1,2,3] ?_
   refine U.lv 3 ?_
   refine U.is 51 (v':=.bool true) rfl rfl ?_
   refine U.lv 1 ?_
   refine U.aU ?_
   refine U.fe rfl rfl ?_
   refine U.rg [0,1,2,3,4] ?_
   refine U.lv 3 ?_
   refine sM λ m hm=>KM.conv rfl rfl rfl rfl rfl abM rfl Wu (by simp) (by simp) o5 (λ _=>.wV) λ aZ bd=>(?_:U (fO F m .wW) _ _ _ _ _) aZ bd
   refine sM λ m hm=>KM.ext rfl rfl rfl rfl aiU rfl rfl (by simp) (by simp) λ w s1 _ Ae _=>.inr ⟨_,w,_,.w3,s1,zH (λ _ _=>by simp) rfl,.wW,rfl,bV.refl Ae,λ aZ bd=>(?_:U (fO F m .w3) _ _ _ _ _) aZ bd⟩
   refine U.aU ?_
   refine U.seq ?_
   refine U.rg [0] ?_
   refine U.lv 1 ?_
   refine U.aU ?_
   refine U.seq ?_
   refine U.seq ?_
   refine U.rg [0,1,2,3,4,5] ?_
   refine U.lv 3 ?_
   refine U.is 60 (v':=.bool false) rfl (Jw g1 rfl) ?_
   refine U.lv 3 ?_
   refine U.aU ?_
   refine U.dW rfl rfl ?_
   refine U.skip ?_
   refine U.seq ?_
   refine U.rg [0,1,2,3,4] ?_
   refine U.lv 4 ?_
   refine sM λ m hm=>KM.ext rfl rfl rfl rfl aiV rfl rfl (by simp) (by simp) λ w s3 _ pZ _=>?_
   cases jT:s3.ws with
   | zero=>exact .inl ⟨rfl,rfl,Wa rfl (by have e:=pZ.JF; rw [jT] at e; exact e)⟩
   | succ z =>
    have ea:((z+1:Nat):Int) - 1=(z:Int):=by omega
    refine .inr ⟨_,_,_,.w4,_,X7 (n:=((z+1:Nat):Int)) rfl (by have e:=pZ.JF; rw [jT] at e; exact e) (by omega) (pZ.zg 1),.w3 jT,E9 (.inr rfl),by rw [ea]; exact bV.ws pZ,λ aZ bd=>(?_:U (fO F m .w4) _ _ _ _ _) aZ bd⟩
    refine U.aU ?_
    refine U.seq ?_
    refine U.rg [0,1,2,3,4,5] ?_
    refine U.lv 3 ?_
    refine U.KX rfl rfl rfl rfl rfl func199 (by decide +kernel) rfl rfl rfl λ axH RZ=>?_
    refine U.seq ?_
    refine U.rg [0] ?_
    refine U.lv 1 ?_
    refine U.aU ?_
    refine U.seq ?_
    refine U.rg [0,1,2,3,4] ?_
    refine U.lv 3 ?_
    refine sM λ m hm=>KM.ext rfl rfl rfl rfl Pb rfl rfl (by simp) (by simp) λ w s4 _ Zo lI=>.inr ⟨_,_,_,.we,s4,JZ Zo.cg,.w4,vo (.inr rfl),bV.refl Zo,λ aZ bd=>(?_:U (fO F m .we) _ _ _ _ _) aZ bd⟩
    obtain ⟨z1,z2⟩:=lI
    refine U.lv 1 ?_
    refine U.is 2 (v':=.int .u64 0) rfl (congrArg _ (by rw [Ei,z1,z2]; rfl)) ?_
    refine U.aU ?_
    refine U.Be func199 rfl rfl RZ rfl (.put rfl) ?_
    refine U.lv 2 ?_
    refine U.aU ?_
    refine U.is 6 (v':=.bool false) rfl rfl ?_
    refine U.seq ?_
    refine U.fe rfl rfl ?_
    refine U.seq ?_
    refine U.rg [0] ?_
    refine sM λ m hm=>KM.ext rfl rfl rfl rfl zL rfl rfl (by simp) (by simp) λ w s1 _ Ae _=>.inr ⟨_,w,_,.qv,s1,pQ (by simp),.we,rfl,bV.refl Ae,λ aZ bd=>(?_:U (fO F m .qv) _ _ _ _ _) aZ bd⟩
    refine U.aU ?_
    refine U.rg [0,1,2] ?_
    refine U.lv 1 ?_
    refine sM λ m hm=>KM.conv rfl rfl rfl rfl rfl Ue rfl NY (by simp) (by simp) o5 (λ _=>.qv) λ aZ bd=>(?_:U (fO F m .wq) _ _ _ _ _) aZ bd
    refine sM λ m hm=>KM.acq rfl rfl rfl rfl J2 rfl rfl rfl λ js gE aZ bd=>?_
    have dy:=hk js gE
    show F.mj _ _ _
    rw [qU] at dy ⊢
    refine (?_:U (A6 prog F.B Post) _ _ _ _ _) aZ bd
    refine U.aU ?_
    refine U.seq ?_
    refine U.seq ?_
    refine U.rg [0] ?_
    refine U.lv 1 ?_
    refine U.aU ?_
    refine U.dW rfl rfl ?_
    refine U.skip ?_
    exact U.o7 func175 rfl dy (.inr ⟨_,rfl⟩)
  ·refine ⟨.bool false,w,_,.w1,s2,FC PK (Gn.zg 0) (λ e=>he (by omega)),.acx he,vo (.inr rfl),bV.refl Gn,λ aZ bd=>(?_:U (fO F p .w1) _ _ _ _ _) aZ bd⟩
   refine U.lv 1 ?_
   refine U.aU ?_
   refine U.Be func207 rfl rfl KC rfl (.put rfl) ?_
   refine U.aU ?_
   refine U.dW rfl rfl ?_
   refine U.skip ?_
   refine U.inBlock ?_
   refine U.inLoop ?_
   refine U.sub ?_ (ih p (Nat.lt_trans hp hm) () trivial)
   exact bS.sub ⟨rfl,trivial⟩
theorem ayv(qU:F.mj=hU prog F.B Post)(n:Nat):j5 prog ((fO F n .wa).J R H) (V7 F R H) 175 [pw F]:=j5.bl func175 rfl rfl rfl λ fr cs hk=>by
 refine U.seq ?_
 refine U.fe rfl rfl ?_
 refine U.rg [0] ?_
 refine sM λ m hm=>KM.ext rfl rfl rfl rfl FG rfl rfl (by simp) (by simp) λ w s _ bh _=>.inr ⟨_,w,_,.w1,s,pQ (by simp),.wa,rfl,bV.refl bh,λ aZ bd=>(?_:U (fO F m .w1) _ _ _ _ _) aZ bd⟩
 refine U.aU ?_
 refine U.block ?_
 refine U.enterLoop ?_
 refine U.sub ?_ (ayu qU hk m)
 exact bS.sub ⟨rfl,trivial⟩
end
end Go.Proofs.YtihapemckcdicaaGreatDoor
namespace Go.Lg
open Go.Conc Go.ConcN
def mh(a:Nat→Nat→Bool)(js:Nat→Nat):List Value:=(List.range 16).map λ p=>.bool (decide (p / 4 < js (p % 4)) && a (p / 4) (p % 4))
theorem avO(a:Nat→Nat→Bool):mh a (λ _=>0)=List.replicate 16 (.bool false):=by
 simp [mh,List.range,List.range.loop,List.replicate]
theorem TF{a:Nat→Nat→Bool}{js:Nat→Nat}{p:Nat}(hp:p < 16):(mh a js)[p]? = some (.bool (decide (p / 4 < js (p % 4)) && a (p / 4) (p % 4))):=by
 simp [mh,hp]
theorem avN{a:Nat→Nat→Bool}{js:Nat→Nat}{k j:Nat}(hk:k < 4)(_:j < 4)(gE:js k=j):mh a (fS js k (j+1))=(mh a js).set (4 * j+k) (.bool (a j k)):=by
 have hl:∀ js,(mh a js).length=16:=λ js=>by simp [mh]
 apply List.ext_getElem?
 intro p
 rcases Nat.lt_or_ge p 16 with hp | hp
 ·rw [TF hp,List.getElem?_set,TF hp]
  by_cases e:4 * j+k=p
  ·subst e
   rw [if_pos rfl,if_pos (by rw [hl]; omega)]
   have e1:(4 * j+k) / 4=j:=by omega
   have e2:(4 * j+k) % 4=k:=by omega
   rw [e1,e2,rA]
   simp
  ·rw [if_neg e]
   by_cases e2:p % 4=k
   ·have e3:p / 4≠j:=by omega
    rw [e2,rA,gE]
    have:decide (p / 4 < j+1)=decide (p / 4 < j):=by
     by_cases h:p / 4 < j
     ·simp [h]; omega
     ·simp [h]; omega
    rw [this]
   ·rw [rz e2]
 ·rw [List.getElem?_eq_none (by rw [hl]; exact hp),List.getElem?_eq_none (by rw [List.length_set,hl]; exact hp)]
end Go.Lg
