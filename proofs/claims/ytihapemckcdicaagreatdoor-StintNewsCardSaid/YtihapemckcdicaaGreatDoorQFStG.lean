/- What sync does, walked for the machine. Conditions: none. -/
import Derived.Test.YtihapemckcdicaaGreatDoorQFLgE
import Derived.Test.YtihapemckcdicaaGreatDoorQFStF
namespace Go.Proofs.YtihapemckcdicaaGreatDoor
open Go.Lg Go.Proofs Go.Conc Tryz
set_option maxRecDepth 100000
theorem abn:gd prog 190 (Extern.Race.marked .releaseMerge):=⟨⟨Tryz.f190,func190,by kernel_rfl,by kernel_rfl,by kernel_rfl,by kernel_rfl⟩⟩
theorem Hk:gd prog 191 (λ _=>do mark .disable; pure Extern.Race.none_):=⟨⟨Tryz.f191,func191,by kernel_rfl,by kernel_rfl,by kernel_rfl,by kernel_rfl⟩⟩
theorem AX:gd prog 192 (λ _=>do mark .enable; pure Extern.Race.none_):=⟨⟨Tryz.f192,func192,by kernel_rfl,by kernel_rfl,by kernel_rfl,by kernel_rfl⟩⟩
theorem abo:gd prog 193 (λ _=>pure (.bool false)):=⟨⟨Tryz.f193,func193,by kernel_rfl,by kernel_rfl,by kernel_rfl,by kernel_rfl⟩⟩
theorem ame:gd prog 198 (Extern.Race.marked .read):=⟨⟨Tryz.f198,func198,by kernel_rfl,by kernel_rfl,by kernel_rfl,by kernel_rfl⟩⟩
theorem amf:gd prog 202 Extern.Sync.semrelease:=⟨⟨Tryz.f202,func202,by kernel_rfl,by kernel_rfl,by kernel_rfl,by kernel_rfl⟩⟩
theorem L2:gd prog 205 (Extern.Race.marked .acquire):=⟨⟨Tryz.f205,func205,by kernel_rfl,by kernel_rfl,by kernel_rfl,by kernel_rfl⟩⟩
theorem amg:gd prog 208 (Extern.Race.marked .write):=⟨⟨Tryz.f208,func208,by kernel_rfl,by kernel_rfl,by kernel_rfl,by kernel_rfl⟩⟩
theorem amh:gd prog 209 Extern.Sync.semacquire:=⟨⟨Tryz.f209,func209,by kernel_rfl,by kernel_rfl,by kernel_rfl,by kernel_rfl⟩⟩
theorem abp:gd prog 227 (Extern.Atomic.update (Op.intArith .add) .u64 true):=⟨⟨Tryz.f227,func227,by kernel_rfl,by kernel_rfl,by kernel_rfl,by kernel_rfl⟩⟩
theorem Rl:gd prog 228 (Extern.Atomic.loadT (.int .u64)):=⟨⟨Tryz.f228,func228,by kernel_rfl,by kernel_rfl,by kernel_rfl,by kernel_rfl⟩⟩
theorem ami:gd prog 229 Extern.Atomic.storeT:=⟨⟨Tryz.f229,func229,by kernel_rfl,by kernel_rfl,by kernel_rfl,by kernel_rfl⟩⟩
theorem L3:gd prog 230 (Extern.Atomic.casT (.int .i32)):=⟨⟨Tryz.f230,func230,by kernel_rfl,by kernel_rfl,by kernel_rfl,by kernel_rfl⟩⟩
theorem abq:gd prog 232 (Extern.Atomic.update (Op.intArith .add) .i32 true):=⟨⟨Tryz.f232,func232,by kernel_rfl,by kernel_rfl,by kernel_rfl,by kernel_rfl⟩⟩
theorem amj:gd prog 234 (Extern.Atomic.casT (.int .u64)):=⟨⟨Tryz.f234,func234,by kernel_rfl,by kernel_rfl,by kernel_rfl,by kernel_rfl⟩⟩
theorem amk:gd prog 241 Extern.Sync.canSpin:=⟨⟨Tryz.f241,func241,by kernel_rfl,by kernel_rfl,by kernel_rfl,by kernel_rfl⟩⟩
theorem aml:gd prog 242 Extern.Sync.nothing:=⟨⟨Tryz.f242,func242,by kernel_rfl,by kernel_rfl,by kernel_rfl,by kernel_rfl⟩⟩
theorem abr:gd prog 244 Extern.OsHooks.nano:=⟨⟨Tryz.f244,func244,by kernel_rfl,by kernel_rfl,by kernel_rfl,by kernel_rfl⟩⟩
theorem amm:gd prog 245 Extern.Sync.semacquire:=⟨⟨Tryz.f245,func245,by kernel_rfl,by kernel_rfl,by kernel_rfl,by kernel_rfl⟩⟩
theorem abt:gd prog 247 Extern.Sync.semrelease:=⟨⟨Tryz.f247,func247,by kernel_rfl,by kernel_rfl,by kernel_rfl,by kernel_rfl⟩⟩
def kiT:Nat→Option IntKind
 | 2 | 3=>some .i64
 | 21=>some .i32
 | 190=>some .u32
 | 197=>some .u64
 | _=>none
instance:sL prog:=⟨kiT,λ t k h=>by
 unfold kiT at h
 split at h
 ·cases h; exact underlying2
 ·cases h; exact underlying3
 ·cases h; exact underlying21
 ·cases h; exact underlying190
 ·cases h; exact underlying197
 ·cases h⟩
theorem Xw:DC prog 255 223:=⟨192,underlying255,underlying223,by kernel_rfl⟩
theorem Xv:DC prog 221 223:=⟨201,underlying221,underlying223,by kernel_rfl⟩
theorem ae3:DC prog 228 223:=⟨190,underlying228,underlying223,by kernel_rfl⟩
end Go.Proofs.YtihapemckcdicaaGreatDoor
namespace Go.Proofs.YtihapemckcdicaaGreatDoor
open Go.Lg Go.Proofs Go.Conc Tryz
set_option maxRecDepth 100000
set_option maxHeartbeats 4000000
noncomputable abbrev FT (F:Fx):Fx:={ F with P:=prog }
section
variable {F:Fx} {R:ax} {H:an} {k j:Nat} {fr:Frame} {cs:List Frame}
abbrev pm(F:Fx):Value:=.pointer (some (am F))
noncomputable abbrev WJ (F:Fx) (n k j:Nat) (T:Lp):=JV prog F.B false (KW (FT F) n k j T)
def yF(F:Fx)(k j:Nat)(R:ax)(H:an)(g:Goroutine):Prop:=∀ n js,js k=j→Own prog F.B false (KW (FT F) n k j (.ul js)) R ((F.bo,F.cont js)::H) g
theorem sW{c:Ctx}{st:St}{todo:List Item}{n:Nat}{T:Lp}(h:∀ m,m < n→∀ tmps,cQ c.n st tmps→KW (FT F) (m+1) k j T R H (aY (aW c tmps todo) c.cs)):U (WJ F n k j T) c R H st todo:=U.aD5 (F:=FT F) h
def Zx:Code→Option Code
 | .seq (.block _ _) r=>some r
 | .seq _ y=>Zx y
 | _=>none
def vx:Code→Option Code
 | .loop c=>some c
 | .seq x y=>match vx x with | some c=>some c | none=>vx y
 | .block _ c=>vx c
 | .cond _ x y=>match vx x with | some c=>some c | none=>vx y
 | _=>none
noncomputable def xQ:Code:=(Zx (Tryz.f231.body.getD .skip)).getD .skip
noncomputable def rV:Code:=(vx (Tryz.f231.body.getD .skip)).getD .skip
theorem aeJ(hk:yF F k j R H (aY (fr.finish (gZ [])) cs))(n:Nat):U (WJ F n k j .le) ⟨231,.normal,none,139,[],fr::cs⟩ R H [(0,pm F)] [.code xQ]:=by
 refine U.fu rfl rfl ?_
 refine U.seq ?_
 refine U.rg [0] ?_
 refine sW λ n _=>KW.ext rfl rfl rfl rfl AX rfl rfl λ _ w s _ bg _ _=>.inr ⟨_,w,_,.lc,s,qk (by simp),.le,trivial,rfl,cb.refl bg,λ ba bd=>(?_:U (WJ F n k j .lc) _ _ _ _ _) ba bd⟩
 refine U.aV ?_
 refine U.rg [0,1,2] ?_
 refine U.lv 1 ?_
 refine sW λ n _=>KW.conv rfl rfl rfl rfl rfl Xw rfl P7 ⟨by simp,by simp⟩ pF (λ _=>.lc) trivial λ ba bd=>(?_:U (WJ F n k j .la) _ _ _ _ _) ba bd
 refine sW λ n _=>KW.ext rfl rfl rfl rfl L2 rfl rfl λ _ w s _ bg _ _=>.inr ⟨_,w,_,.ul λ _=>0,s,AS (λ _ _=>by simp) rfl,.la,trivial,rfl,cb.refl bg,λ ba bd js gU=>(?_:U (WJ F n k j (.ul js)) _ _ _ _ _) ba bd⟩
 refine U.aV ?_
 exact U.pJ func231 rfl (hk n js gU) (.inl rfl)
theorem zQ{N N':Nat}{m:Wd}(h:m.ok N)(hn:N≤N'):m.ok N':=⟨h.1,h.2.1,h.2.2.1,Nat.le_trans h.2.2.2 hn⟩
def Aa(F:Fx)(c:Lc)(fU:Int):St:=[(0,pm F),(2,.int .i64 fU),(3,.bool c.sv),(4,.bool c.aw),(5,.int .i64 c.it),(6,.int .i32 c.old.val)]
def N8(F:Fx)(x:Lc × Int):Prop:=x.1.old.ok F.N∧(x.1.aw=true→x.1.old.w=1)∧x.1.ws=decide (x.2≠0)∧x.1.it≤4
theorem qi{b:Option Int}{z y:Int}{p:Bool}(h:b=some z)(hp:(z == y)=p):Value.bool (b.getD 0 == y) = .bool p:=by rw [h]; exact congrArg _ hp
noncomputable def JO:Code:=match rV with | .block _ (.seq _ y)=>y | _=>.skip
noncomputable def aDG:Code:=match rV with | .block _ (.seq (.seq _ (.cond _ (.seq _ z) _)) _)=>z | _=>.skip
abbrev z9(fr:Frame)(cs:List Frame):Ctx:=⟨231,.normal,none,139,[],fr::cs⟩
def uC(F:Fx)(k j:Nat)(R:ax)(H:an)(fr:Frame)(cs:List Frame)(m:Nat):Prop:=∀ x,N8 F x→U (WJ F m k j (hd x.1)) (z9 fr cs) R H (Aa F x.1 x.2) [.code rV,.inLoop rV,.inBlock 0,.code xQ]
theorem J8{n:Nat}(ih:∀ m,m < n→uC F k j R H fr cs m){old:Wd}{aw sv:Bool}{it:Nat}{ws:Bool}{fU:Int}(kl:ws=decide (fU≠0)){st:St}(cL:aF st [(0,pm F),(2,.int .i64 fU),(3,.bool sv),(4,.bool aw),(5,.int .i64 it)]) :
  U (WJ F n k j (.r1 ⟨old,aw,sv,it,ws⟩)) (z9 fr cs) R H st [.code aDG,.code JO,.inBlock 1,.inLoop rV,.inBlock 0,.code xQ]:=by
 refine U.sub cL ?_
 refine U.seq ?_
 refine U.rg [0] ?_
 refine U.ext rfl rfl rfl rfl rfl aml rfl (λ w=>Q8) (.put rfl) ?_
 refine U.aV ?_
 refine U.seq ?_
 refine U.rg [0,1,2] ?_
 refine U.lv 3 ?_
 refine U.aV ?_
 refine U.seq ?_
 refine U.rg [0,1,2,3,4] ?_
 refine U.lv 3 ?_
 refine sW λ m hm=>KW.look rfl rfl rfl rfl rfl Fv (by kernel_rfl) rfl ⟨by simp,by simp⟩ (λ _ h=>h) λ ot s hs=>⟨_,.r1,oy (by simp),λ ba bd=>Nz ((?_:U (WJ F m k j (hd ⟨s.mu,aw,sv,it+1,ws⟩)) _ _ _ _ _) ba bd)⟩
 obtain ⟨t1,t2,t3⟩:=ot
 dsimp only at t2
 refine U.lv 1 ?_
 refine U.aV ?_
 refine U.exit rfl ?_
 refine U.inLoop ?_
 refine U.is 5 (v':=.int .i64 ((it+1:Nat):Int)) rfl (by rw [show ((it+1:Nat):Int)=(it:Int)+1 by omega]; exact congrArg _ (afW (by constructor <;> omega))) ?_
 exact U.sub (st':=Aa F ⟨s.mu,aw,sv,it+1,ws⟩ fU) (bU.sub ⟨rfl,rfl,rfl,rfl,rfl,rfl,trivial⟩) (ih m hm (⟨s.mu,aw,sv,it+1,ws⟩,fU) ⟨hs.1,hs.2,kl,by dsimp only; omega⟩)
theorem aDz{n:Nat}(ih:∀ m,m < n→uC F k j R H fr cs m){old:Wd}{aw sv:Bool}{it:Nat}{ws:Bool}{fU:Int}(hx:N8 F (⟨old,aw,sv,it,ws⟩,fU))
  (ae0:∀ m,m≤n→∀ st,aF st (Aa F ⟨old,aw,sv,it,ws⟩ fU)→U (WJ F m k j (.c2 ⟨old,aw,sv,it,ws⟩)) (z9 fr cs) R H st [.code JO,.inBlock 1,.inLoop rV,.inBlock 0,.code xQ]) :
  U (WJ F n k j (hd ⟨old,aw,sv,it,ws⟩)) (z9 fr cs) R H (Aa F ⟨old,aw,sv,it,ws⟩ fU) [.code rV,.inLoop rV,.inBlock 0,.code xQ]:=by
 obtain ⟨iQ,uZ,kl,Mq⟩:=hx
 dsimp only at iQ uZ kl Mq
 have hN:=F.hN
 have h5:=zQ iQ (show F.N≤5 by omega)
 obtain ⟨b1,b2,b3,b4,b5,b7,o1,o2,o4,n2,s3⟩:=Wd.sA h5
 obtain ⟨q1,q2,q3,q4⟩:=h5
 refine U.block ?_
 refine U.seq ?_
 refine U.seq ?_
 refine U.rg [0,1,2,3,4,5,6] ?_
 refine U.lv 4 ?_
 by_cases hq:old.l=1∧old.s=0
 ·have QS:hd ⟨old,aw,sv,it,ws⟩ = .sq ⟨old,aw,sv,it,ws⟩:=if_pos hq
  rw [QS]
  refine U.is 17 (v':=.bool true) rfl (qi b5 (by simp [hq])) ?_
  refine U.lv 1 ?_
  refine sW λ m hm=>KW.ext rfl rfl rfl rfl amk rfl rfl λ _ w s _ bg _ _=>.inr ?_
  have no:∀ st,aF st (Aa F ⟨old,aw,sv,it,ws⟩ fU)→U (WJ F m k j (.c2 ⟨old,aw,sv,it,ws⟩)) (z9 fr cs) R H st [.code JO,.inBlock 1,.inLoop rV,.inBlock 0,.code xQ]:=λ st hs=>ae0 m (Nat.le_of_lt hm) st hs
  by_cases h4:4≤it
  ·refine ⟨.bool false,w,#[],.c2 _,s,ald (by dsimp only; omega),.Ob,trivial,pF,cb.refl bg,λ ba bd=>(?_:U (WJ F m k j (.c2 ⟨old,aw,sv,it,ws⟩)) _ _ _ _ _) ba bd⟩
   refine U.lv 1 ?_
   refine U.aV ?_
   refine U.eD rfl rfl ?_
   refine U.skip ?_
   exact no _ (bU.sub ⟨rfl,rfl,rfl,rfl,rfl,rfl,trivial⟩)
  ·cases hsp:w.spins
   ·refine ⟨.bool false,w.asked,#[],.c2 _,s,hsp ▸ aa1 (by dsimp only; omega),.Ob,trivial,pF,cb.asked bg,λ ba bd=>(?_:U (WJ F m k j (.c2 ⟨old,aw,sv,it,ws⟩)) _ _ _ _ _) ba bd⟩
    refine U.lv 1 ?_
    refine U.aV ?_
    refine U.eD rfl rfl ?_
    refine U.skip ?_
    exact no _ (bU.sub ⟨rfl,rfl,rfl,rfl,rfl,rfl,trivial⟩)
   ·refine ⟨.bool true,w.asked,#[],jb ⟨old,aw,sv,it,ws⟩,s,hsp ▸ aa1 (by dsimp only; omega),.x8 (by show it < 4; omega),oy (by simp),pF,cb.asked bg,λ ba bd=>aBE ((?_:U (WJ F m k j (jb ⟨old,aw,sv,it,ws⟩)) _ _ _ _ _) ba bd)⟩
    refine U.lv 1 ?_
    refine U.aV ?_
    refine U.fu rfl rfl ?_
    refine U.seq ?_
    refine U.seq ?_
    refine U.rg [0,1,2,3,4,5,6,7,8,9,10,11,12,13,14,15,16,17,18,19,20] ?_
    have tH:∀ m',m' < m→uC F k j R H fr cs m':=λ m' h'=>ih m' (Nat.lt_trans h' hm)
    have quiet:¬ (aw=false∧old.w=0∧old.n≠0)→jb ⟨old,aw,sv,it,ws⟩ = .r1 ⟨old,aw,sv,it,ws⟩:=λ h=>if_neg h
    cases aw
    case true =>
     rw [quiet (by simp)]
     refine U.lv 21 ?_
     refine U.aV ?_
     refine U.eD rfl rfl ?_
     refine U.skip ?_
     refine J8 tH kl ?_
     exact bU.sub ⟨rfl,rfl,rfl,rfl,rfl,trivial⟩
    case false =>
     refine U.lv 6 ?_
     by_cases UR:old.w=0
     case neg =>
      rw [quiet (by simp [UR])]
      refine U.is 26 (v':=.bool false) rfl (qi b2 (by rw [beq_eq_false_iff_ne]; omega)) ?_
      refine U.lv 15 ?_
      refine U.aV ?_
      refine U.eD rfl rfl ?_
      refine U.skip ?_
      refine J8 tH kl ?_
      exact bU.sub ⟨rfl,rfl,rfl,rfl,rfl,trivial⟩
     refine U.is 26 (v':=.bool true) rfl (qi b2 (by simp [UR])) ?_
     refine U.lv 5 ?_
     have qz:old.val.fdiv (2 ^ (min (3:Int).toNat IntKind.i32.bits))=(old.n:Int):=by simpa [nh] using s3
     by_cases Ek:old.n=0
     case pos =>
      rw [quiet (by simp [Ek])]
      refine U.is 31 (v':=.bool false) rfl (congrArg Value.bool (by show (old.val.fdiv (2 ^ (min (3:Int).toNat IntKind.i32.bits)) != 0)=false; rw [qz,Ek]; rfl)) ?_
      refine U.lv 10 ?_
      refine U.aV ?_
      refine U.eD rfl rfl ?_
      refine U.skip ?_
      refine J8 tH kl ?_
      exact bU.sub ⟨rfl,rfl,rfl,rfl,rfl,trivial⟩
     refine U.is 31 (v':=.bool true) rfl (congrArg Value.bool (by show (old.val.fdiv (2 ^ (min (3:Int).toNat IntKind.i32.bits)) != 0)=true; rw [qz,bne_iff_ne]; omega)) ?_
     rw [show jb ⟨old,false,sv,it,ws⟩ = .c1 ⟨old,false,sv,it,ws⟩ from if_pos ⟨rfl,UR,Ek⟩]
     refine U.lv 8 ?_
     refine U.is 39 (v':=.int .i32 (Wd.val { old with w:=1 })) rfl (by rw [o2]; rfl) ?_
     refine sW λ p hp=>KW.ext rfl rfl rfl rfl L3 rfl rfl λ _ w s _ bg hs _=>.inr ?_
     have hp':∀ m',m' < p→uC F k j R H fr cs m':=λ m' h'=>tH m' (Nat.lt_trans h' hp)
     by_cases df:s.mu=old
     ·subst df
      refine ⟨.bool true,_,_,.r1 ⟨s.mu,true,sv,it,ws⟩,_,DZ bg.cm (bg.zm 0),.Qy rfl,oy (by simp),pG (.inl rfl),cb.mu bg,λ ba bd=>(?_:U (WJ F p k j (.r1 ⟨s.mu,true,sv,it,ws⟩)) _ _ _ _ _) ba bd⟩
      refine U.lv 1 ?_
      refine U.aV ?_
      refine U.fu rfl rfl ?_
      refine U.rg [0] ?_
      refine U.lv 1 ?_
      refine U.aV ?_
      refine J8 hp' kl ?_
      exact bU.sub ⟨rfl,rfl,rfl,rfl,rfl,trivial⟩
     ·refine ⟨.bool false,w,_,.r1 ⟨old,false,sv,it,ws⟩,s,Hh bg.cm (bg.zm 0) (λ e=>df (Wd.val_inj hs.1 iQ e)),.Qx df,oy (by simp),wj (.inl rfl),cb.refl bg,λ ba bd=>(?_:U (WJ F p k j (.r1 ⟨old,false,sv,it,ws⟩)) _ _ _ _ _) ba bd⟩
      refine U.lv 1 ?_
      refine U.aV ?_
      refine U.eD rfl rfl ?_
      refine U.skip ?_
      refine J8 hp' kl ?_
      exact bU.sub ⟨rfl,rfl,rfl,rfl,rfl,trivial⟩
 ·have QS:hd ⟨old,aw,sv,it,ws⟩ = .c2 ⟨old,aw,sv,it,ws⟩:=if_neg hq
  rw [QS]
  refine U.is 17 (v':=.bool false) rfl (qi b5 (by rw [beq_eq_false_iff_ne]; show ¬ ((old.l:Int)+4 * old.s=1); omega)) ?_
  refine U.lv 3 ?_
  refine U.aV ?_
  refine U.eD rfl rfl ?_
  refine U.skip ?_
  exact ae0 n (Nat.le_refl _) _ (bU.sub ⟨rfl,rfl,rfl,rfl,rfl,rfl,trivial⟩)
def tT(o:Wd):Wd:={ o with l:=if o.s=0 then 1 else o.l }
def vH(o:Wd):Wd:={ tT o with n:=if o.l=1∨o.s=1 then o.n+1 else o.n }
def CA(o:Wd)(sv:Bool):Wd:={ vH o with s:=if sv=true∧o.l=1 then 1 else o.s }
theorem Zy{a b:Int}{p:Prop}[Decidable p](h:a=b↔p):(a == b)=decide p:=by
 by_cases hp:p
 ·rw [decide_eq_true hp]; exact beq_iff_eq.2 (h.2 hp)
 ·rw [decide_eq_false hp]; exact beq_eq_false_iff_ne.2 λ e=>hp (h.1 e)
theorem ZA{a b:Int}{p:Prop}[Decidable p](h:a≠b↔p):(a != b)=decide p:=by
 by_cases hp:p
 ·rw [decide_eq_true hp]; exact bne_iff_ne.2 (h.2 hp)
 ·rw [decide_eq_false hp,bne,beq_iff_eq.2 (Classical.byContradiction λ e=>hp (h.1 e))]; rfl
theorem AO{b:Option Int}{z y:Int}{p:Bool}(h:b=some z)(hp:(z != y)=p):Value.bool (b.getD 0 != y) = .bool p:=by rw [h]; exact congrArg _ hp
theorem MZ{b:Option Int}{z y:Int}(h:b=some z)(hp:z=y):Value.int .i32 (b.getD 0) = .int .i32 y:=by rw [h,← hp]; rfl
theorem U.mid{P:Program}{B:Base}{main:Bool}{ae:Jd P B main}{c:Ctx}{R:ax}{H:an}{st:St}{todo K:List Item}(S':St)(h1:(∀ st,aF st S'→U ae c R H st K)→U ae c R H st todo)(h2:U ae c R H S' K):U ae c R H st todo:=h1 λ _ hs=>U.sub hs h2
abbrev JP(F:Fx)(c:Lc)(fU:Int)(m:Wd):St:=(7,.int .i32 m.val)::Aa F c fU
noncomputable def ax3:Code:=match JO with | .seq _ (.seq _ (.seq _ (.seq _ (.seq _ (.seq _ (.cond _ x _))))))=>x | _=>.skip
noncomputable def abC:Code:=match ax3 with | .seq _ (.seq _ (.seq _ x))=>x | _=>.skip
noncomputable def amY:Code:=match abC with | .seq _ (.seq _ x)=>x | _=>.skip
theorem aFE{m:Wd}(h:m.ok 5)(hl:m.l=0)(hw:m.w=0)(hs:m.s=1)(hn:m.n≠0)(b:Bool):IntKind.i32.wrap (m.val+(if b then -7 else -11))=Wd.val ⟨1,m.w,if b then m.s else 0,m.n - 1⟩:=by
 obtain ⟨l,w,s,n⟩:=m
 dsimp only at hl hw hs hn
 subst hl hw hs
 have:=h.2.2.2
 dsimp only at this
 cases b
 ·rw [wrap_i32 (by simp only [Wd.val]; split <;> omega) (by simp only [Wd.val]; split <;> omega)]
  simp only [Wd.val]; simp; omega
 ·rw [wrap_i32 (by simp only [Wd.val]; split <;> omega) (by simp only [Wd.val]; split <;> omega)]
  simp only [Wd.val]; simp; omega
theorem aeI(hk:yF F k j R H (aY (fr.finish (gZ [])) cs)){n:Nat}(ih:∀ m,m < n→uC F k j R H fr cs m){old:Wd}{aw sv:Bool}{it:Nat}{ws:Bool}{fU:Int}(kl:ws=decide (fU≠0)){st:St}(cL:aF st [(0,pm F),(2,.int .i64 fU),(3,.bool sv)]) :
  U (WJ F n k j (.r2 ⟨old,aw,sv,it,ws⟩)) (z9 fr cs) R H st [.code amY,.inBlock 1,.inLoop rV,.inBlock 0,.code xQ]:=by
 have hN:=F.hN
 refine U.sub cL ?_
 refine U.seq ?_
 refine U.rg [0,1,2,3,4] ?_
 refine U.lv 3 ?_
 refine sW λ m hm=>KW.look rfl rfl rfl rfl rfl Fv (by kernel_rfl) rfl ⟨by simp,by simp⟩ (λ _ h=>h) λ _ s hs=>?_
 have h5:=zQ hs.1 (show (FT F).N≤5 from Nat.le_trans hN (by omega))
 obtain ⟨b1,b2,b3,b4,b5,b7,o1,o2,o4,n2,s3⟩:=Wd.sA h5
 have qz:s.mu.val.fdiv (2 ^ (min (3:Int).toNat IntKind.i32.bits))=(s.mu.n:Int):=by simpa [nh] using s3
 rcases hs.2 with ⟨e1,e2,e3,e4⟩ | ⟨e1,e2⟩
 ·refine ⟨_,.J2 e1,oy (by simp),λ ba bd=>(?_:U (WJ F m k j (.a1 (sv && s.mu.n != 1))) _ _ _ _ _) ba bd⟩
  refine U.lv 1 ?_
  refine U.aV ?_
  refine U.seq ?_
  refine U.seq ?_
  refine U.rg [0,1,2] ?_
  refine U.lv 3 ?_
  refine U.aV ?_
  refine U.is 107 (v':=.bool true) rfl (AO b4 (by rw [e1]; rfl)) ?_
  refine U.fu rfl rfl ?_
  refine U.seq ?_
  refine U.seq ?_
  refine U.rg [0,1,2,3,4,5,6,7] ?_
  refine U.lv 3 ?_
  refine U.is 110 (v':=.bool false) rfl (AO b3 (by rw [e2,e3]; rfl)) ?_
  refine U.lv 4 ?_
  refine U.is 114 (v':=.bool false) rfl (congrArg Value.bool (by show (s.mu.val.fdiv (2 ^ (min (3:Int).toNat IntKind.i32.bits)) == 0)=false; rw [qz,beq_eq_false_iff_ne]; omega)) ?_
  refine U.lv 1 ?_
  refine U.aV ?_
  refine U.eD rfl rfl ?_
  refine U.skip ?_
  refine U.seq ?_
  refine U.rg [0] ?_
  refine U.lv 1 ?_
  refine U.aV ?_
  refine U.seq ?_
  refine U.seq ?_
  refine U.rg [0,1,2,3,4,5,6] ?_
  refine U.mid (K:=?K) [(0,pm F),(9,.int .i32 (-7)),(123,.bool (!(sv && s.mu.n != 1)))] ?h1 ?h2
  case h1 =>
   intro h
   cases sv
   ·refine U.lv 7 ?_
    refine U.aV ?_
    refine h _ ?_
    exact bU.sub ⟨rfl,rfl,rfl,trivial⟩
   ·refine U.lv 6 ?_
    refine U.is 122 (v':=.bool (!(true && s.mu.n != 1))) rfl (congrArg Value.bool (by
     show (s.mu.val.fdiv (2 ^ (min (3:Int).toNat IntKind.i32.bits)) == 1)=_
     rw [qz]
     by_cases e:s.mu.n=1
     ·rw [e]; rfl
     ·rw [beq_eq_false_iff_ne.2 (by omega)]; simp [e])) ?_
    refine U.lv 1 ?_
    refine U.aV ?_
    refine h _ ?_
    exact bU.sub ⟨rfl,rfl,rfl,trivial⟩
  generalize (sv && s.mu.n != 1)=b
  refine U.join (st':=[(0,pm F),(9,.int .i32 (if b then -7 else -11))]) rfl (λ hb h=>?_) (λ hb h=>?_) ?_
  ·cases b
   ·refine U.rg [0,1,2] ?_
    refine U.lv 3 ?_
    refine U.aV ?_
    refine U.sub ?_ h
    exact bU.sub ⟨rfl,rfl,trivial⟩
   ·cases hb
  ·cases b
   ·cases hb
   ·refine U.skip ?_
    refine U.sub ?_ h
    exact bU.sub ⟨rfl,rfl,trivial⟩
  refine U.seq ?_
  refine U.rg [0,1,2,3,4] ?_
  refine U.lv 4 ?_
  refine sW λ p hp=>KW.ext rfl rfl rfl rfl abq rfl rfl λ _ w s _ bg hs _=>.inr ?_
  obtain ⟨qy,g1,g2,g3,g4,g5⟩:=hs
  have e:=aFE (zQ qy (show (FT F).N≤5 from Nat.le_trans hN (by omega))) g2 g3 g1 g4 b
  refine ⟨_,_,_,.le,_,yY bg.cm (bg.zm 0),.a1,trivial,pG (.inl rfl),by rw [e]; exact cb.mu bg,λ ba bd=>(?_:U (WJ F p k j .le) _ _ _ _ _) ba bd⟩
  refine U.aV ?_
  refine U.exit rfl ?_
  refine U.sub ?_ (aeJ hk p)
  exact bU.sub ⟨rfl,trivial⟩
 ·refine ⟨_,.xN e1,oy (by simp),λ ba bd=>Nz ((?_:U (WJ F m k j (hd ⟨s.mu,true,sv,0,ws⟩)) _ _ _ _ _) ba bd)⟩
  refine U.lv 1 ?_
  refine U.aV ?_
  refine U.seq ?_
  refine U.seq ?_
  refine U.rg [0,1,2] ?_
  refine U.lv 3 ?_
  refine U.aV ?_
  refine U.is 107 (v':=.bool false) rfl (AO b4 (by rw [e1]; rfl)) ?_
  refine U.eD rfl rfl ?_
  refine U.skip ?_
  refine U.seq ?_
  refine U.rg [0] ?_
  refine U.lv 1 ?_
  refine U.aV ?_
  refine U.rg [0] ?_
  refine U.lv 1 ?_
  refine U.aV ?_
  refine U.inBlock ?_
  refine U.inLoop ?_
  refine U.sub ?_ (ih m hm (⟨s.mu,true,sv,0,ws⟩,fU) ⟨hs.1,λ _=>e2,kl,Nat.zero_le _⟩)
  exact bU.sub ⟨rfl,rfl,rfl,rfl,rfl,rfl,trivial⟩
theorem aeH(hB:∀ w:World,F.B.os w.os→F.B.os w.later.os)(hk:yF F k j R H (aY (fr.finish (gZ [])) cs)){n:Nat}(ih:∀ m,m < n→uC F k j R H fr cs m){old:Wd}{aw sv:Bool}{it:Nat}{ws q:Bool}{fU:Int}(kl:ws=decide (fU≠0)){st:St}(cL:aF st [(0,pm F),(2,.int .i64 fU),(3,.bool sv),(8,.bool q)]) :
  U (WJ F n k j (.s1 ⟨old,aw,sv,it,ws⟩)) (z9 fr cs) R H st [.code abC,.inBlock 1,.inLoop rV,.inBlock 0,.code xQ]:=by
 refine U.sub cL ?_
 refine U.seq ?_
 refine U.rg [0,1,2,3,4] ?_
 refine U.lv 4 ?_
 refine sW λ m hm=>KW.ext rfl rfl rfl rfl amm rfl rfl λ _ w s _ bg _ _=>?_
 have tH:∀ m',m' < m→uC F k j R H fr cs m':=λ m' h'=>ih m' (Nat.lt_trans h' hm)
 cases Ei:s.ms with
 | zero=>exact .inl ⟨⟨_,rfl⟩,rfl,YV rfl (by rw [bg.LH,Ei]; rfl)⟩
 | succ u =>
  have ea:((u+1:Nat):Int) - 1=(u:Int):=by omega
  refine .inr ⟨_,_,_,if sv then .r2 ⟨old,aw,sv,it,ws⟩ else .t2 ⟨old,aw,sv,it,ws⟩,_,aa0 (n:=((u+1:Nat):Int)) rfl (by rw [← Ei]; exact bg.LH) (by omega) (bg.zm 1),.s1 Ei,oy (by simp),GU (.inl rfl),by rw [ea]; exact cb.ms bg,λ ba bd=>?_⟩
  cases sv
  ·refine (?_:U (WJ F m k j (.t2 ⟨old,aw,false,it,ws⟩)) _ _ _ _ _) ba bd
   refine U.aV ?_
   refine U.seq ?_
   refine U.rg [0,1,2,3,4,5,6,7] ?_
   refine U.lv 2 ?_
   refine sW λ p hp=>KW.nano hB rfl rfl rfl rfl abr (by kernel_rfl) rfl rfl ⟨by simp,by simp⟩ pF λ _ z=>?_
   refine ⟨.r2 ⟨old,aw,decide (IntKind.wrap .i64 (z - fU) > 1000000),it,ws⟩,λ s=>.t2 _,oy (by simp),λ ba bd=>(?_:U (WJ F p k j (.r2 ⟨old,aw,decide (IntKind.wrap .i64 (z - fU) > 1000000),it,ws⟩)) _ _ _ _ _) ba bd⟩
   refine U.lv 5 ?_
   refine U.aV ?_
   refine aeI hk (λ m' h'=>tH m' (Nat.lt_trans h' hp)) kl ?_
   exact bU.sub ⟨rfl,rfl,rfl,trivial⟩
  ·refine (?_:U (WJ F m k j (.r2 ⟨old,aw,true,it,ws⟩)) _ _ _ _ _) ba bd
   refine U.aV ?_
   refine U.seq ?_
   refine U.rg [0,1,2,3,4,5,6,7] ?_
   refine U.lv 8 ?_
   refine U.aV ?_
   refine aeI hk tH kl ?_
   exact bU.sub ⟨rfl,rfl,rfl,trivial⟩
theorem aDw(hB:∀ w:World,F.B.os w.os→F.B.os w.later.os)(hk:yF F k j R H (aY (fr.finish (gZ [])) cs)){n:Nat}(ih:∀ m,m < n→uC F k j R H fr cs m){old:Wd}{aw sv:Bool}{it:Nat}{ws:Bool}{fU:Int}(hx:N8 F (⟨old,aw,sv,it,ws⟩,fU)){st:St}(cL:aF st (Aa F ⟨old,aw,sv,it,ws⟩ fU)) :
  U (WJ F n k j (.c2 ⟨old,aw,sv,it,ws⟩)) (z9 fr cs) R H st [.code JO,.inBlock 1,.inLoop rV,.inBlock 0,.code xQ]:=by
 obtain ⟨iQ,uZ,kl,Mq⟩:=hx
 dsimp only at iQ uZ kl Mq
 have hN:=F.hN
 have h5:old.ok 5:=zQ iQ (by omega)
 have h4:old.ok 4:=zQ iQ (by omega)
 obtain ⟨b1,b2,b3,b4,b5,b7,o1,o2,o4,n2,s3⟩:=Wd.sA h5
 obtain ⟨q1,q2,q3,q4⟩:=h4
 have k1:(tT old).ok 5:=⟨by simp only [tT]; split <;> omega,q2,q3,by simp only [tT]; omega⟩
 have k2:(vH old).ok 5:=⟨k1.1,q2,q3,by simp only [vH]; split <;> omega⟩
 have k3:(CA old sv).ok 5:=⟨k1.1,q2,by simp only [CA]; split <;> omega,k2.2.2.2⟩
 refine U.sub cL ?_
 refine U.seq ?_
 refine U.rg [0,1] ?_
 refine U.lv 2 ?_
 refine U.aV ?_
 refine U.seq ?_
 refine U.seq ?_
 refine U.rg [0,1,2] ?_
 refine U.lv 3 ?_
 refine U.aV ?_
 refine U.is 52 (v':=.bool (decide (old.s=0))) rfl (qi b4 (Zy (by omega))) ?_
 refine U.join (st':=JP F ⟨old,aw,sv,it,ws⟩ fU (tT old)) rfl (λ hb h=>?_) (λ hb h=>?_) ?_
 ·refine U.rg [0,1,2] ?_
  refine U.lv 3 ?_
  refine U.aV ?_
  refine U.is 7 (v':=.int .i32 (tT old).val) rfl (MZ o1 (by simp [tT,of_decide_eq_true hb])) ?_
  refine U.sub ?_ h
  exact bU.sub ⟨rfl,rfl,rfl,rfl,rfl,rfl,rfl,trivial⟩
 ·refine U.skip ?_
  refine U.is 7 (v':=.int .i32 (tT old).val) rfl (by simp [tT,of_decide_eq_false hb]) ?_
  refine U.sub ?_ h
  exact bU.sub ⟨rfl,rfl,rfl,rfl,rfl,rfl,rfl,trivial⟩
 refine U.seq ?_
 refine U.seq ?_
 refine U.rg [0,1,2] ?_
 refine U.lv 3 ?_
 refine U.aV ?_
 refine U.is 57 (v':=.bool (decide (old.l=1∨old.s=1))) rfl (AO b5 (ZA (by omega))) ?_
 refine U.join (st':=JP F ⟨old,aw,sv,it,ws⟩ fU (vH old)) rfl (λ hb h=>?_) (λ hb h=>?_) ?_
 ·refine U.rg [0,1,2] ?_
  refine U.lv 3 ?_
  refine U.aV ?_
  have e:(tT old).val+8=(vH old).val:=by simp only [vH,tT,Wd.val,of_decide_eq_true hb,if_true]; omega
  have f:=Wd.fit k1
  refine U.is 7 (v':=.int .i32 (vH old).val) rfl (by rw [← e]; exact congrArg _ (wrap_i32 (by omega) (by omega))) ?_
  refine U.sub ?_ h
  exact bU.sub ⟨rfl,rfl,rfl,rfl,rfl,rfl,rfl,trivial⟩
 ·refine U.skip ?_
  refine U.is 7 (v':=.int .i32 (vH old).val) rfl (by simp only [vH,of_decide_eq_false hb,if_false]; rfl) ?_
  refine U.sub ?_ h
  exact bU.sub ⟨rfl,rfl,rfl,rfl,rfl,rfl,rfl,trivial⟩
 refine U.seq ?_
 refine U.seq ?_
 refine U.rg [0,1,2,3,4,5] ?_
 refine U.mid (K:=?K) ((65,.bool (decide (sv=true∧old.l=1)))::JP F ⟨old,aw,sv,it,ws⟩ fU (vH old)) ?h1 ?h2
 case h1 =>
  intro h
  cases sv
  ·refine U.lv 6 ?_
   refine U.aV ?_
   refine h _ ?_
   exact bU.sub ⟨rfl,rfl,rfl,rfl,rfl,rfl,rfl,rfl,trivial⟩
  ·refine U.lv 5 ?_
   refine U.is 64 (v':=.bool (decide (true=true∧old.l=1))) rfl (AO b1 (ZA (by simp; omega))) ?_
   refine U.lv 1 ?_
   refine U.aV ?_
   refine h _ ?_
   exact bU.sub ⟨rfl,rfl,rfl,rfl,rfl,rfl,rfl,rfl,trivial⟩
 refine U.join (st':=JP F ⟨old,aw,sv,it,ws⟩ fU (CA old sv)) rfl (λ hb h=>?_) (λ hb h=>?_) ?_
 ·refine U.rg [0,1,2] ?_
  refine U.lv 3 ?_
  refine U.aV ?_
  have o:=(Wd.sA k2).2.2.2.2.2.2.2.2.1
  refine U.is 7 (v':=.int .i32 (CA old sv).val) rfl (MZ o (by simp only [CA,of_decide_eq_true hb,and_self,if_true])) ?_
  refine U.sub ?_ h
  exact bU.sub ⟨rfl,rfl,rfl,rfl,rfl,rfl,rfl,trivial⟩
 ·refine U.skip ?_
  refine U.is 7 (v':=.int .i32 (CA old sv).val) rfl (by simp only [CA,of_decide_eq_false hb,if_false]; rfl) ?_
  refine U.sub ?_ h
  exact bU.sub ⟨rfl,rfl,rfl,rfl,rfl,rfl,rfl,trivial⟩
 refine U.seq ?_
 refine U.seq ?_
 refine U.rg [0] ?_
 refine U.lv 1 ?_
 refine U.aV ?_
 refine U.join (st':=JP F ⟨old,aw,sv,it,ws⟩ fU (nw ⟨old,aw,sv,it,ws⟩)) rfl (λ hb h=>?_) (λ hb h=>?_) ?_
 ·dsimp only at hb
  subst hb
  obtain ⟨_,a2,_,_,_,_,_,_,_,mh,_⟩:=Wd.sA k3
  refine U.seq ?_
  refine U.seq ?_
  refine U.rg [0,1,2] ?_
  refine U.lv 3 ?_
  refine U.aV ?_
  have hw1:=uZ rfl
  refine U.is 71 (v':=.bool false) rfl (qi a2 (by rw [beq_eq_false_iff_ne]; show ¬ (2 * (old.w:Int)=0); omega)) ?_
  refine U.eD rfl rfl ?_
  refine U.skip ?_
  refine U.rg [0,1,2] ?_
  refine U.lv 3 ?_
  refine U.aV ?_
  refine U.is 7 (v':=.int .i32 (nw ⟨old,true,sv,it,ws⟩).val) rfl (MZ mh rfl) ?_
  refine U.sub ?_ h
  exact bU.sub ⟨rfl,rfl,rfl,rfl,rfl,rfl,rfl,trivial⟩
 ·dsimp only at hb
  subst hb
  refine U.skip ?_
  refine U.is 7 (v':=.int .i32 (nw ⟨old,false,sv,it,ws⟩).val) rfl rfl ?_
  refine U.sub ?_ h
  exact bU.sub ⟨rfl,rfl,rfl,rfl,rfl,rfl,rfl,trivial⟩
 refine U.seq ?_
 refine U.rg [0,1,2,3,4,5] ?_
 refine U.lv 5 ?_
 refine sW λ m hm=>KW.ext rfl rfl rfl rfl L3 rfl rfl λ _ w s _ bg hs _=>.inr ?_
 have tH:∀ m',m' < m→uC F k j R H fr cs m':=λ m' h'=>ih m' (Nat.lt_trans h' hm)
 by_cases df:s.mu=old
 ·subst df
  by_cases hf:s.mu.l=0∧s.mu.s=0
  ·
   refine ⟨.bool true,_,_,.le,_,DZ bg.cm (bg.zm 0),.QC rfl hf.1 hf.2,trivial,pG (.inl rfl),cb.mu bg,λ ba bd=>(?_:U (WJ F m k j .le) _ _ _ _ _) ba bd⟩
   refine U.aV ?_
   refine U.fu rfl rfl ?_
   refine U.seq ?_
   refine U.seq ?_
   refine U.rg [0,1,2] ?_
   refine U.lv 3 ?_
   refine U.aV ?_
   refine U.is 83 (v':=.bool true) rfl (qi b5 (by rw [hf.1,hf.2]; rfl)) ?_
   refine U.fu rfl rfl ?_
   refine U.exit rfl ?_
   refine U.sub ?_ (aeJ hk m)
   exact bU.sub ⟨rfl,trivial⟩
  ·
   have hq:s.mu.l=1∨s.mu.s=1:=by omega
   refine ⟨.bool true,_,_,if ws then .s1 ⟨s.mu,aw,sv,it,ws⟩ else .t1 ⟨s.mu,aw,sv,it,ws⟩,_,DZ bg.cm (bg.zm 0),.wo rfl hq,oy (by simp),pG (.inl rfl),cb.mu bg,λ ba bd=>?_⟩
   by_cases hw:fU=0
   ·have e0:ws=false:=by rw [kl]; simp [hw]
    subst e0
    refine (?_:U (WJ F m k j (.t1 ⟨s.mu,aw,sv,it,false⟩)) _ _ _ _ _) ba bd
    refine U.aV ?_
    refine U.fu rfl rfl ?_
    refine U.seq ?_
    refine U.seq ?_
    refine U.rg [0,1,2] ?_
    refine U.lv 3 ?_
    refine U.aV ?_
    refine U.is 83 (v':=.bool false) rfl (qi b5 (by rw [beq_eq_false_iff_ne]; omega)) ?_
    refine U.eD rfl rfl ?_
    refine U.skip ?_
    refine U.seq ?_
    refine U.rg [0,1,2] ?_
    refine U.lv 3 ?_
    refine U.aV ?_
    refine U.seq ?_
    refine U.seq ?_
    refine U.rg [0,1] ?_
    refine U.lv 2 ?_
    refine U.aV ?_
    refine U.is 87 (v':=.bool true) rfl (congrArg Value.bool (beq_iff_eq.2 hw)) ?_
    refine U.fu rfl rfl ?_
    refine U.rg [0,1] ?_
    refine sW λ p hp=>KW.nano hB rfl rfl rfl rfl abr (by kernel_rfl) rfl rfl ⟨by simp,by simp⟩ pF λ _ z=>?_
    refine ⟨.s1 ⟨s.mu,aw,sv,it,decide (z≠0)⟩,λ s=>.t1 _,oy (by simp),λ ba bd=>(?_:U (WJ F p k j (.s1 ⟨s.mu,aw,sv,it,decide (z≠0)⟩)) _ _ _ _ _) ba bd⟩
    refine U.lv 1 ?_
    refine U.aV ?_
    refine aeH hB hk (q:=(fU != 0)) (λ m' h'=>tH m' (Nat.lt_trans h' hp)) rfl ?_
    exact bU.sub ⟨rfl,rfl,rfl,rfl,trivial⟩
   ·have e0:ws=true:=by rw [kl]; simp [hw]
    subst e0
    refine (?_:U (WJ F m k j (.s1 ⟨s.mu,aw,sv,it,true⟩)) _ _ _ _ _) ba bd
    refine U.aV ?_
    refine U.fu rfl rfl ?_
    refine U.seq ?_
    refine U.seq ?_
    refine U.rg [0,1,2] ?_
    refine U.lv 3 ?_
    refine U.aV ?_
    refine U.is 83 (v':=.bool false) rfl (qi b5 (by rw [beq_eq_false_iff_ne]; omega)) ?_
    refine U.eD rfl rfl ?_
    refine U.skip ?_
    refine U.seq ?_
    refine U.rg [0,1,2] ?_
    refine U.lv 3 ?_
    refine U.aV ?_
    refine U.seq ?_
    refine U.seq ?_
    refine U.rg [0,1] ?_
    refine U.lv 2 ?_
    refine U.aV ?_
    refine U.is 87 (v':=.bool false) rfl (congrArg Value.bool (beq_eq_false_iff_ne.2 hw)) ?_
    refine U.eD rfl rfl ?_
    refine U.skip ?_
    refine aeH hB hk (q:=(fU != 0)) tH kl ?_
    exact bU.sub ⟨rfl,rfl,rfl,rfl,trivial⟩
 ·
  refine ⟨.bool false,w,_,.r3 ⟨old,aw,sv,it,ws⟩,s,Hh bg.cm (bg.zm 0) (λ e=>df (Wd.val_inj hs.1 iQ e)),.QD df,oy (by simp),wj (.inl rfl),cb.refl bg,λ ba bd=>(?_:U (WJ F m k j (.r3 ⟨old,aw,sv,it,ws⟩)) _ _ _ _ _) ba bd⟩
  refine U.aV ?_
  refine U.eD rfl rfl ?_
  refine U.rg [0,1,2,3,4] ?_
  refine U.lv 3 ?_
  refine sW λ p hp=>KW.look rfl rfl rfl rfl rfl Fv (by kernel_rfl) rfl ⟨by simp,by simp⟩ (λ _ h=>h) λ ot s hs=>⟨_,.r3,oy (by simp),λ ba bd=>Nz ((?_:U (WJ F p k j (hd ⟨s.mu,aw,sv,it,ws⟩)) _ _ _ _ _) ba bd)⟩
  refine U.lv 1 ?_
  refine U.aV ?_
  refine U.inBlock ?_
  refine U.inLoop ?_
  refine U.sub ?_ (tH p hp (⟨s.mu,aw,sv,it,ws⟩,fU) ⟨hs.1,hs.2,kl,Mq⟩)
  exact bU.sub ⟨rfl,rfl,rfl,rfl,rfl,rfl,trivial⟩
theorem aDx(hB:∀ w:World,F.B.os w.os→F.B.os w.later.os)(hk:yF F k j R H (aY (fr.finish (gZ [])) cs))(n:Nat):uC F k j R H fr cs n:=λ x hx =>
 U.head (Jn:=λ n (x:Lc × Int)=>WJ F n k j (hd x.1)) (S:=λ x=>Aa F x.1 x.2) (ok:=N8 F) (λ n ih x hx=>by
  obtain ⟨⟨old,aw,sv,it,ws⟩,fU⟩:=x
  exact aDz ih hx λ m hm st cL=>aDw hB hk (λ m' h'=>ih m' (Nat.lt_of_lt_of_le h' hm)) hx cL) n x hx
end
end Go.Proofs.YtihapemckcdicaaGreatDoor
namespace Go.Proofs.YtihapemckcdicaaGreatDoor
open Go.Lg Go.Proofs Go.Conc Tryz
set_option maxRecDepth 100000
set_option maxHeartbeats 4000000
section
variable {F:Fx} {R:ax} {H:an} {k j:Nat}
theorem aDy(hB:∀ w:World,F.B.os w.os→F.B.os w.later.os)(n:Nat):kC prog ((WJ F n k j .r0).J R H) (yF F k j R H) 231 [pm F]:=kC.bn func231 rfl rfl rfl λ fr cs hk=>by
 refine U.seq ?_
 refine U.rg [0] ?_
 refine U.lv 1 ?_
 refine U.aV ?_
 refine U.seq ?_
 refine U.rg [0] ?_
 refine U.lv 1 ?_
 refine U.aV ?_
 refine U.seq ?_
 refine U.rg [0] ?_
 refine U.lv 1 ?_
 refine U.aV ?_
 refine U.seq ?_
 refine U.rg [0] ?_
 refine U.lv 1 ?_
 refine U.aV ?_
 refine U.seq ?_
 refine U.rg [0,1,2,3,4] ?_
 refine U.lv 3 ?_
 refine sW λ m hm=>KW.look rfl rfl rfl rfl rfl Fv (by kernel_rfl) rfl ⟨by simp,by simp⟩ (λ _ h=>h) λ ot s hs=>⟨_,.r0,oy (by simp),λ ba bd=>Nz ((?_:U (WJ F m k j (hd ⟨s.mu,false,false,0,false⟩)) _ _ _ _ _) ba bd)⟩
 refine U.lv 1 ?_
 refine U.aV ?_
 refine U.seq ?_
 refine U.block ?_
 refine U.enterLoop ?_
 refine U.sub ?_ (aDx hB hk m (⟨s.mu,false,false,0,false⟩,0) ⟨hs.1,by simp,by simp,Nat.zero_le _⟩)
 exact bU.sub ⟨rfl,rfl,rfl,rfl,rfl,rfl,trivial⟩
theorem ax4(hB:∀ w:World,F.B.os w.os→F.B.os w.later.os)(n:Nat):kC prog ((WJ F n k j .ld).J R H) (yF F k j R H) 203 [pm F]:=kC.bn func203 rfl rfl rfl λ fr cs hk=>by
 refine U.seq ?_
 refine U.rg [0] ?_
 refine sW λ m hm=>KW.ext rfl rfl rfl rfl Hk rfl rfl λ _ w s _ bg _ _=>.inr ⟨_,w,_,.l0,s,qk (by simp),.ld,trivial,rfl,cb.refl bg,λ ba bd=>(?_:U (WJ F m k j .l0) _ _ _ _ _) ba bd⟩
 refine U.aV ?_
 refine U.seq ?_
 refine U.seq ?_
 refine U.rg [0,1,2,3] ?_
 refine U.lv 3 ?_
 refine sW λ p hp=>KW.ext rfl rfl rfl rfl L3 rfl rfl λ _ w s _ bg hs _=>.inr ?_
 by_cases hz:s.mu = .zero
 ·refine ⟨.bool true,_,_,.le,_,DZ (v:=0) (by have e:=bg.cm; rw [hz] at e; exact e) (bg.zm 0),.acF hz,trivial,pG (.inl rfl),cb.mu (m:=⟨1,0,0,0⟩) bg,λ ba bd=>(?_:U (WJ F p k j .le) _ _ _ _ _) ba bd⟩
  refine U.aV ?_
  refine U.fu rfl rfl ?_
  refine U.seq ?_
  refine U.fu rfl rfl ?_
  refine U.seq ?_
  refine U.rg [0] ?_
  refine sW λ n _=>KW.ext rfl rfl rfl rfl AX rfl rfl λ _ w s _ bg _ _=>.inr ⟨_,w,_,.lc,s,qk (by simp),.le,trivial,rfl,cb.refl bg,λ ba bd=>(?_:U (WJ F n k j .lc) _ _ _ _ _) ba bd⟩
  refine U.aV ?_
  refine U.rg [0,1,2] ?_
  refine U.lv 1 ?_
  refine sW λ n _=>KW.conv rfl rfl rfl rfl rfl Xw rfl P7 ⟨by simp,by simp⟩ pF (λ _=>.lc) trivial λ ba bd=>(?_:U (WJ F n k j .la) _ _ _ _ _) ba bd
  refine sW λ n _=>KW.ext rfl rfl rfl rfl L2 rfl rfl λ _ w s _ bg _ _=>.inr ⟨_,w,_,.ul λ _=>0,s,AS (λ _ _=>by simp) rfl,.la,trivial,rfl,cb.refl bg,λ ba bd js gU=>(?_:U (WJ F n k j (.ul js)) _ _ _ _ _) ba bd⟩
  refine U.aV ?_
  exact U.pJ func203 rfl (hk n js gU) (.inr ⟨_,rfl⟩)
 ·refine ⟨.bool false,w,_,.r0,s,Hh bg.cm (bg.zm 0) (λ e=>hz (Wd.val_inj hs.1 (N':=0) ⟨Nat.zero_le _,Nat.zero_le _,Nat.zero_le _,Nat.le_refl _⟩ e)),.acE hz,trivial,wj (.inl rfl),cb.refl bg,λ ba bd=>(?_:U (WJ F p k j .r0) _ _ _ _ _) ba bd⟩
  refine U.aV ?_
  refine U.eD rfl rfl ?_
  refine U.skip ?_
  refine U.rg [0,1] ?_
  refine U.lv 1 ?_
  refine U.vy rfl rfl rfl rfl rfl akH rfl (aDy hB p) λ ba bd n js gU=>(?_:U (WJ F n k j (.ul js)) _ _ _ _ _) ba bd
  refine U.aV ?_
  exact U.pJ func203 rfl (hk n js gU) (.inl rfl)
theorem ay3(hB:∀ w:World,F.B.os w.os→F.B.os w.later.os)(n:Nat):kC prog ((WJ F n k j .ld).J R H) (yF F k j R H) 173 [pm F]:=kC.bn func173 rfl rfl rfl λ fr cs hk=>by
 refine U.rg [0,1,2,3] ?_
 refine U.lv 3 ?_
 refine U.vy rfl rfl rfl rfl rfl aky rfl (ax4 hB n) λ ba bd n js gU=>(?_:U (WJ F n k j (.ul js)) _ _ _ _ _) ba bd
 refine U.aV ?_
 exact U.pJ func173 rfl (hk n js gU) (.inl rfl)
def P2(F:Fx)(k j:Nat)(R:ax)(H:an)(g:Goroutine):Prop:=∀ n,Own prog F.B false (KW (FT F) n k j .ue) R H g
def P3(F:Fx)(k j:Nat)(R:ax)(H:an)(g:Goroutine):Prop:=(j < F.J→∀ n,Own prog F.B false (KW (FT F) n k j .ld) R H g)∧(j=F.J→∀ n,Own prog F.B false (KW (FT F) n k j .wv) R H g)
theorem afS{m:Wd}(h:m.ok 5)(hl:m.l=0):IntKind.i32.wrap (m.val+1)=Wd.val { m with l:=1 }:=by
 have:=Wd.fit h
 rw [wrap_i32 (by omega) (by omega)]; simp only [Wd.val,hl]; omega
theorem aFF{m:Wd}(h:m.ok 5)(_:m.w=0)(hn:m.n≠0):IntKind.i32.wrap (m.val - 8)=Wd.val { m with n:=m.n - 1 }∧Wd.ok 5 { m with n:=m.n - 1 }:=by
 have:=Wd.fit h
 obtain ⟨h1,h2,h3,h4⟩:=h
 refine ⟨?_,h1,h2,h3,by simp only; omega⟩
 rw [wrap_i32 (by omega) (by omega)]; simp only [Wd.val]; omega
theorem aFD{m:Wd}(h:m.ok 5)(hl:m.l=1):IntKind.i32.wrap (m.val + -1)=Wd.val { m with l:=0 }:=by
 have:=Wd.fit h
 rw [wrap_i32 (by omega) (by omega)]; simp only [Wd.val,hl]; omega
theorem ae4{s:Sh}{w:World}(bg:fp (FT F) s w)(h0:s.ms=0):cb (FT F) { s with ms:=s.ms+1 } w (w.setCell ⟨F.bm,1,none⟩ (.int .u32 (IntKind.u32.wrap ((s.ms:Int)+1)))):=by
 rw [wrap_u32 (by omega) (by omega)]
 exact cb.ms bg
theorem aEr{m:Wd}(h5:m.ok 5)(hl:m.l=0)(qy:m.s=1)(n:Nat):kC prog ((WJ F n k j .us).J R H) (P2 F k j R H) 233 [pm F,.int .i32 m.val]:=kC.bn func233 rfl rfl rfl λ fr cs hk=>by
 have e1:=afS h5 hl
 have d5:Wd.ok 5 { m with l:=1 }:=⟨Nat.le_refl _,h5.2.1,h5.2.2.1,h5.2.2.2⟩
 refine U.seq ?_
 refine U.seq ?_
 refine U.rg [0,1,2,3] ?_
 refine U.lv 2 ?_
 refine U.is 6 (v':=.int .i32 (Wd.val { m with l:=1 })) rfl (congrArg _ e1) ?_
 refine U.lv 2 ?_
 refine U.aV ?_
 refine U.is 8 (v':=.bool false) rfl (qi (Wd.sA d5).1 rfl) ?_
 refine U.eD rfl rfl ?_
 refine U.skip ?_
 refine U.seq ?_
 refine U.rg [0,1,2] ?_
 refine U.lv 3 ?_
 refine U.aV ?_
 refine U.is 12 (v':=.bool false) rfl (qi (Wd.sA h5).2.2.2.1 (by rw [qy]; rfl)) ?_
 refine U.eD rfl rfl ?_
 refine U.rg [0,1,2,3] ?_
 refine U.lv 3 ?_
 refine sW λ m hm=>KW.ext rfl rfl rfl rfl abt rfl rfl λ _ w s _ bg hs _=>.inr ⟨_,_,_,.ue,_,Q9 rfl bg.LH (bg.zm 1),.us,trivial,GU (.inl rfl),ae4 bg hs.2,λ ba bd=>(?_:U (WJ F m k j .ue) _ _ _ _ _) ba bd⟩
 refine U.aV ?_
 exact U.pJ func233 rfl (hk m) (.inl rfl)
noncomputable def acX:Code:=(vx (Tryz.f233.body.getD .skip)).getD .skip
theorem aEs{fr:Frame}{cs:List Frame}{todo:List Item}(hk:P2 F k j R H (aY (fr.finish (gZ [])) cs))(n:Nat)(m:Wd)(hm:m.ok F.N) :
  U (WJ F n k j (hu m)) ⟨233,.normal,none,43,[],fr::cs⟩ R H [(0,pm F),(4,.int .i32 m.val)] (.code acX :: .inLoop acX::todo):=by
 have hN:=F.hN
 refine U.head (Jn:=λ n (m:Wd)=>WJ F n k j (hu m)) (S:=λ m=>[(0,pm F),(4,.int .i32 m.val)]) (ok:=λ m=>m.ok F.N) (λ n ih m hm=>?_) n m hm
 have h5:m.ok 5:=zQ hm (by omega)
 have s3:=(Wd.sA h5).2.2.2.2.2.2.2.2.2.2
 have b7:=(Wd.sA h5).2.2.2.2.2.1
 have qz:m.val.fdiv (2 ^ (min (3:Int).toNat IntKind.i32.bits))=(m.n:Int):=by simpa [nh] using s3
 refine U.block ?_
 refine U.seq ?_
 refine U.seq ?_
 refine U.rg [0,1,2,3,4,5,6,7] ?_
 refine U.lv 4 ?_
 by_cases hn:m.n=0
 ·rw [show hu m = .ue from if_pos (.inl hn)]
  refine U.is 17 (v':=.bool true) rfl (congrArg Value.bool (by show (m.val.fdiv (2 ^ (min (3:Int).toNat IntKind.i32.bits)) == 0)=true; rw [qz,hn]; rfl)) ?_
  refine U.lv 4 ?_
  refine U.aV ?_
  refine U.fu rfl rfl ?_
  exact U.pJ func233 rfl (hk n) (.inr ⟨_,rfl⟩)
 refine U.is 17 (v':=.bool false) rfl (congrArg Value.bool (by show (m.val.fdiv (2 ^ (min (3:Int).toNat IntKind.i32.bits)) == 0)=false; rw [qz,beq_eq_false_iff_ne]; omega)) ?_
 refine U.lv 3 ?_
 obtain ⟨q1,q2,q3,q4⟩:=h5
 by_cases hx:m.l=1∨m.w=1∨m.s=1
 ·rw [show hu m = .ue from if_pos (.inr hx)]
  refine U.is 20 (v':=.bool true) rfl (AO b7 (by rw [bne_iff_ne]; omega)) ?_
  refine U.lv 1 ?_
  refine U.aV ?_
  refine U.fu rfl rfl ?_
  exact U.pJ func233 rfl (hk n) (.inr ⟨_,rfl⟩)
 rw [show hu m = .uc m from if_neg (by simp only [hn,false_or]; exact hx)]
 obtain ⟨e8,k8⟩:=aFF ⟨q1,q2,q3,q4⟩ (by omega) hn
 refine U.is 20 (v':=.bool false) rfl (AO b7 (by rw [bne_eq_false_iff_eq]; omega)) ?_
 refine U.lv 1 ?_
 refine U.aV ?_
 refine U.eD rfl rfl ?_
 refine U.skip ?_
 refine U.seq ?_
 refine U.rg [0,1,2,3] ?_
 refine U.lv 2 ?_
 refine U.is 23 (v':=.int .i32 (Wd.val { m with n:=m.n - 1 })) rfl (congrArg _ e8) ?_
 refine U.lv 2 ?_
 refine U.aV ?_
 refine U.is 1 (v':=.int .i32 (Wd.val { m with w:=1,n:=m.n - 1 })) rfl (MZ (Wd.sA k8).2.2.2.2.2.2.2.1 rfl) ?_
 refine U.seq ?_
 refine U.seq ?_
 refine U.rg [0,1,2,3,4,5] ?_
 refine U.lv 5 ?_
 refine sW λ p hp=>KW.ext rfl rfl rfl rfl L3 rfl rfl λ _ w s _ bg hs _=>.inr ?_
 by_cases df:s.mu=m
 ·subst df
  refine ⟨.bool true,_,_,.us,_,DZ bg.cm (bg.zm 0),.ae2 rfl,trivial,pG (.inl rfl),cb.mu bg,λ ba bd=>(?_:U (WJ F p k j .us) _ _ _ _ _) ba bd⟩
  refine U.aV ?_
  refine U.fu rfl rfl ?_
  refine U.seq ?_
  refine U.rg [0,1,2,3] ?_
  refine U.lv 3 ?_
  refine sW λ q hq=>KW.ext rfl rfl rfl rfl abt rfl rfl λ _ w s _ bg hs _=>.inr ⟨_,_,_,.ue,_,Q9 rfl bg.LH (bg.zm 1),.us,trivial,GU (.inl rfl),ae4 bg hs.2,λ ba bd=>(?_:U (WJ F q k j .ue) _ _ _ _ _) ba bd⟩
  refine U.aV ?_
  exact U.pJ func233 rfl (hk q) (.inr ⟨_,rfl⟩)
 ·refine ⟨.bool false,w,_,.ux,s,Hh bg.cm (bg.zm 0) (λ e=>df (Wd.val_inj hs.1 hm e)),.Xu df,trivial,wj (.inl rfl),cb.refl bg,λ ba bd=>(?_:U (WJ F p k j .ux) _ _ _ _ _) ba bd⟩
  refine U.aV ?_
  refine U.eD rfl rfl ?_
  refine U.skip ?_
  refine U.rg [0,1,2,3,4] ?_
  refine U.lv 3 ?_
  refine sW λ q hq=>KW.look rfl rfl rfl rfl rfl Fv (by kernel_rfl) rfl ⟨by simp,by simp⟩ (λ _ h=>h) λ ot s hs=>⟨_,.ux,oy (by simp),λ ba bd=>adQ ((?_:U (WJ F q k j (hu s.mu)) _ _ _ _ _) ba bd)⟩
  refine U.lv 1 ?_
  refine U.aV ?_
  refine U.inBlock ?_
  refine U.inLoop ?_
  refine U.sub ?_ (ih q (Nat.lt_trans hq hp) s.mu hs.1)
  exact bU.sub ⟨rfl,rfl,trivial⟩
theorem aEt{m:Wd}(hm:m.ok F.N)(hl:m.l=0)(Eo:m.s=0)(n:Nat):kC prog ((WJ F n k j (hu m)).J R H) (P2 F k j R H) 233 [pm F,.int .i32 m.val]:=kC.bn func233 rfl rfl rfl λ fr cs hk=>by
 have hN:=F.hN
 have h5:m.ok 5:=zQ hm (by omega)
 have e1:=afS h5 hl
 have d5:Wd.ok 5 { m with l:=1 }:=⟨Nat.le_refl _,h5.2.1,h5.2.2.1,h5.2.2.2⟩
 refine U.seq ?_
 refine U.seq ?_
 refine U.rg [0,1,2,3] ?_
 refine U.lv 2 ?_
 refine U.is 6 (v':=.int .i32 (Wd.val { m with l:=1 })) rfl (congrArg _ e1) ?_
 refine U.lv 2 ?_
 refine U.aV ?_
 refine U.is 8 (v':=.bool false) rfl (qi (Wd.sA d5).1 rfl) ?_
 refine U.eD rfl rfl ?_
 refine U.skip ?_
 refine U.seq ?_
 refine U.rg [0,1,2] ?_
 refine U.lv 3 ?_
 refine U.aV ?_
 refine U.is 12 (v':=.bool true) rfl (qi (Wd.sA h5).2.2.2.1 (by rw [Eo]; rfl)) ?_
 refine U.fu rfl rfl ?_
 refine U.seq ?_
 refine U.rg [0,1] ?_
 refine U.lv 2 ?_
 refine U.aV ?_
 refine U.block ?_
 refine U.enterLoop ?_
 refine U.sub ?_ (aEs hk n m hm)
 exact bU.sub ⟨rfl,rfl,trivial⟩
end
end Go.Proofs.YtihapemckcdicaaGreatDoor
namespace Go.Proofs.YtihapemckcdicaaGreatDoor
open Go.Lg Go.Proofs Go.Conc Tryz
set_option maxRecDepth 100000
set_option maxHeartbeats 4000000
section
variable {F:Fx} {R:ax} {H:an} {k j:Nat}
noncomputable def ajP:Code:=match Tryz.f204.body with | some (.seq _ (.seq _ (.seq _ z)))=>z | _=>.skip
theorem V2{fr:Frame}{cs:List Frame}{st:St}(hj:j≤F.J)(hk:P3 F k j R H (aY (fr.finish (gZ [])) cs))(n:Nat):U (WJ F n k j .ue) ⟨204,.normal,none,21,[],fr::cs⟩ R H st [.code ajP]:=by
 refine U.rg [0] ?_
 refine sW λ m hm=>KW.ext rfl rfl rfl rfl AX rfl rfl λ _ w s _ bg _ _=>.inr ?_
 by_cases h:j < F.J
 ·refine ⟨_,w,_,.ld,s,qk (by simp),.Ol,h,rfl,cb.refl bg,λ ba bd=>(?_:U (WJ F m k j .ld) _ _ _ _ _) ba bd⟩
  refine U.aV ?_
  exact U.pJ func204 rfl (hk.1 h m) (.inl rfl)
 ·have h':j=F.J:=by omega
  refine ⟨_,w,_,.wv,s,qk (by simp),.Om,h',rfl,cb.refl bg,λ ba bd=>(?_:U (WJ F m k j .wv) _ _ _ _ _) ba bd⟩
  refine U.aV ?_
  exact U.pJ func204 rfl (hk.2 h' m) (.inl rfl)
theorem ax7{js:Nat→Nat}(hj:j+1≤F.J)(n:Nat):kC prog ((WJ F n k j (.ul js)).J R ((F.bo,F.cont (gb js k (j+1)))::H)) (P3 F k (j+1) R H) 204 [pm F]:=kC.bn func204 rfl rfl rfl λ fr cs hk=>by
 have hN:=F.hN
 refine U.seq ?_
 refine U.fu rfl rfl ?_
 refine U.seq ?_
 refine U.rg [0,1,2,3] ?_
 refine U.lv 3 ?_
 refine sW λ m hm=>KW.look rfl rfl rfl rfl rfl Fv (by kernel_rfl) rfl ⟨by simp,by simp⟩ (λ _ h=>h) λ ot s hs=>⟨.uv js,.ul,oy (by simp),λ ba bd=>(?_:U (WJ F m k j (.uv js)) _ _ _ _ _) ba bd⟩
 refine U.aV ?_
 refine U.seq ?_
 refine U.rg [0,1,2] ?_
 refine U.lv 1 ?_
 refine sW λ m hm=>KW.conv rfl rfl rfl rfl rfl Xw rfl P7 ⟨by simp,by simp⟩ pF (λ _=>.uv) trivial λ ba bd=>(?_:U (WJ F m k j (.ur js)) _ _ _ _ _) ba bd
 refine sW λ m hm=>KW.ext rfl rfl rfl rfl abn rfl rfl λ _ w s _ bg _ _=>.inr ⟨_,w,_,.ud,s,AS (λ _ _=>by simp) rfl,.ur,trivial,rfl,cb.refl bg,λ ba bd=>⟨js,H,rfl,rfl,(?_:U (WJ F m k (j+1) .ud) _ _ _ _ _) ba bd⟩⟩
 refine U.aV ?_
 refine U.rg [0] ?_
 refine sW λ m hm=>KW.ext rfl rfl rfl rfl Hk rfl rfl λ _ w s _ bg _ _=>.inr ⟨_,w,_,.u0,s,qk (by simp),.ud,trivial,rfl,cb.refl bg,λ ba bd=>(?_:U (WJ F m k (j+1) .u0) _ _ _ _ _) ba bd⟩
 refine U.aV ?_
 refine U.seq ?_
 refine U.rg [0,1,2,3,4] ?_
 refine U.lv 3 ?_
 refine sW λ m hm=>KW.ext rfl rfl rfl rfl abq rfl rfl λ _ w s _ bg hs _=>.inr ?_
 obtain ⟨iQ,hl⟩:=hs
 have h5:s.mu.ok 5:=zQ iQ (show (FT F).N≤5 from Nat.le_trans hN (by omega))
 have e:=aFD h5 hl
 have k5:Wd.ok F.N { s.mu with l:=0 }:=⟨Nat.zero_le _,iQ.2.1,iQ.2.2.1,iQ.2.2.2⟩
 by_cases qy:s.mu.s=1
 ·refine ⟨_,_,_,.us,_,yY bg.cm (bg.zm 0),.u0h qy,trivial,pG (.inl rfl),by rw [e]; exact cb.mu bg,λ ba bd=>(?_:U (WJ F m k (j+1) .us) _ _ _ _ _) ba bd⟩
  refine U.lv 1 ?_
  refine U.aV ?_
  refine U.is 2 (v':=.int .i32 (Wd.val { s.mu with l:=0 })) rfl (congrArg _ e) ?_
  refine U.seq ?_
  refine U.seq ?_
  refine U.rg [0,1] ?_
  refine U.lv 2 ?_
  refine U.aV ?_
  refine U.is 16 (v':=.bool true) rfl (congrArg Value.bool (by rw [bne_iff_ne]; simp only [Wd.val]; omega)) ?_
  refine U.fu rfl rfl ?_
  refine U.rg [0,1,2] ?_
  refine U.lv 2 ?_
  refine U.vy rfl rfl rfl rfl rfl aaM rfl (aEr (m:={ s.mu with l:=0 }) ⟨Nat.zero_le _,h5.2.1,h5.2.2.1,h5.2.2.2⟩ rfl qy m) λ ba bd n=>(?_:U (WJ F n k (j+1) .ue) _ _ _ _ _) ba bd
  refine U.aV ?_
  exact V2 hj hk n
 have Eo:s.mu.s=0:=by have:=iQ.2.2.1; omega
 by_cases hz:s.mu.w=0∧s.mu.s=0∧s.mu.n=0
 ·refine ⟨_,_,_,.ue,_,yY bg.cm (bg.zm 0),.u0z hz.1 hz.2.1 hz.2.2,trivial,pG (.inl rfl),by rw [e]; exact cb.mu bg,λ ba bd=>(?_:U (WJ F m k (j+1) .ue) _ _ _ _ _) ba bd⟩
  refine U.lv 1 ?_
  refine U.aV ?_
  refine U.is 2 (v':=.int .i32 (Wd.val { s.mu with l:=0 })) rfl (congrArg _ e) ?_
  refine U.seq ?_
  refine U.seq ?_
  refine U.rg [0,1] ?_
  refine U.lv 2 ?_
  refine U.aV ?_
  refine U.is 16 (v':=.bool false) rfl (congrArg Value.bool (by rw [bne_eq_false_iff_eq]; simp only [Wd.val]; omega)) ?_
  refine U.eD rfl rfl ?_
  refine U.skip ?_
  exact V2 hj hk m
 ·refine ⟨_,_,_,hu { s.mu with l:=0 },_,yY bg.cm (bg.zm 0),.x9 hz Eo,oy (by simp),pG (.inl rfl),by rw [e]; exact cb.mu bg,λ ba bd=>adQ ((?_:U (WJ F m k (j+1) (hu { s.mu with l:=0 })) _ _ _ _ _) ba bd)⟩
  refine U.lv 1 ?_
  refine U.aV ?_
  refine U.is 2 (v':=.int .i32 (Wd.val { s.mu with l:=0 })) rfl (congrArg _ e) ?_
  refine U.seq ?_
  refine U.seq ?_
  refine U.rg [0,1] ?_
  refine U.lv 2 ?_
  refine U.aV ?_
  refine U.is 16 (v':=.bool true) rfl (congrArg Value.bool (by rw [bne_iff_ne]; simp only [Wd.val]; omega)) ?_
  refine U.fu rfl rfl ?_
  refine U.rg [0,1,2] ?_
  refine U.lv 2 ?_
  refine U.vy rfl rfl rfl rfl rfl aaM rfl (aEt k5 rfl Eo m) λ ba bd n=>(?_:U (WJ F n k (j+1) .ue) _ _ _ _ _) ba bd
  refine U.aV ?_
  exact V2 hj hk n
theorem aEm{js:Nat→Nat}(hj:j+1≤F.J)(n:Nat):kC prog ((WJ F n k j (.ul js)).J R ((F.bo,F.cont (gb js k (j+1)))::H)) (P3 F k (j+1) R H) 174 [pm F]:=kC.bn func174 rfl rfl rfl λ fr cs hk=>by
 refine U.rg [0,1,2,3] ?_
 refine U.lv 3 ?_
 refine U.vy rfl rfl rfl rfl rfl akz rfl (ax7 hj n) λ ba bd=>⟨λ h n=>(?_:U (WJ F n k (j+1) .ld) _ _ _ _ _) ba bd,λ h n=>(?_:U (WJ F n k (j+1) .wv) _ _ _ _ _) ba bd⟩
 ·refine U.aV ?_
  exact U.pJ func174 rfl (hk.1 h n) (.inl rfl)
 ·refine U.aV ?_
  exact U.pJ func174 rfl (hk.2 h n) (.inl rfl)
end
end Go.Proofs.YtihapemckcdicaaGreatDoor
namespace Go.Proofs.YtihapemckcdicaaGreatDoor
open Go.Lg Go.Proofs Go.Conc Go.ConcN Tryz
set_option maxRecDepth 100000
set_option maxHeartbeats 4000000
section
variable {F:Fx} {R:ax} {H:an} {k j:Nat}
abbrev pw(F:Fx):Value:=.pointer (some (aw F))
noncomputable abbrev TQ (F:Fx) (n k j:Nat) (T:Lp) (R:ax) (H:an):=toJ prog (KW (FT F) n k j T R H)
theorem sQ{c:Ctx}{st:St}{todo:List Item}{n:Nat}{T:Lp}(h:∀ m,m < n→∀ tmps,cQ c.n st tmps→KW (FT F) (m+1) k j T R H (aY (aW c tmps todo) c.cs)):aE (TQ F n k j T R H) c st todo:=λ tmps ht=>by
 cases n with
 | zero=>exact ⟨0,trivial⟩
 | succ n=>exact ⟨0,h n (Nat.lt_succ_self n) tmps ht⟩
def Gone(g:Goroutine):Prop:=∃ q,QuitsD prog q 0 g
theorem F9(s:Sh):yp s=4294967296 * (s.v:Int)+s.w:=rfl
theorem ajJ{s:Sh}{w:World}(bg:fp (FT F) s w)(h0:s.ws=0):cb (FT F) { s with ws:=s.ws+1 } w (w.setCell (qg F) (.int .u32 (IntKind.u32.wrap ((s.ws:Int)+1)))):=by
 rw [wrap_u32 (by omega) (by omega)]
 exact cb.ws bg
theorem YW{n:Nat}{st:St}{fr:Frame}{cs:List Frame}{todo:List Item}{args:Array Value}(hk:Gone (aY (fr.finish (gZ [])) cs))(hm:todo=[]∨∃ k,todo = .code .ret::k):aE (xM prog 1) ⟨169,.normal,none,n,[dcall 192 args],fr::cs⟩ st todo:=by
 have key:∀ tmps todo,cQ n st tmps→(xM prog 1).Q (aY (iZ ⟨169,.normal,none,n,[dcall 192 args],fr::cs⟩ tmps todo) (fr::cs)):=λ tmps todo ht =>
  aCF rfl AX (QJ.back (J:=xM prog 0) func169 ht rfl hk)
 rcases hm with rfl | ⟨k,rfl⟩
 ·exact aE.QU rfl λ tmps ht=>key tmps _ ht
 ·exact aE.ret rfl λ tmps ht=>key tmps _ ht
noncomputable def Fl:Code:=match Tryz.f169.body with | some (.seq _ (.seq _ (.seq _ (.seq _ z))))=>z | _=>.skip
noncomputable def ajw:Code:=match Fl with | .seq _ (.seq _ (.seq _ (.seq _ (.seq _ (.seq _ (.seq (.seq _ x) _))))))=>x | _=>.skip
noncomputable def r27:Code:=match Fl with | .seq _ (.seq _ (.seq _ (.seq _ (.seq _ (.seq _ (.seq _ y))))))=>y | _=>.skip
theorem Ls{b:Option Int}{z y:Int}{p:Bool}(h:b=some z)(hp:(z != y)=p):Value.bool (b.getD 0 != y) = .bool p:=by rw [h]; exact congrArg _ hp
theorem YX{J:QJ prog}{c:Ctx}{st:St}{kk:List Item}{v w:Nat}(hc:c.kind = .normal)(hn:c.n=117)(hv:v≤5)(hw:w≤1)(cL:aF st [(0,pw F),(1,.int .i64 (-1)),(4,.bool false),(6,.int .u64 (4294967296 * (v:Int)+w))])
  (h:aE J c [(0,pw F),(4,.bool false),(6,.int .u64 (4294967296 * (v:Int)+w)),(8,.int .u32 w),(94,.bool (decide (0 < v∨w=0)))] (.code ajw :: .code r27::kk)):aE J c st (.code Fl::kk):=by
 obtain ⟨f,kind,ro,n,ds,cs⟩:=c
 dsimp only at hc hn
 subst hc hn
 obtain ⟨g1,g2,g3⟩:=XQ hv hw
 have gs:(4294967296 * (v:Int)+w).fdiv (2 ^ (min (32:Int).toNat IntKind.u64.bits))=(v:Int):=by simpa [nh] using g3
 refine aE.sub cL ?_
 refine aE.seq ?_
 refine aE.seq ?_
 refine aE.rg [0,1,2,3,4,5,6] ?_
 refine aE.lv 4 ?_
 refine aE.is 47 (v':=.bool false) rfl (Ls g1 rfl) ?_
 refine aE.lv 3 ?_
 refine aE.aV ?_
 refine aE.eD rfl ?_
 refine aE.skip ?_
 refine aE.seq ?_
 refine aE.rg [0,1,2,3] ?_
 refine aE.lv 4 ?_
 refine aE.aV ?_
 refine aE.is 7 (v':=.int .i32 (v:Int)) rfl (congrArg _ (by
  show IntKind.i32.wrap ((4294967296 * (v:Int)+w).fdiv (2 ^ (min (32:Int).toNat IntKind.u64.bits)))=_
  rw [gs,wrap_i32 (by omega) (by omega)])) ?_
 refine aE.seq ?_
 refine aE.rg [0,1,2,3] ?_
 refine aE.lv 4 ?_
 refine aE.aV ?_
 refine aE.is 8 (v':=.int .u32 (w:Int)) rfl (congrArg _ (by rw [g2,Option.getD_some]; exact wrap_u32 (by omega) (by omega))) ?_
 refine aE.seq ?_
 refine aE.seq ?_
 refine aE.rg [0,1,2,3,4,5,6,7,8,9] ?_
 refine aE.lv 5 ?_
 refine aE.is 62 (v':=.bool false) rfl (congrArg Value.bool (by decide)) ?_
 refine aE.lv 5 ?_
 refine aE.aV ?_
 refine aE.eD rfl ?_
 refine aE.skip ?_
 refine aE.seq ?_
 refine aE.seq ?_
 refine aE.rg [0,1] ?_
 refine aE.lv 2 ?_
 refine aE.aV ?_
 refine aE.is 74 (v':=.bool false) rfl (congrArg Value.bool (by rw [decide_eq_false_iff_not]; omega)) ?_
 refine aE.eD rfl ?_
 refine aE.skip ?_
 refine aE.seq ?_
 refine aE.seq ?_
 refine aE.rg [0,1,2,3,4,5,6,7,8,9,10,11] ?_
 refine aE.lv 3 ?_
 rcases (show w=0∨w=1 by omega) with rfl | rfl
 ·refine aE.is 78 (v':=.bool false) rfl rfl ?_
  refine aE.lv 9 ?_
  refine aE.aV ?_
  refine aE.eD rfl ?_
  refine aE.skip ?_
  refine aE.seq ?_
  refine aE.seq ?_
  refine aE.rg [0,1,2,3,4,5] ?_
  refine aE.lv 3 ?_
  by_cases h0:0 < v
  ·refine aE.is 91 (v':=.bool true) rfl (congrArg Value.bool (by rw [decide_eq_true_iff]; omega)) ?_
   refine aE.lv 3 ?_
   refine aE.aV ?_
   refine aE.is 94 (v':=.bool (decide (0 < v∨0=0))) rfl (congrArg Value.bool (by simp [h0])) ?_
   refine aE.sub ?_ h
   exact bU.sub ⟨rfl,rfl,rfl,rfl,rfl,trivial⟩
  ·refine aE.is 91 (v':=.bool false) rfl (congrArg Value.bool (by rw [decide_eq_false_iff_not]; omega)) ?_
   refine aE.lv 3 ?_
   refine aE.aV ?_
   refine aE.is 94 (v':=.bool (decide (0 < v∨0=0))) rfl (congrArg Value.bool (by simp [h0])) ?_
   refine aE.sub ?_ h
   exact bU.sub ⟨rfl,rfl,rfl,rfl,rfl,trivial⟩
 ·refine aE.is 78 (v':=.bool true) rfl rfl ?_
  refine aE.lv 3 ?_
  refine aE.is 81 (v':=.bool false) rfl (congrArg Value.bool (by decide)) ?_
  refine aE.lv 6 ?_
  refine aE.aV ?_
  refine aE.eD rfl ?_
  refine aE.skip ?_
  refine aE.seq ?_
  refine aE.seq ?_
  refine aE.rg [0,1,2,3,4,5] ?_
  refine aE.lv 3 ?_
  by_cases h0:0 < v
  ·refine aE.is 91 (v':=.bool true) rfl (congrArg Value.bool (by rw [decide_eq_true_iff]; omega)) ?_
   refine aE.lv 3 ?_
   refine aE.aV ?_
   refine aE.is 94 (v':=.bool (decide (0 < v∨1=0))) rfl (congrArg Value.bool (by simp [h0])) ?_
   refine aE.sub ?_ h
   exact bU.sub ⟨rfl,rfl,rfl,rfl,rfl,trivial⟩
  ·refine aE.is 91 (v':=.bool false) rfl (congrArg Value.bool (by rw [decide_eq_false_iff_not]; omega)) ?_
   refine aE.lv 3 ?_
   refine aE.aV ?_
   refine aE.is 94 (v':=.bool (decide (0 < v∨1=0))) rfl (congrArg Value.bool (by simp [h0])) ?_
   refine aE.sub ?_ h
   exact bU.sub ⟨rfl,rfl,rfl,rfl,rfl,trivial⟩
theorem aFx(n:Nat):kC prog ((WJ F n k j .wv).J R H) Gone 169 [pw F,.int .i64 (-1)]:=kC.bn func169 rfl rfl rfl λ fr cs hk=>by
 have hN:=F.hN
 refine U.seq ?_
 refine U.fu rfl rfl ?_
 refine U.seq ?_
 refine U.seq ?_
 refine U.rg [0,1] ?_
 refine U.lv 2 ?_
 refine U.aV ?_
 refine U.fu rfl (by decide) ?_
 refine U.rg [0,1,2] ?_
 refine U.lv 1 ?_
 refine sW λ m hm=>KW.conv rfl rfl rfl rfl rfl Xv rfl P8 ⟨by simp,by simp⟩ pF (λ _=>.wv) trivial λ ba bd=>(?_:U (WJ F m k j .wr) _ _ _ _ _) ba bd
 refine sW λ m hm=>KW.ext rfl rfl rfl rfl abn rfl rfl λ _ w s _ bg _ _=>.inr ⟨_,w,_,.wk,s,AS (λ _ _=>by simp) rfl,.wr,trivial,rfl,cb.refl bg,λ ba bd=>(?_:aE (TQ F m k j .wk R H) _ _ _) ba bd⟩
 refine aE.aV ?_
 refine aE.seq ?_
 refine aE.rg [0] ?_
 refine sQ λ m hm=>KW.ext rfl rfl rfl rfl Hk rfl rfl λ _ w s _ bg _ _=>.inr ⟨_,w,_,.d1,s,qk (by simp),.wk,trivial,rfl,cb.refl bg,λ ba bd=>(?_:aE (TQ F m k j .d1 R H) _ _ _) ba bd⟩
 refine aE.aV ?_
 refine aE.rg [0] ?_
 refine aE.defer rfl rfl rfl rfl rfl rfl rfl (.NA rfl) ?_
 refine aE.aV ?_
 refine aE.seq ?_
 refine aE.rg [0] ?_
 refine aE.lv 1 ?_
 refine aE.aV ?_
 refine aE.seq ?_
 refine aE.seq ?_
 refine aE.rg [0] ?_
 refine aE.ext rfl rfl rfl rfl rfl abo rfl (λ w=>Q8) (.put rfl) ?_
 refine aE.aV ?_
 refine aE.eD rfl ?_
 refine aE.skip ?_
 refine aE.seq ?_
 refine aE.rg [0,1,2,3,4,5,6,7] ?_
 refine aE.lv 6 ?_
 refine aE.is 42 (v':=.int .u64 18446744069414584320) rfl (congrArg _ (by decide +kernel)) ?_
 refine aE.enter rfl rfl rfl rfl rfl func197 (by decide +kernel) rfl rfl rfl λ aeZ xd=>?_
 refine aE.seq ?_
 refine aE.rg [0] ?_
 refine aE.lv 1 ?_
 refine aE.aV ?_
 refine aE.seq ?_
 refine aE.rg [0,1,2,3,4,5] ?_
 refine aE.lv 4 ?_
 refine sQ λ m hm=>KW.ext rfl rfl rfl rfl abp rfl rfl λ _ w s _ bg _ l6=>.inr ?_
 obtain ⟨v1,v2,w1⟩:=l6
 have v2':s.v≤F.N:=v2
 have ev:IntKind.u64.wrap (yp s+18446744069414584320)=4294967296 * ((s.v - 1:Nat):Int)+s.w:=by rw [F9,aFK (by omega) (by omega)]; omega
 by_cases hq:s.v≠1∨s.w=0
 ·refine ⟨_,_,_,.quit,_,yY bg.cg (bg.zg 0),.Hg hq,trivial,pG (.inr rfl),by rw [ev]; exact cb.wg bg,λ ba bd=>(?_:aE (xM prog 1) _ _ _) ba bd⟩
  refine aE.lv 1 ?_
  refine aE.is 4 (v':=.int .u64 (4294967296 * ((s.v - 1:Nat):Int)+s.w)) rfl (congrArg _ ev) ?_
  refine aE.aV ?_
  refine aE.ret rfl λ tmps ht=>QJ.back (J:=xM prog 1) (vs:=[.int .u64 (4294967296 * ((s.v - 1:Nat):Int)+s.w)]) func197 ht rfl (aE.resume (c':=⟨0,.normal,none,0,[],_⟩) rfl xd rfl (.put rfl) ?_ rfl)
  refine aE.lv 1 ?_
  refine aE.aV ?_
  refine YX (F:=F) (v:=s.v - 1) (w:=s.w) rfl rfl (by omega) w1 ?_ ?_
  ·exact bU.sub ⟨rfl,rfl,rfl,rfl,trivial⟩
  ·refine aE.is 94 (v':=.bool true) rfl (congrArg Value.bool (by rw [decide_eq_true_iff]; omega)) ?_
   refine aE.fu rfl ?_
   exact YW hk (.inr ⟨_,rfl⟩)
 ·have h1:s.v=1:=by omega
  have h2:s.w=1:=by omega
  refine ⟨_,_,_,.d2,_,yY bg.cg (bg.zg 0),.QR h1 h2,trivial,pG (.inr rfl),by rw [ev,h1]; exact cb.wg bg,λ ba bd=>(?_:aE (TQ F m k j .d2 R H) _ _ _) ba bd⟩
  refine aE.lv 1 ?_
  refine aE.is 4 (v':=.int .u64 (4294967296 * ((0:Nat):Int)+((1:Nat):Int))) rfl (congrArg _ (by rw [ev,h1,h2])) ?_
  refine aE.aV ?_
  refine aE.ret rfl λ tmps ht=>QJ.back (J:=TQ F m k j .d2 R H) (vs:=[.int .u64 (4294967296 * ((0:Nat):Int)+((1:Nat):Int))]) func197 ht rfl (aE.resume (c':=⟨0,.normal,none,0,[],_⟩) rfl xd rfl (.put rfl) ?_ rfl)
  refine aE.lv 1 ?_
  refine aE.aV ?_
  refine YX (F:=F) (v:=0) (w:=1) rfl rfl (by omega) (by omega) ?_ ?_
  ·exact bU.sub ⟨rfl,rfl,rfl,rfl,trivial⟩
  refine aE.is 94 (v':=.bool false) rfl rfl ?_
  refine aE.eD rfl ?_
  refine aE.skip ?_
  refine aE.seq ?_
  refine aE.seq ?_
  refine aE.rg [0,1,2,3,4,5] ?_
  refine aE.lv 3 ?_
  refine aE.enter rfl rfl rfl rfl rfl func199 (by decide +kernel) rfl rfl rfl λ aEg MG=>?_
  refine aE.seq ?_
  refine aE.rg [0] ?_
  refine aE.lv 1 ?_
  refine aE.aV ?_
  refine aE.seq ?_
  refine aE.rg [0,1,2,3,4] ?_
  refine aE.lv 3 ?_
  refine sQ λ m hm=>KW.ext rfl rfl rfl rfl Rl rfl rfl λ _ w s _ bg _ l6=>.inr ⟨_,_,_,.d3,_,LX bg.cg,.d2,trivial,wj (.inr rfl),cb.refl bg,λ ba bd=>(?_:aE (TQ F m k j .d3 R H) _ _ _) ba bd⟩
  obtain ⟨g1,g2⟩:=l6
  refine aE.lv 1 ?_
  refine aE.is 2 (v':=.int .u64 (4294967296 * ((0:Nat):Int)+((1:Nat):Int))) rfl (congrArg _ (by rw [F9,g1,g2])) ?_
  refine aE.aV ?_
  refine aE.ret rfl λ tmps ht=>QJ.back (J:=TQ F m k j .d3 R H) (vs:=[.int .u64 (4294967296 * ((0:Nat):Int)+((1:Nat):Int))]) func199 ht rfl (aE.resume (c':=⟨0,.normal,none,0,[],_⟩) rfl MG rfl (.put rfl) ?_ rfl)
  refine aE.lv 2 ?_
  refine aE.aV ?_
  refine aE.is 100 (v':=.bool false) rfl rfl ?_
  refine aE.eD rfl ?_
  refine aE.skip ?_
  refine aE.seq ?_
  refine aE.rg [0,1,2,3] ?_
  refine aE.lv 3 ?_
  refine aE.enter rfl rfl rfl rfl rfl func200 (by decide +kernel) rfl rfl rfl λ aEh UL=>?_
  refine aE.rg [0,1,2,3,4] ?_
  refine aE.lv 4 ?_
  refine sQ λ m hm=>KW.ext rfl rfl rfl rfl ami rfl rfl λ _ w s _ bg _ l6=>.inr ⟨_,_,_,.d4,_,ale bg.cg (bg.zg 0),.d3,trivial,aiK (.inr rfl),cb.wg (v:=0) (u:=0) bg,λ ba bd=>(?_:aE (TQ F m k j .d4 R H) _ _ _) ba bd⟩
  refine aE.aV ?_
  refine aE.QU rfl λ tmps ht=>QJ.back (J:=TQ F m k j .d4 R H) (vs:=[]) func200 ht rfl (aE.resume (c':=⟨0,.normal,none,0,[],_⟩) rfl UL rfl (.put rfl) ?_ rfl)
  refine aE.aV ?_
  refine aE.seq ?_
  refine aE.seq ?_
  refine aE.rg [0] ?_
  refine aE.lv 1 ?_
  refine aE.aV ?_
  refine aE.eD rfl ?_
  refine aE.skip ?_
  refine aE.block ?_
  refine aE.enterLoop ?_
  refine aE.seq ?_
  refine aE.seq ?_
  refine aE.rg [0,1] ?_
  refine aE.lv 2 ?_
  refine aE.aV ?_
  refine aE.is 110 (v':=.bool true) rfl rfl ?_
  refine aE.fu rfl ?_
  refine aE.skip ?_
  refine aE.seq ?_
  refine aE.block ?_
  refine aE.rg [0,1,2,3] ?_
  refine aE.lv 3 ?_
  refine sQ λ m hm=>KW.ext rfl rfl rfl rfl amf rfl rfl λ _ w s _ bg _ l6=>.inr ⟨_,_,_,.quit,_,Q9 rfl bg.LF (bg.zg 1),.d4,trivial,GU (.inr rfl),ajJ bg l6,λ ba bd=>(?_:aE (xM prog 1) _ _ _) ba bd⟩
  refine aE.aV ?_
  refine aE.inBlock ?_
  refine aE.rg [0,1,2] ?_
  refine aE.lv 3 ?_
  refine aE.aV ?_
  refine aE.is 8 (v':=.int .u32 0) rfl rfl ?_
  refine aE.inLoop ?_
  refine aE.seq ?_
  refine aE.seq ?_
  refine aE.rg [0,1] ?_
  refine aE.lv 2 ?_
  refine aE.aV ?_
  refine aE.is 110 (v':=.bool false) rfl rfl ?_
  refine aE.eD rfl ?_
  refine aE.exit rfl ?_
  exact YW hk (.inl rfl)
theorem ajG{fr:Frame}{cs:List Frame}(ze:fr.mode = .returning∨fr.mode = .panicking [goexitEntry])(hk:Gone (aY fr cs))(n:Nat):(WJ F n k j .wv).J R H (aY (Frame.enter prog 171 #[pw F] .deferred) (fr::cs)):=by
 refine Jd.enter (args:=[pw F]) func171 rfl rfl rfl ?_
 refine U.rg [0,1] ?_
 refine U.lv 1 ?_
 refine U.vy rfl rfl rfl rfl rfl aaJ rfl (aFx n) λ ba bd=>(?_:aE (xM prog 0) _ _ _) ba bd
 refine aE.aV ?_
 exact aE.QU rfl λ tmps ht=>QJ.Zv (J:=xM prog 0) func171 ht rfl ze hk
end
section
variable {P:Program} {B:Base} {main:Bool} {ae:Jd P B main} {c:Ctx} {R:ax} {H:an} {st st':St} {k:List Item} {ops:Array Oper} {i:Nat} {rest:List Nat} {o:Oper} {v:Value}
theorem U.M0{f:FuncId}{fn:Func}{body:Code}{xs:Array Operand}{ig:Array TypeId}{vs:List Value}{n:Nat}(ho:ops[i]? = some o)(hw:cJ ops st o=some true)(hk:(c.kind == CallKind.early)=false)(au:o.op = .call ⟨.value (.func f),xs,ig⟩)(ha:iD st xs.toList=some vs)
  (hf:P.funcs[f]? = some fn) (H3:(fn.name == "runtime.NumGoroutine")=false) (hb:fn.body=some body) (qx:fn.ntmps=n) (hn:Nat.ble vs.length n=true)
  (h:∀ tmps,cQ c.n st tmps→U ae ⟨f,.normal,none,n,[],aW c tmps (.inRegion ops (i::rest)::k)::c.cs⟩ R H (uH 0 vs) [.code body]):U ae c R H st (.inRegion ops (i::rest)::k):=λ tmps ht=>by
 have hv:ai P (execOp (aW c tmps (.inRegion ops (i::rest)::k)).eval o) (.enter f vs.toArray):=by
  rw [D5 au ht ha]
  exact C2 hf H3 (by rw [hb]; rfl)
 refine Jd.ctl rfl (λ w=>?_) (Jd.enter hf hb qx hn (h tmps ht))
 rw [po ho (kz ht hw) (by rw [au]; rfl),GQ rfl (by simpa [aW] using hk) (hv w).1,(hv w).2]
 rfl
theorem U.CF{tmps:Array Value}{f:FuncId}{fn:Func}{n:Nat}{vs:List Value}{stf:St}{kf:List Item}(hf:P.funcs[f]? = some fn)(hr:xP stf fn.results.toList=some vs)(ho:ops[i]? = some o)(ht:cQ c.n st tmps)(hd:bV o.dst c.n)(hs:aF (bW o.dst (gZ vs) st) st')(h:U ae c R H st' (.inRegion ops rest::k)) :
  U ae ⟨f,.normal,none,n,[],aW c tmps (.inRegion ops (i::rest)::k)::c.cs⟩ R H stf (.code .ret::kf) :=
 U.Xt rfl λ ba bd=>Jd.back hf bd hr (by rw [pK ho]; exact h _ ((ht.put _ hd).sub hs))
end
end Go.Proofs.YtihapemckcdicaaGreatDoor
namespace Go.Proofs.YtihapemckcdicaaGreatDoor
open Go.Lg Go.Proofs Go.Conc Go.ConcN Tryz
set_option maxRecDepth 100000
set_option maxHeartbeats 4000000
section
variable {F:Fx} {R:ax} {H:an}
noncomputable abbrev fX (F:Fx) (n:Nat) (T:Mp):=JV prog F.B true (KM (FT F) n T)
theorem sM{c:Ctx}{st:St}{todo:List Item}{n:Nat}{T:Mp}(h:∀ m,m < n→∀ tmps,cQ c.n st tmps→KM (FT F) (m+1) T R H (aY (aW c tmps todo) c.cs)):U (fX F n T) c R H st todo:=U.aD4 (F:=FT F) h
def Yn(F:Fx)(r:Nat)(R:ax)(H:an)(g:Goroutine):Prop:=∀ n,Own prog F.B true (KM (FT F) n (.go r)) R H g
noncomputable def t22:Code:=match Fl with | .seq _ (.seq _ (.seq _ (.seq _ y)))=>y | _=>.skip
noncomputable def ajv:Code:=match Fl with | .seq _ (.seq _ (.seq _ (.seq (.seq _ x) _)))=>x | _=>.skip
theorem adG{r:Nat}{fr:Frame}{cs:List Frame}{args:Array Value}{st:St}{v:Nat}(hk:Yn F r R H (aY (fr.finish (gZ [])) cs))(h1:1≤v)(h5:v≤5)(cL:aF st [(0,pw F),(1,.int .i64 1),(7,.int .i32 (v:Int)),(8,.int .u32 0)])(n:Nat) :
  U (fX F n (.ke r)) ⟨169,.normal,none,117,[dcall 192 args],fr::cs⟩ R H st [.code t22]:=by
 refine U.sub cL ?_
 refine U.seq ?_
 refine U.seq ?_
 refine U.rg [0,1] ?_
 refine U.lv 2 ?_
 refine U.aV ?_
 refine U.is 74 (v':=.bool false) rfl (congrArg Value.bool (by rw [decide_eq_false_iff_not]; omega)) ?_
 refine U.eD rfl rfl ?_
 refine U.skip ?_
 refine U.seq ?_
 refine U.seq ?_
 refine U.rg [0,1,2,3,4,5,6,7,8,9,10,11] ?_
 refine U.lv 3 ?_
 refine U.is 78 (v':=.bool false) rfl rfl ?_
 refine U.lv 9 ?_
 refine U.aV ?_
 refine U.eD rfl rfl ?_
 refine U.skip ?_
 refine U.seq ?_
 refine U.seq ?_
 refine U.rg [0,1,2,3,4,5] ?_
 refine U.lv 3 ?_
 refine U.is 91 (v':=.bool true) rfl (congrArg Value.bool (by rw [decide_eq_true_iff]; omega)) ?_
 refine U.lv 3 ?_
 refine U.aV ?_
 refine U.fu rfl rfl ?_
 refine U.Xt rfl λ tmps ht=>?_
 cases n with
 | zero=>exact Own.stop _ _ _ _ trivial
 | succ n=>exact Own.stop _ _ _ _ (KM.unwind (F:=FT F) rfl AX (Jd.back (ae:=fX F n (.go r)) func169 ht rfl (hk n)))
theorem aBm(r n:Nat):kC prog ((fX F n (.ka r)).J R H) (Yn F r R H) 169 [pw F,.int .i64 1]:=kC.bn func169 rfl rfl rfl λ fr cs hk=>by
 have hN:=F.hN
 refine U.seq ?_
 refine U.fu rfl rfl ?_
 refine U.seq ?_
 refine U.seq ?_
 refine U.rg [0,1] ?_
 refine U.lv 2 ?_
 refine U.aV ?_
 refine U.eD rfl (by decide) ?_
 refine U.skip ?_
 refine U.seq ?_
 refine U.rg [0] ?_
 refine sM λ m hm=>KM.ext rfl rfl rfl rfl Hk rfl rfl (by simp) (by simp) λ w s _ bg _=>.inr ⟨_,w,_,.kc r,s,qk (by simp),.ka,rfl,cb.refl bg,λ ba bd=>(?_:U (fX F m (.kc r)) _ _ _ _ _) ba bd⟩
 refine U.aV ?_
 refine U.rg [0] ?_
 refine U.defer rfl rfl rfl rfl rfl rfl rfl (.NA rfl) ?_
 refine U.aV ?_
 refine U.seq ?_
 refine U.rg [0] ?_
 refine U.lv 1 ?_
 refine U.aV ?_
 refine U.seq ?_
 refine U.seq ?_
 refine U.rg [0] ?_
 refine U.ext rfl rfl rfl rfl rfl abo rfl (λ w=>Q8) (.put rfl) ?_
 refine U.aV ?_
 refine U.eD rfl rfl ?_
 refine U.skip ?_
 refine U.seq ?_
 refine U.rg [0,1,2,3,4,5,6,7] ?_
 refine U.lv 6 ?_
 refine U.is 42 (v':=.int .u64 4294967296) rfl (congrArg _ (by decide +kernel)) ?_
 refine U.M0 rfl rfl rfl rfl rfl func197 (by decide +kernel) rfl rfl rfl λ aeZ xd=>?_
 refine U.seq ?_
 refine U.rg [0] ?_
 refine U.lv 1 ?_
 refine U.aV ?_
 refine U.seq ?_
 refine U.rg [0,1,2,3,4,5] ?_
 refine U.lv 4 ?_
 refine sM λ m hm=>KM.ext rfl rfl rfl rfl abp rfl rfl (by simp) (by simp) λ w s _ bg l6=>.inr ?_
 obtain ⟨w0,v1⟩:=l6
 have v1':s.v+1≤F.N:=v1
 have ev:IntKind.u64.wrap (yp s+4294967296)=4294967296 * ((s.v+1:Nat):Int)+((0:Nat):Int):=by rw [F9,afY (by omega) (by omega)]; omega
 obtain ⟨g1,g2,g3⟩:=XQ (v:=s.v+1) (w:=0) (by omega) (by omega)
 have gs:(4294967296 * ((s.v+1:Nat):Int)+((0:Nat):Int)).fdiv (2 ^ (min (32:Int).toNat IntKind.u64.bits))=((s.v+1:Nat):Int):=by simpa [nh] using g3
 have afV:cb (FT F) { s with v:=s.v+1 } w (w.setCell (aw F) (.int .u64 (IntKind.u64.wrap (yp s+4294967296)))):=by
  rw [ev]; have:=cb.wg (F:=FT F) (v:=s.v+1) (u:=0) bg
  rw [show ({ s with v:=s.v+1 }:Sh)={ s with v:=s.v+1,w:=0 } by rw [← w0]]; exact this
 have go:∀ (T:Mp) (hT:U (fX F m T) ⟨169,.normal,none,117,[dcall 192 #[]],fr::cs⟩ R H [(0,pw F),(1,.int .i64 1),(7,.int .i32 ((s.v+1:Nat):Int)),(8,.int .u32 0),(67,.bool (decide (s.v+1=1)))] [.code ajv,.code t22]) (st:St),
   aF st [(0,pw F),(1,.int .i64 1),(4,.bool false),(6,.int .u64 (4294967296 * ((s.v+1:Nat):Int)+((0:Nat):Int)))]→U (fX F m T) ⟨169,.normal,none,117,[dcall 192 #[]],fr::cs⟩ R H st [.code Fl]:=by
  intro T hT st cL
  refine U.sub cL ?_
  refine U.seq ?_
  refine U.seq ?_
  refine U.rg [0,1,2,3,4,5,6] ?_
  refine U.lv 4 ?_
  refine U.is 47 (v':=.bool false) rfl (Ls g1 rfl) ?_
  refine U.lv 3 ?_
  refine U.aV ?_
  refine U.eD rfl rfl ?_
  refine U.skip ?_
  refine U.seq ?_
  refine U.rg [0,1,2,3] ?_
  refine U.lv 4 ?_
  refine U.aV ?_
  refine U.is 7 (v':=.int .i32 ((s.v+1:Nat):Int)) rfl (congrArg _ (by
   show IntKind.i32.wrap ((4294967296 * ((s.v+1:Nat):Int)+((0:Nat):Int)).fdiv (2 ^ (min (32:Int).toNat IntKind.u64.bits)))=_
   rw [gs,wrap_i32 (by omega) (by omega)])) ?_
  refine U.seq ?_
  refine U.rg [0,1,2,3] ?_
  refine U.lv 4 ?_
  refine U.aV ?_
  refine U.is 8 (v':=.int .u32 0) rfl (congrArg _ (by rw [g2,Option.getD_some]; exact wrap_u32 (by omega) (by omega))) ?_
  refine U.seq ?_
  refine U.seq ?_
  refine U.rg [0,1,2,3,4,5,6,7,8,9] ?_
  refine U.lv 5 ?_
  refine U.is 62 (v':=.bool true) rfl (congrArg Value.bool (by decide)) ?_
  refine U.lv 4 ?_
  refine U.is 66 (v':=.bool (decide (s.v+1=1))) rfl (congrArg Value.bool (Zy (by rw [wrap_i32 (by omega) (by omega)]; omega))) ?_
  refine U.lv 1 ?_
  refine U.aV ?_
  refine U.sub ?_ hT
  exact bU.sub ⟨rfl,rfl,rfl,rfl,rfl,trivial⟩
 by_cases hv:s.v=0
 ·refine ⟨_,_,_,.kv r,{ s with v:=1 },yY bg.cg (bg.zg 0),.kc1 hv,pG (.inr rfl),by have:=afV; simp only [hv] at this; exact this,λ ba bd=>(?_:U (fX F m (.kv r)) _ _ _ _ _) ba bd⟩
  refine U.lv 1 ?_
  refine U.is 4 (v':=.int .u64 (4294967296 * ((s.v+1:Nat):Int)+((0:Nat):Int))) rfl (congrArg _ ev) ?_
  refine U.aV ?_
  refine U.CF func197 rfl rfl xd rfl (.put rfl) ?_
  refine U.lv 1 ?_
  refine U.aV ?_
  refine go _ ?_ _ ?_
  ·refine U.fu rfl (by rw [decide_eq_true_iff]; omega) ?_
   refine U.rg [0,1,2,3,4] ?_
   refine U.lv 3 ?_
   refine sM λ m hm=>KM.conv rfl rfl rfl rfl rfl ae3 rfl Ze (by simp) (by simp) pF (λ _=>.kv) λ ba bd=>(?_:U (fX F m (.kd r)) _ _ _ _ _) ba bd
   refine sM λ m hm=>KM.ext rfl rfl rfl rfl ame rfl rfl (by simp) (by simp) λ w s1 _ Bq _=>.inr ⟨_,w,_,.ke r,s1,AS (λ _ _=>by simp) rfl,.kd,rfl,cb.refl Bq,λ ba bd=>(?_:U (fX F m (.ke r)) _ _ _ _ _) ba bd⟩
   refine U.aV ?_
   refine adG hk (v:=s.v+1) (by omega) (by omega) ?_ m
   exact bU.sub ⟨rfl,rfl,rfl,rfl,trivial⟩
  ·exact bU.sub ⟨rfl,rfl,rfl,rfl,trivial⟩
 ·refine ⟨_,_,_,.ke r,_,yY bg.cg (bg.zg 0),.kcn hv,pG (.inr rfl),afV,λ ba bd=>(?_:U (fX F m (.ke r)) _ _ _ _ _) ba bd⟩
  refine U.lv 1 ?_
  refine U.is 4 (v':=.int .u64 (4294967296 * ((s.v+1:Nat):Int)+((0:Nat):Int))) rfl (congrArg _ ev) ?_
  refine U.aV ?_
  refine U.CF func197 rfl rfl xd rfl (.put rfl) ?_
  refine U.lv 1 ?_
  refine U.aV ?_
  refine go _ ?_ _ ?_
  ·refine U.eD rfl (by rw [decide_eq_false_iff_not]; omega) ?_
   refine U.skip ?_
   refine adG hk (v:=s.v+1) (by omega) (by omega) ?_ m
   exact bU.sub ⟨rfl,rfl,rfl,rfl,trivial⟩
  ·exact bU.sub ⟨rfl,rfl,rfl,rfl,trivial⟩
end
end Go.Proofs.YtihapemckcdicaaGreatDoor
namespace Go.Proofs.YtihapemckcdicaaGreatDoor
open Go.Lg Go.Proofs Go.Conc Go.ConcN Tryz
set_option maxRecDepth 100000
set_option maxHeartbeats 4000000
section
variable {F:Fx} {R:ax} {H:an} {Post:Value→World→Prop}
def YS(F:Fx)(R:ax)(H:an)(g:Goroutine):Prop:=∀ js,(∀ k,k < F.N→js k=F.J)→F.mj R ((F.bo,F.cont js)::H) g
noncomputable def acW:Code:=(vx (Tryz.f175.body.getD .skip)).getD .skip
abbrev aFy(fr:Frame)(cs:List Frame):Ctx:=⟨175,.normal,none,84,[],fr::cs⟩
theorem aFz(rO:F.mj=iB prog F.B Post){fr:Frame}{cs:List Frame}{todo:List Item}(hk:YS F R H (aY (fr.finish (gZ [])) cs))(n:Nat):U (fX F n .w1) (aFy fr cs) R H [(0,pw F)] (.code acW :: .inLoop acW::todo):=by
 have hN:=F.hN
 refine U.head (X:=Unit) (Jn:=λ n _=>fX F n .w1) (S:=λ _=>[(0,pw F)]) (ok:=λ _=>True) (λ n ih _ _=>?_) n () trivial
 refine U.block ?_
 refine U.seq ?_
 refine U.rg [0,1,2,3,4] ?_
 refine U.lv 3 ?_
 refine U.M0 rfl rfl rfl rfl rfl func199 (by decide +kernel) rfl rfl rfl λ aeZ xd=>?_
 refine U.seq ?_
 refine U.rg [0] ?_
 refine U.lv 1 ?_
 refine U.aV ?_
 refine U.seq ?_
 refine U.rg [0,1,2,3,4] ?_
 refine U.lv 3 ?_
 refine sM λ m hm=>KM.ext rfl rfl rfl rfl Rl rfl rfl (by simp) (by simp) λ w s _ bg l6=>.inr ?_
 obtain ⟨w0,v1⟩:=l6
 have v1':s.v≤F.N:=v1
 have ev:yp s=4294967296 * (s.v:Int)+((0:Nat):Int):=by rw [F9,w0]
 obtain ⟨g1,g2,g3⟩:=XQ (v:=s.v) (w:=0) (by omega) (by omega)
 have gs:(4294967296 * (s.v:Int)+((0:Nat):Int)).fdiv (2 ^ (min (32:Int).toNat IntKind.u64.bits))=(s.v:Int):=by simpa [nh] using g3
 by_cases hv:s.v=0
 ·refine ⟨_,_,_,.we,s,LX bg.cg,.w1z hv,wj (.inr rfl),cb.refl bg,λ ba bd=>(?_:U (fX F m .we) _ _ _ _ _) ba bd⟩
  refine U.lv 1 ?_
  refine U.is 2 (v':=.int .u64 (4294967296 * (s.v:Int)+((0:Nat):Int))) rfl (congrArg _ ev) ?_
  refine U.aV ?_
  refine U.CF func199 rfl rfl xd rfl (.put rfl) ?_
  refine U.lv 1 ?_
  refine U.aV ?_
  refine U.seq ?_
  refine U.rg [0,1,2,3] ?_
  refine U.lv 4 ?_
  refine U.aV ?_
  refine U.is 3 (v':=.int .i32 (s.v:Int)) rfl (congrArg _ (by
   show IntKind.i32.wrap ((4294967296 * (s.v:Int)+((0:Nat):Int)).fdiv (2 ^ (min (32:Int).toNat IntKind.u64.bits)))=_
   rw [gs,wrap_i32 (by omega) (by omega)])) ?_
  refine U.seq ?_
  refine U.rg [0,1,2,3] ?_
  refine U.lv 4 ?_
  refine U.aV ?_
  refine U.is 4 (v':=.int .u32 0) rfl (congrArg _ (by rw [g2,Option.getD_some]; exact wrap_u32 (by omega) (by omega))) ?_
  refine U.seq ?_
  refine U.seq ?_
  refine U.rg [0,1] ?_
  refine U.lv 2 ?_
  refine U.aV ?_
  refine U.is 19 (v':=.bool true) rfl (congrArg Value.bool (by rw [hv]; rfl)) ?_
  refine U.fu rfl rfl ?_
  refine U.seq ?_
  refine U.fu rfl rfl ?_
  refine U.seq ?_
  refine U.rg [0] ?_
  refine sM λ m hm=>KM.ext rfl rfl rfl rfl AX rfl rfl (by simp) (by simp) λ w s1 _ Bq _=>.inr ⟨_,w,_,.qv,s1,qk (by simp),.we,rfl,cb.refl Bq,λ ba bd=>(?_:U (fX F m .qv) _ _ _ _ _) ba bd⟩
  refine U.aV ?_
  refine U.rg [0,1,2] ?_
  refine U.lv 1 ?_
  refine sM λ m hm=>KM.conv rfl rfl rfl rfl rfl Xv rfl P8 (by simp) (by simp) pF (λ _=>.qv) λ ba bd=>(?_:U (fX F m .wq) _ _ _ _ _) ba bd
  refine sM λ m hm=>KM.acq rfl rfl rfl rfl L2 rfl rfl rfl λ js gU ba bd=>?_
  have dI:=hk js gU
  show F.mj _ _ _
  rw [rO] at dI ⊢
  refine (?_:U (Cy prog F.B Post) _ _ _ _ _) ba bd
  refine U.aV ?_
  refine U.seq ?_
  refine U.seq ?_
  refine U.rg [0,1,2,3,4,5,6,7,8,9,10] ?_
  refine U.lv 2 ?_
  refine U.is 25 (v':=.bool true) rfl rfl ?_
  refine U.lv 4 ?_
  refine U.is 29 (v':=.bool false) rfl (Ls g1 rfl) ?_
  refine U.lv 5 ?_
  refine U.aV ?_
  refine U.eD rfl rfl ?_
  refine U.skip ?_
  exact U.pJ func175 rfl dI (.inr ⟨_,rfl⟩)
 ·refine ⟨_,_,_,.w2 s.v,s,LX bg.cg,.w1n hv,wj (.inr rfl),cb.refl bg,λ ba bd=>(?_:U (fX F m (.w2 s.v)) _ _ _ _ _) ba bd⟩
  refine U.lv 1 ?_
  refine U.is 2 (v':=.int .u64 (4294967296 * (s.v:Int)+((0:Nat):Int))) rfl (congrArg _ ev) ?_
  refine U.aV ?_
  refine U.CF func199 rfl rfl xd rfl (.put rfl) ?_
  refine U.sub (st':=[(0,pw F),(11,.int .u64 (4294967296 * (s.v:Int)+((0:Nat):Int)))]) (bU.sub ⟨rfl,rfl,trivial⟩) ?_
  clear ev bg bd xd
  generalize s.v=u at hv v1' g1 g2 g3 gs v1 ⊢
  refine U.lv 1 ?_
  refine U.aV ?_
  refine U.seq ?_
  refine U.rg [0,1,2,3] ?_
  refine U.lv 4 ?_
  refine U.aV ?_
  refine U.is 3 (v':=.int .i32 (u:Int)) rfl (congrArg _ (by
   show IntKind.i32.wrap ((4294967296 * (u:Int)+((0:Nat):Int)).fdiv (2 ^ (min (32:Int).toNat IntKind.u64.bits)))=_
   rw [gs,wrap_i32 (by omega) (by omega)])) ?_
  refine U.seq ?_
  refine U.rg [0,1,2,3] ?_
  refine U.lv 4 ?_
  refine U.aV ?_
  refine U.is 4 (v':=.int .u32 0) rfl (congrArg _ (by rw [g2,Option.getD_some]; exact wrap_u32 (by omega) (by omega))) ?_
  refine U.seq ?_
  refine U.seq ?_
  refine U.rg [0,1] ?_
  refine U.lv 2 ?_
  refine U.aV ?_
  refine U.is 19 (v':=.bool false) rfl (congrArg Value.bool (by rw [beq_eq_false_iff_ne]; omega)) ?_
  refine U.eD rfl rfl ?_
  refine U.skip ?_
  refine U.seq ?_
  refine U.rg [0,1,2,3,4,5,6] ?_
  refine U.lv 6 ?_
  refine U.is 47 (v':=.int .u64 (4294967296 * (u:Int)+((1:Nat):Int))) rfl (congrArg _ (by rw [afY (by omega) (by omega)]; omega)) ?_
  refine U.M0 rfl rfl rfl rfl rfl func207 (by decide +kernel) rfl rfl rfl λ aEg MG=>?_
  refine U.seq ?_
  refine U.rg [0] ?_
  refine U.lv 1 ?_
  refine U.aV ?_
  refine U.seq ?_
  refine U.rg [0,1,2,3,4,5,6] ?_
  refine U.lv 5 ?_
  refine sM λ p hp=>KM.ext rfl rfl rfl rfl amj rfl rfl (by simp) (by simp) λ w s2 _ H7 l6=>.inr ?_
  obtain ⟨y0,y1,y2⟩:=l6
  have ev2:yp s2=4294967296 * (s2.v:Int)+((0:Nat):Int):=by rw [F9,y0]
  have R4:=H7.cg
  rw [ev2] at R4
  by_cases he:s2.v=u
  ·subst he
   refine ⟨.bool true,_,_,.wV,{ s2 with w:=1 },DZ R4 (H7.zg 0),.afQ,pG (.inr rfl),cb.wg (v:=s2.v) (u:=1) H7,λ ba bd=>(?_:U (fX F p .wV) _ _ _ _ _) ba bd⟩
   refine U.lv 1 ?_
   refine U.aV ?_
   refine U.CF func207 rfl rfl MG rfl (.put rfl) ?_
   refine U.aV ?_
   refine U.fu rfl rfl ?_
   refine U.seq ?_
   refine U.seq ?_
   refine U.rg [0,1,2,3] ?_
   refine U.lv 3 ?_
   refine U.is 51 (v':=.bool true) rfl rfl ?_
   refine U.lv 1 ?_
   refine U.aV ?_
   refine U.fu rfl rfl ?_
   refine U.rg [0,1,2,3,4] ?_
   refine U.lv 3 ?_
   refine sM λ m hm=>KM.conv rfl rfl rfl rfl rfl ae3 rfl Ze (by simp) (by simp) pF (λ _=>.wV) λ ba bd=>(?_:U (fX F m .wW) _ _ _ _ _) ba bd
   refine sM λ m hm=>KM.ext rfl rfl rfl rfl amg rfl rfl (by simp) (by simp) λ w s1 _ Bq _=>.inr ⟨_,w,_,.w3,s1,AS (λ _ _=>by simp) rfl,.wW,rfl,cb.refl Bq,λ ba bd=>(?_:U (fX F m .w3) _ _ _ _ _) ba bd⟩
   refine U.aV ?_
   refine U.seq ?_
   refine U.rg [0] ?_
   refine U.lv 1 ?_
   refine U.aV ?_
   refine U.seq ?_
   refine U.seq ?_
   refine U.rg [0,1,2,3,4,5] ?_
   refine U.lv 3 ?_
   refine U.is 60 (v':=.bool false) rfl (Ls g1 rfl) ?_
   refine U.lv 3 ?_
   refine U.aV ?_
   refine U.eD rfl rfl ?_
   refine U.skip ?_
   refine U.seq ?_
   refine U.rg [0,1,2,3,4] ?_
   refine U.lv 4 ?_
   refine sM λ m hm=>KM.ext rfl rfl rfl rfl amh rfl rfl (by simp) (by simp) λ w s3 _ qz _=>?_
   cases kl:s3.ws with
   | zero=>exact .inl ⟨rfl,rfl,YV rfl (by have e:=qz.LF; rw [kl] at e; exact e)⟩
   | succ z =>
    have ea:((z+1:Nat):Int) - 1=(z:Int):=by omega
    refine .inr ⟨_,_,_,.w4,_,aa0 (n:=((z+1:Nat):Int)) rfl (by have e:=qz.LF; rw [kl] at e; exact e) (by omega) (qz.zg 1),.w3 kl,GU (.inr rfl),by rw [ea]; exact cb.ws qz,λ ba bd=>(?_:U (fX F m .w4) _ _ _ _ _) ba bd⟩
    refine U.aV ?_
    refine U.seq ?_
    refine U.rg [0,1,2,3,4,5] ?_
    refine U.lv 3 ?_
    refine U.M0 rfl rfl rfl rfl rfl func199 (by decide +kernel) rfl rfl rfl λ aEh UL=>?_
    refine U.seq ?_
    refine U.rg [0] ?_
    refine U.lv 1 ?_
    refine U.aV ?_
    refine U.seq ?_
    refine U.rg [0,1,2,3,4] ?_
    refine U.lv 3 ?_
    refine sM λ m hm=>KM.ext rfl rfl rfl rfl Rl rfl rfl (by simp) (by simp) λ w s4 _ acf l6=>.inr ⟨_,_,_,.we,s4,LX acf.cg,.w4,wj (.inr rfl),cb.refl acf,λ ba bd=>(?_:U (fX F m .we) _ _ _ _ _) ba bd⟩
    obtain ⟨z1,z2⟩:=l6
    refine U.lv 1 ?_
    refine U.is 2 (v':=.int .u64 0) rfl (congrArg _ (by rw [F9,z1,z2]; rfl)) ?_
    refine U.aV ?_
    refine U.CF func199 rfl rfl UL rfl (.put rfl) ?_
    refine U.lv 2 ?_
    refine U.aV ?_
    refine U.is 6 (v':=.bool false) rfl rfl ?_
    refine U.seq ?_
    refine U.fu rfl rfl ?_
    refine U.seq ?_
    refine U.rg [0] ?_
    refine sM λ m hm=>KM.ext rfl rfl rfl rfl AX rfl rfl (by simp) (by simp) λ w s1 _ Bq _=>.inr ⟨_,w,_,.qv,s1,qk (by simp),.we,rfl,cb.refl Bq,λ ba bd=>(?_:U (fX F m .qv) _ _ _ _ _) ba bd⟩
    refine U.aV ?_
    refine U.rg [0,1,2] ?_
    refine U.lv 1 ?_
    refine sM λ m hm=>KM.conv rfl rfl rfl rfl rfl Xv rfl P8 (by simp) (by simp) pF (λ _=>.qv) λ ba bd=>(?_:U (fX F m .wq) _ _ _ _ _) ba bd
    refine sM λ m hm=>KM.acq rfl rfl rfl rfl L2 rfl rfl rfl λ js gU ba bd=>?_
    have dI:=hk js gU
    show F.mj _ _ _
    rw [rO] at dI ⊢
    refine (?_:U (Cy prog F.B Post) _ _ _ _ _) ba bd
    refine U.aV ?_
    refine U.seq ?_
    refine U.seq ?_
    refine U.rg [0] ?_
    refine U.lv 1 ?_
    refine U.aV ?_
    refine U.eD rfl rfl ?_
    refine U.skip ?_
    exact U.pJ func175 rfl dI (.inr ⟨_,rfl⟩)
  ·refine ⟨.bool false,w,_,.w1,s2,Hh R4 (H7.zg 0) (λ e=>he (by omega)),.afP he,wj (.inr rfl),cb.refl H7,λ ba bd=>(?_:U (fX F p .w1) _ _ _ _ _) ba bd⟩
   refine U.lv 1 ?_
   refine U.aV ?_
   refine U.CF func207 rfl rfl MG rfl (.put rfl) ?_
   refine U.aV ?_
   refine U.eD rfl rfl ?_
   refine U.skip ?_
   refine U.inBlock ?_
   refine U.inLoop ?_
   refine U.sub ?_ (ih p (Nat.lt_trans hp hm) () trivial)
   exact bU.sub ⟨rfl,trivial⟩
theorem aFA(rO:F.mj=iB prog F.B Post)(n:Nat):kC prog ((fX F n .wa).J R H) (YS F R H) 175 [pw F]:=kC.bn func175 rfl rfl rfl λ fr cs hk=>by
 refine U.seq ?_
 refine U.fu rfl rfl ?_
 refine U.rg [0] ?_
 refine sM λ m hm=>KM.ext rfl rfl rfl rfl Hk rfl rfl (by simp) (by simp) λ w s _ bg _=>.inr ⟨_,w,_,.w1,s,qk (by simp),.wa,rfl,cb.refl bg,λ ba bd=>(?_:U (fX F m .w1) _ _ _ _ _) ba bd⟩
 refine U.aV ?_
 refine U.block ?_
 refine U.enterLoop ?_
 refine U.sub ?_ (aFz rO hk m)
 exact bU.sub ⟨rfl,trivial⟩
end
end Go.Proofs.YtihapemckcdicaaGreatDoor
namespace Go.Lg
open Go.Conc Go.ConcN
def mK(a:Nat→Nat→Bool)(js:Nat→Nat):List Value:=(List.range 16).map λ p=>.bool (decide (p / 4 < js (p % 4)) && a (p / 4) (p % 4))
theorem aB8(a:Nat→Nat→Bool):mK a (λ _=>0)=List.replicate 16 (.bool false):=by
 simp [mK,List.range,List.range.loop,List.replicate]
theorem WZ{a:Nat→Nat→Bool}{js:Nat→Nat}{p:Nat}(hp:p < 16):(mK a js)[p]? = some (.bool (decide (p / 4 < js (p % 4)) && a (p / 4) (p % 4))):=by
 simp [mK,hp]
theorem aB7{a:Nat→Nat→Bool}{js:Nat→Nat}{k j:Nat}(hk:k < 4)(_:j < 4)(gU:js k=j):mK a (gb js k (j+1))=(mK a js).set (4 * j+k) (.bool (a j k)):=by
 have hl:∀ js,(mK a js).length=16:=λ js=>by simp [mK]
 apply List.ext_getElem?
 intro p
 rcases Nat.lt_or_ge p 16 with hp | hp
 ·rw [WZ hp,List.getElem?_set,WZ hp]
  by_cases e:4 * j+k=p
  ·subst e
   rw [if_pos rfl,if_pos (by rw [hl]; omega)]
   have e1:(4 * j+k) / 4=j:=by omega
   have e2:(4 * j+k) % 4=k:=by omega
   rw [e1,e2,sE]
   simp
  ·rw [if_neg e]
   by_cases e2:p % 4=k
   ·have e3:p / 4≠j:=by omega
    rw [e2,sE,gU]
    have:decide (p / 4 < j+1)=decide (p / 4 < j):=by
     by_cases h:p / 4 < j
     ·simp [h]; omega
     ·simp [h]; omega
    rw [this]
   ·rw [sD e2]
 ·rw [List.getElem?_eq_none (by rw [hl]; exact hp),List.getElem?_eq_none (by rw [List.length_set,hl]; exact hp)]
end Go.Lg
