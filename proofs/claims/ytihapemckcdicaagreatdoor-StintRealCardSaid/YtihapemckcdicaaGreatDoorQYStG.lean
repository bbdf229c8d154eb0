/- What sync does, walked for the machine. Conditions: none. -/
import Derived.Test.YtihapemckcdicaaGreatDoorQYLgE
import Derived.Test.YtihapemckcdicaaGreatDoorQYStF
namespace Go.Proofs.YtihapemckcdicaaGreatDoor
open Go.Lg Go.Proofs Go.Conc Tryz
set_option maxRecDepth 100000
theorem Aj:dA prog 190 (Extern.Race.marked .releaseMerge):=⟨⟨Tryz.f190,func190,by kernel_rfl,by kernel_rfl,by kernel_rfl,by kernel_rfl⟩⟩
theorem ql:dA prog 191 (λ _=>do mark .disable; pure Extern.Race.none_):=⟨⟨Tryz.f191,func191,by kernel_rfl,by kernel_rfl,by kernel_rfl,by kernel_rfl⟩⟩
theorem m9:dA prog 192 (λ _=>do mark .enable; pure Extern.Race.none_):=⟨⟨Tryz.f192,func192,by kernel_rfl,by kernel_rfl,by kernel_rfl,by kernel_rfl⟩⟩
theorem Ak:dA prog 193 (λ _=>pure (.bool false)):=⟨⟨Tryz.f193,func193,by kernel_rfl,by kernel_rfl,by kernel_rfl,by kernel_rfl⟩⟩
theorem Hl:dA prog 198 (Extern.Race.marked .read):=⟨⟨Tryz.f198,func198,by kernel_rfl,by kernel_rfl,by kernel_rfl,by kernel_rfl⟩⟩
theorem Hm:dA prog 202 Extern.Sync.semrelease:=⟨⟨Tryz.f202,func202,by kernel_rfl,by kernel_rfl,by kernel_rfl,by kernel_rfl⟩⟩
theorem sE:dA prog 205 (Extern.Race.marked .acquire):=⟨⟨Tryz.f205,func205,by kernel_rfl,by kernel_rfl,by kernel_rfl,by kernel_rfl⟩⟩
theorem Hn:dA prog 208 (Extern.Race.marked .write):=⟨⟨Tryz.f208,func208,by kernel_rfl,by kernel_rfl,by kernel_rfl,by kernel_rfl⟩⟩
theorem Ho:dA prog 209 Extern.Sync.semacquire:=⟨⟨Tryz.f209,func209,by kernel_rfl,by kernel_rfl,by kernel_rfl,by kernel_rfl⟩⟩
theorem Al:dA prog 227 (Extern.Atomic.update (Op.intArith .add) .u64 true):=⟨⟨Tryz.f227,func227,by kernel_rfl,by kernel_rfl,by kernel_rfl,by kernel_rfl⟩⟩
theorem vT:dA prog 228 (Extern.Atomic.loadT (.int .u64)):=⟨⟨Tryz.f228,func228,by kernel_rfl,by kernel_rfl,by kernel_rfl,by kernel_rfl⟩⟩
theorem Hp:dA prog 229 Extern.Atomic.storeT:=⟨⟨Tryz.f229,func229,by kernel_rfl,by kernel_rfl,by kernel_rfl,by kernel_rfl⟩⟩
theorem sF:dA prog 230 (Extern.Atomic.casT (.int .i32)):=⟨⟨Tryz.f230,func230,by kernel_rfl,by kernel_rfl,by kernel_rfl,by kernel_rfl⟩⟩
theorem Am:dA prog 232 (Extern.Atomic.update (Op.intArith .add) .i32 true):=⟨⟨Tryz.f232,func232,by kernel_rfl,by kernel_rfl,by kernel_rfl,by kernel_rfl⟩⟩
theorem Hq:dA prog 234 (Extern.Atomic.casT (.int .u64)):=⟨⟨Tryz.f234,func234,by kernel_rfl,by kernel_rfl,by kernel_rfl,by kernel_rfl⟩⟩
theorem Hr:dA prog 241 Extern.Sync.canSpin:=⟨⟨Tryz.f241,func241,by kernel_rfl,by kernel_rfl,by kernel_rfl,by kernel_rfl⟩⟩
theorem Ht:dA prog 242 Extern.Sync.nothing:=⟨⟨Tryz.f242,func242,by kernel_rfl,by kernel_rfl,by kernel_rfl,by kernel_rfl⟩⟩
theorem An:dA prog 244 Extern.OsHooks.nano:=⟨⟨Tryz.f244,func244,by kernel_rfl,by kernel_rfl,by kernel_rfl,by kernel_rfl⟩⟩
theorem Hu:dA prog 245 Extern.Sync.semacquire:=⟨⟨Tryz.f245,func245,by kernel_rfl,by kernel_rfl,by kernel_rfl,by kernel_rfl⟩⟩
theorem Ao:dA prog 247 Extern.Sync.semrelease:=⟨⟨Tryz.f247,func247,by kernel_rfl,by kernel_rfl,by kernel_rfl,by kernel_rfl⟩⟩
def AF:Nat→Option IntKind
 | 2 | 3=>some .i64
 | 21=>some .i32
 | 190=>some .u32
 | 197=>some .u64
 | _=>none
instance:je prog:=⟨AF,λ t k h=>by
 unfold AF at h
 split at h
 ·cases h; exact underlying2
 ·cases h; exact underlying3
 ·cases h; exact underlying21
 ·cases h; exact underlying190
 ·cases h; exact underlying197
 ·cases h⟩
theorem xR:oe prog 255 223:=⟨192,underlying255,underlying223,by kernel_rfl⟩
theorem xQ:oe prog 221 223:=⟨201,underlying221,underlying223,by kernel_rfl⟩
theorem Dn:oe prog 228 223:=⟨190,underlying228,underlying223,by kernel_rfl⟩
set_option maxHeartbeats 4000000
noncomputable abbrev FT (F:Fx):Fx:={ F with P:=prog }
section
variable {F:Fx} {R:ax} {H:ai} {k j:Nat} {fr:Frame} {cs:List Frame}
abbrev pm(F:Fx):Value:=.pointer (some (am F))
noncomputable abbrev WJ (F:Fx) (n k j:Nat) (T:Lp):=q6 prog F.B false (KW (FT F) n k j T)
def lP(F:Fx)(k j:Nat)(R:ax)(H:ai)(g:Goroutine):Prop:=∀ n js,js k=j→Own prog F.B false (KW (FT F) n k j (.ul js)) R ((F.bo,F.cont js)::H) g
theorem sW{c:Ctx}{st:St}{todo:List Item}{n:Nat}{T:Lp}(h:∀ m,m < n→∀ tmps,bV c.n st tmps→KW (FT F) (m+1) k j T R H (aO (aN c tmps todo) c.cs)):U (WJ F n k j T) c R H st todo:=U.Po (F:=FT F) h
def yx:Code→Option Code
 | .seq (.block _ _) r=>some r
 | .seq _ y=>yx y
 | _=>none
def jY:Code→Option Code
 | .loop c=>some c
 | .seq x y=>match jY x with | some c=>some c | none=>jY y
 | .block _ c=>jY c
 | .cond _ x y=>match jY x with | some c=>some c | none=>jY y
 | _=>none
noncomputable def lu:Code:=(yx (Tryz.f231.body.getD .skip)).getD .skip
noncomputable def iE:Code:=(jY (Tryz.f231.body.getD .skip)).getD .skip
theorem C1(f:lP F k j R H (aO (fr.finish (dZ [])) cs))(n:Nat):U (WJ F n k j .le) ⟨231,.normal,none,139,[],fr::cs⟩ R H [(0,pm F)] [.code lu]:=by
 refine U.c5 rfl rfl ?_
 refine U.seq ?_
 refine U.rg [0] ?_
 refine sW λ n _=>KW.ext rfl rfl rfl rfl m9 rfl rfl λ _ w s _ d _ _=>.inr ⟨_,w,_,.lc,s,h7 (by simp),.le,trivial,rfl,bG.refl d,λ b a=>(?_:U (WJ F n k j .lc) _ _ _ _ _) b a⟩
 refine U.aK ?_
 refine U.rg [0,1,2] ?_
 refine U.lv 1 ?_
 refine sW λ n _=>KW.conv rfl rfl rfl rfl rfl xR rfl uF ⟨by simp,by simp⟩ hk (λ _=>.lc) trivial λ b a=>(?_:U (WJ F n k j .la) _ _ _ _ _) b a
 refine sW λ n _=>KW.ext rfl rfl rfl rfl sE rfl rfl λ _ w s _ d _ _=>.inr ⟨_,w,_,.ul λ _=>0,s,m7 (λ _ _=>by simp) rfl,.la,trivial,rfl,bG.refl d,λ b a js e=>(?_:U (WJ F n k j (.ul js)) _ _ _ _ _) b a⟩
 refine U.aK ?_
 exact U.hq func231 rfl (f n js e) (.inl rfl)
theorem mB{N N':Nat}{m:Wd}(h:m.ok N)(a:N≤N'):m.ok N':=⟨h.1,h.2.1,h.2.2.1,Nat.le_trans h.2.2.2 a⟩
def mM(F:Fx)(c:Lc)(a:Int):St:=[(0,pm F),(2,.int .i64 a),(3,.bool c.sv),(4,.bool c.aw),(5,.int .i64 c.it),(6,.int .i32 c.old.val)]
def tW(F:Fx)(x:Lc × Int):Prop:=x.1.old.ok F.N∧(x.1.aw=true→x.1.old.w=1)∧x.1.ws=decide (x.2≠0)∧x.1.it≤4
theorem hY{b:Option Int}{z y:Int}{p:Bool}(h:b=some z)(a:(z == y)=p):Value.bool (b.getD 0 == y) = .bool p:=by rw [h]; exact congrArg _ a
noncomputable def q2:Code:=match iE with | .block _ (.seq _ y)=>y | _=>.skip
noncomputable def Pb:Code:=match iE with | .block _ (.seq (.seq _ (.cond _ (.seq _ z) _)) _)=>z | _=>.skip
abbrev mL(fr:Frame)(cs:List Frame):Ctx:=⟨231,.normal,none,139,[],fr::cs⟩
def jN(F:Fx)(k j:Nat)(R:ax)(H:ai)(fr:Frame)(cs:List Frame)(m:Nat):Prop:=∀ x,tW F x→U (WJ F m k j (hd x.1)) (mL fr cs) R H (mM F x.1 x.2) [.code iE,.inLoop iE,.inBlock 0,.code lu]
theorem rj{n:Nat}(g:∀ m,m < n→jN F k j R H fr cs m){old:Wd}{aw sv:Bool}{it:Nat}{ws:Bool}{a:Int}(f:ws=decide (a≠0)){st:St}(d:aA st [(0,pm F),(2,.int .i64 a),(3,.bool sv),(4,.bool aw),(5,.int .i64 it)]) :
  U (WJ F n k j (.r1 ⟨old,aw,sv,it,ws⟩)) (mL fr cs) R H st [.code Pb,.code q2,.inBlock 1,.inLoop iE,.inBlock 0,.code lu]:=by
 refine U.sub d ?_
 refine U.seq ?_
 refine U.rg [0] ?_
 refine U.ext rfl rfl rfl rfl rfl Ht rfl (λ w=>vO) (.put rfl) ?_
 refine U.aK ?_
 refine U.seq ?_
 refine U.rg [0,1,2] ?_
 refine U.lv 3 ?_
 refine U.aK ?_
 refine U.seq ?_
 refine U.rg [0,1,2,3,4] ?_
 refine U.lv 3 ?_
 refine sW λ m hm=>KW.look rfl rfl rfl rfl rfl pn (by kernel_rfl) rfl ⟨by simp,by simp⟩ (λ _ h=>h) λ l s b=>⟨_,.r1,gO (by simp),λ p e=>tG ((?_:U (WJ F m k j (hd ⟨s.mu,aw,sv,it+1,ws⟩)) _ _ _ _ _) p e)⟩
 obtain ⟨t1,t2,t3⟩:=l
 dsimp only at t2
 refine U.lv 1 ?_
 refine U.aK ?_
 refine U.bD rfl ?_
 refine U.inLoop ?_
 refine U.is 5 (v':=.int .i64 ((it+1:Nat):Int)) rfl (by rw [show ((it+1:Nat):Int)=(it:Int)+1 by omega]; exact congrArg _ (DO (by constructor <;> omega))) ?_
 exact U.sub (st':=mM F ⟨s.mu,aw,sv,it+1,ws⟩ a) (bz.sub ⟨rfl,rfl,rfl,rfl,rfl,rfl,trivial⟩) (g m hm (⟨s.mu,aw,sv,it+1,ws⟩,a) ⟨b.1,b.2,f,by dsimp only; omega⟩)
theorem O4{n:Nat}(Q:∀ m,m < n→jN F k j R H fr cs m){old:Wd}{aw sv:Bool}{it:Nat}{ws:Bool}{q:Int}(O:tW F (⟨old,aw,sv,it,ws⟩,q))
  (J:∀ m,m≤n→∀ st,aA st (mM F ⟨old,aw,sv,it,ws⟩ q)→U (WJ F m k j (.c2 ⟨old,aw,sv,it,ws⟩)) (mL fr cs) R H st [.code q2,.inBlock 1,.inLoop iE,.inBlock 0,.code lu]) :
  U (WJ F n k j (hd ⟨old,aw,sv,it,ws⟩)) (mL fr cs) R H (mM F ⟨old,aw,sv,it,ws⟩ q) [.code iE,.inLoop iE,.inBlock 0,.code lu]:=by
 obtain ⟨y,K,f,L⟩:=O
 dsimp only at y K f L
 have hN:=F.hN
 have h5:=mB y (show F.N≤5 by omega)
 obtain ⟨b1,b2,T,V,D,W,Y,S,Z,X,s3⟩:=Wd.iU h5
 obtain ⟨aa,ac,ad,ae⟩:=h5
 refine U.aR ?_
 refine U.seq ?_
 refine U.seq ?_
 refine U.rg [0,1,2,3,4,5,6] ?_
 refine U.lv 4 ?_
 by_cases z:old.l=1∧old.s=0
 ·have r:hd ⟨old,aw,sv,it,ws⟩ = .sq ⟨old,aw,sv,it,ws⟩:=if_pos z
  rw [r]
  refine U.is 17 (v':=.bool true) rfl (hY D (by simp [z])) ?_
  refine U.lv 1 ?_
  refine sW λ m hm=>KW.ext rfl rfl rfl rfl Hr rfl rfl λ _ w s _ a _ _=>.inr ?_
  have no:∀ st,aA st (mM F ⟨old,aw,sv,it,ws⟩ q)→U (WJ F m k j (.c2 ⟨old,aw,sv,it,ws⟩)) (mL fr cs) R H st [.code q2,.inBlock 1,.inLoop iE,.inBlock 0,.code lu]:=λ st A=>J m (Nat.le_of_lt hm) st A
  by_cases h4:4≤it
  ·refine ⟨.bool false,w,#[],.c2 _,s,G5 (by dsimp only; omega),.tX,trivial,hk,bG.refl a,λ d b=>(?_:U (WJ F m k j (.c2 ⟨old,aw,sv,it,ws⟩)) _ _ _ _ _) d b⟩
   refine U.lv 1 ?_
   refine U.aK ?_
   refine U.cw rfl rfl ?_
   refine U.skip ?_
   exact no _ (bz.sub ⟨rfl,rfl,rfl,rfl,rfl,rfl,trivial⟩)
  ·cases I:w.spins
   ·refine ⟨.bool false,w.asked,#[],.c2 _,s,I ▸ Ae (by dsimp only; omega),.tX,trivial,hk,bG.asked a,λ d b=>(?_:U (WJ F m k j (.c2 ⟨old,aw,sv,it,ws⟩)) _ _ _ _ _) d b⟩
    refine U.lv 1 ?_
    refine U.aK ?_
    refine U.cw rfl rfl ?_
    refine U.skip ?_
    exact no _ (bz.sub ⟨rfl,rfl,rfl,rfl,rfl,rfl,trivial⟩)
   ·refine ⟨.bool true,w.asked,#[],ey ⟨old,aw,sv,it,ws⟩,s,I ▸ Ae (by dsimp only; omega),.lC (by show it < 4; omega),gO (by simp),hk,bG.asked a,λ d b=>M6 ((?_:U (WJ F m k j (ey ⟨old,aw,sv,it,ws⟩)) _ _ _ _ _) d b)⟩
    refine U.lv 1 ?_
    refine U.aK ?_
    refine U.c5 rfl rfl ?_
    refine U.seq ?_
    refine U.seq ?_
    refine U.rg [0,1,2,3,4,5,6,7,8,9,10,11,12,13,14,15,16,17,18,19,20] ?_
    have g:∀ m',m' < m→jN F k j R H fr cs m':=λ m' t=>Q m' (Nat.lt_trans t hm)
    have quiet:¬ (aw=false∧old.w=0∧old.n≠0)→ey ⟨old,aw,sv,it,ws⟩ = .r1 ⟨old,aw,sv,it,ws⟩:=λ h=>if_neg h
    cases aw
    case true =>
     rw [quiet (by simp)]
     refine U.lv 21 ?_
     refine U.aK ?_
     refine U.cw rfl rfl ?_
     refine U.skip ?_
     refine rj g f ?_
     exact bz.sub ⟨rfl,rfl,rfl,rfl,rfl,trivial⟩
    case false =>
     refine U.lv 6 ?_
     by_cases C:old.w=0
     case neg =>
      rw [quiet (by simp [C])]
      refine U.is 26 (v':=.bool false) rfl (hY b2 (by rw [beq_eq_false_iff_ne]; omega)) ?_
      refine U.lv 15 ?_
      refine U.aK ?_
      refine U.cw rfl rfl ?_
      refine U.skip ?_
      refine rj g f ?_
      exact bz.sub ⟨rfl,rfl,rfl,rfl,rfl,trivial⟩
     refine U.is 26 (v':=.bool true) rfl (hY b2 (by simp [C])) ?_
     refine U.lv 5 ?_
     have G:old.val.fdiv (2 ^ (min (3:Int).toNat IntKind.i32.bits))=(old.n:Int):=by simpa [fa] using s3
     by_cases x:old.n=0
     case pos =>
      rw [quiet (by simp [x])]
      refine U.is 31 (v':=.bool false) rfl (congrArg Value.bool (by show (old.val.fdiv (2 ^ (min (3:Int).toNat IntKind.i32.bits)) != 0)=false; rw [G,x]; rfl)) ?_
      refine U.lv 10 ?_
      refine U.aK ?_
      refine U.cw rfl rfl ?_
      refine U.skip ?_
      refine rj g f ?_
      exact bz.sub ⟨rfl,rfl,rfl,rfl,rfl,trivial⟩
     refine U.is 31 (v':=.bool true) rfl (congrArg Value.bool (by show (old.val.fdiv (2 ^ (min (3:Int).toNat IntKind.i32.bits)) != 0)=true; rw [G,bne_iff_ne]; omega)) ?_
     rw [show ey ⟨old,false,sv,it,ws⟩ = .c1 ⟨old,false,sv,it,ws⟩ from if_pos ⟨rfl,C,x⟩]
     refine U.lv 8 ?_
     refine U.is 39 (v':=.int .i32 (Wd.val { old with w:=1 })) rfl (by rw [S]; rfl) ?_
     refine sW λ p M=>KW.ext rfl rfl rfl rfl sF rfl rfl λ _ w s _ a A _=>.inr ?_
     have E:∀ m',m' < p→jN F k j R H fr cs m':=λ m' t=>g m' (Nat.lt_trans t M)
     by_cases u:s.mu=old
     ·subst u
      refine ⟨.bool true,_,_,.r1 ⟨s.mu,true,sv,it,ws⟩,_,oz a.cm (a.zm 0),.u5 rfl,gO (by simp),hn (.inl rfl),bG.mu a,λ d b=>(?_:U (WJ F p k j (.r1 ⟨s.mu,true,sv,it,ws⟩)) _ _ _ _ _) d b⟩
      refine U.lv 1 ?_
      refine U.aK ?_
      refine U.c5 rfl rfl ?_
      refine U.rg [0] ?_
      refine U.lv 1 ?_
      refine U.aK ?_
      refine rj E f ?_
      exact bz.sub ⟨rfl,rfl,rfl,rfl,rfl,trivial⟩
     ·refine ⟨.bool false,w,_,.r1 ⟨old,false,sv,it,ws⟩,s,qi a.cm (a.zm 0) (λ e=>u (Wd.val_inj A.1 y e)),.u4 u,gO (by simp),kz (.inl rfl),bG.refl a,λ d b=>(?_:U (WJ F p k j (.r1 ⟨old,false,sv,it,ws⟩)) _ _ _ _ _) d b⟩
      refine U.lv 1 ?_
      refine U.aK ?_
      refine U.cw rfl rfl ?_
      refine U.skip ?_
      refine rj E f ?_
      exact bz.sub ⟨rfl,rfl,rfl,rfl,rfl,trivial⟩
 ·have r:hd ⟨old,aw,sv,it,ws⟩ = .c2 ⟨old,aw,sv,it,ws⟩:=if_neg z
  rw [r]
  refine U.is 17 (v':=.bool false) rfl (hY D (by rw [beq_eq_false_iff_ne]; show ¬ ((old.l:Int)+4 * old.s=1); omega)) ?_
  refine U.lv 3 ?_
  refine U.aK ?_
  refine U.cw rfl rfl ?_
  refine U.skip ?_
  exact J n (b6 _) _ (bz.sub ⟨rfl,rfl,rfl,rfl,rfl,rfl,trivial⟩)
def jF(o:Wd):Wd:={ o with l:=if o.s=0 then 1 else o.l }
def kg(o:Wd):Wd:={ jF o with n:=if o.l=1∨o.s=1 then o.n+1 else o.n }
def nW(o:Wd)(sv:Bool):Wd:={ kg o with s:=if sv=true∧o.l=1 then 1 else o.s }
theorem yy{a b:Int}{p:Prop}[Decidable p](h:a=b↔p):(a == b)=decide p:=by
 by_cases d:p
 ·rw [de d]; exact beq_iff_eq.2 (h.2 d)
 ·rw [dV d]; exact beq_eq_false_iff_ne.2 λ e=>d (h.1 e)
theorem yz{a b:Int}{p:Prop}[Decidable p](h:a≠b↔p):(a != b)=decide p:=by
 by_cases d:p
 ·rw [de d]; exact bne_iff_ne.2 (h.2 d)
 ·rw [dV d,bne,beq_iff_eq.2 (Classical.byContradiction λ e=>d (h.1 e))]; rfl
theorem m5{b:Option Int}{z y:Int}{p:Bool}(h:b=some z)(a:(z != y)=p):Value.bool (b.getD 0 != y) = .bool p:=by rw [h]; exact congrArg _ a
theorem sT{b:Option Int}{z y:Int}(h:b=some z)(a:z=y):Value.int .i32 (b.getD 0) = .int .i32 y:=by rw [h,← a]; rfl
theorem U.mid{P:Program}{B:Base}{main:Bool}{ab:Jd P B main}{c:Ctx}{R:ax}{H:ai}{st:St}{todo K:List Item}(a:St)(h1:(∀ st,aA st a→U ab c R H st K)→U ab c R H st todo)(h2:U ab c R H a K):U ab c R H st todo:=h1 λ _ b=>U.sub b h2
abbrev q3(F:Fx)(c:Lc)(a:Int)(m:Wd):St:=(7,.int .i32 m.val)::mM F c a
noncomputable def Ix:Code:=match q2 with | .seq _ (.seq _ (.seq _ (.seq _ (.seq _ (.seq _ (.cond _ x _))))))=>x | _=>.skip
noncomputable def Av:Code:=match Ix with | .seq _ (.seq _ (.seq _ x))=>x | _=>.skip
noncomputable def H8:Code:=match Av with | .seq _ (.seq _ x)=>x | _=>.skip
theorem P3{m:Wd}(h:m.ok 5)(hl:m.l=0)(hw:m.w=0)(a:m.s=1)(d:m.n≠0)(b:Bool):IntKind.i32.wrap (m.val+(if b then -7 else -11))=Wd.val ⟨1,m.w,if b then m.s else 0,m.n - 1⟩:=by
 obtain ⟨l,w,s,n⟩:=m
 dsimp only at hl hw a d
 subst hl hw a
 have:=h.2.2.2
 dsimp only at this
 cases b
 ·rw [wrap_i32 (by simp only [Wd.val]; split <;> omega) (by simp only [Wd.val]; split <;> omega)]
  simp only [Wd.val]; simp; omega
 ·rw [wrap_i32 (by simp only [Wd.val]; split <;> omega) (by simp only [Wd.val]; split <;> omega)]
  simp only [Wd.val]; simp; omega
theorem C0(D:lP F k j R H (aO (fr.finish (dZ [])) cs)){n:Nat}(J:∀ m,m < n→jN F k j R H fr cs m){old:Wd}{aw sv:Bool}{it:Nat}{ws:Bool}{q:Int}(I:ws=decide (q≠0)){st:St}(G:aA st [(0,pm F),(2,.int .i64 q),(3,.bool sv)]) :
  U (WJ F n k j (.r2 ⟨old,aw,sv,it,ws⟩)) (mL fr cs) R H st [.code H8,.inBlock 1,.inLoop iE,.inBlock 0,.code lu]:=by
 have hN:=F.hN
 refine U.sub G ?_
 refine U.seq ?_
 refine U.rg [0,1,2,3,4] ?_
 refine U.lv 3 ?_
 refine sW λ m hm=>KW.look rfl rfl rfl rfl rfl pn (by kernel_rfl) rfl ⟨by simp,by simp⟩ (λ _ h=>h) λ _ s a=>?_
 have h5:=mB a.1 (show (FT F).N≤5 from Nat.le_trans hN (by omega))
 obtain ⟨b1,b2,u,r,L,M,V,W,X,T,s3⟩:=Wd.iU h5
 have t:s.mu.val.fdiv (2 ^ (min (3:Int).toNat IntKind.i32.bits))=(s.mu.n:Int):=by simpa [fa] using s3
 rcases a.2 with ⟨e1,g,x,O⟩ | ⟨e1,g⟩
 ·refine ⟨_,.re e1,gO (by simp),λ f d=>(?_:U (WJ F m k j (.a1 (sv && s.mu.n != 1))) _ _ _ _ _) f d⟩
  refine U.lv 1 ?_
  refine U.aK ?_
  refine U.seq ?_
  refine U.seq ?_
  refine U.rg [0,1,2] ?_
  refine U.lv 3 ?_
  refine U.aK ?_
  refine U.is 107 (v':=.bool true) rfl (m5 r (by rw [e1]; rfl)) ?_
  refine U.c5 rfl rfl ?_
  refine U.seq ?_
  refine U.seq ?_
  refine U.rg [0,1,2,3,4,5,6,7] ?_
  refine U.lv 3 ?_
  refine U.is 110 (v':=.bool false) rfl (m5 u (by rw [g,x]; rfl)) ?_
  refine U.lv 4 ?_
  refine U.is 114 (v':=.bool false) rfl (congrArg Value.bool (by show (s.mu.val.fdiv (2 ^ (min (3:Int).toNat IntKind.i32.bits)) == 0)=false; rw [t,beq_eq_false_iff_ne]; omega)) ?_
  refine U.lv 1 ?_
  refine U.aK ?_
  refine U.cw rfl rfl ?_
  refine U.skip ?_
  refine U.seq ?_
  refine U.rg [0] ?_
  refine U.lv 1 ?_
  refine U.aK ?_
  refine U.seq ?_
  refine U.seq ?_
  refine U.rg [0,1,2,3,4,5,6] ?_
  refine U.mid (K:=?K) [(0,pm F),(9,.int .i32 (-7)),(123,.bool (!(sv && s.mu.n != 1)))] ?h1 ?h2
  case h1 =>
   intro h
   cases sv
   ·refine U.lv 7 ?_
    refine U.aK ?_
    refine h _ ?_
    exact bz.sub ⟨rfl,rfl,rfl,trivial⟩
   ·refine U.lv 6 ?_
    refine U.is 122 (v':=.bool (!(true && s.mu.n != 1))) rfl (congrArg Value.bool (by
     show (s.mu.val.fdiv (2 ^ (min (3:Int).toNat IntKind.i32.bits)) == 1)=_
     rw [t]
     by_cases e:s.mu.n=1
     ·rw [e]; rfl
     ·rw [beq_eq_false_iff_ne.2 (by omega)]; simp [e])) ?_
    refine U.lv 1 ?_
    refine U.aK ?_
    refine h _ ?_
    exact bz.sub ⟨rfl,rfl,rfl,trivial⟩
  generalize (sv && s.mu.n != 1)=b
  refine U.join (st':=[(0,pm F),(9,.int .i32 (if b then -7 else -11))]) rfl (λ hb h=>?_) (λ hb h=>?_) ?_
  ·cases b
   ·refine U.rg [0,1,2] ?_
    refine U.lv 3 ?_
    refine U.aK ?_
    refine U.sub ?_ h
    exact bz.sub ⟨rfl,rfl,trivial⟩
   ·cases hb
  ·cases b
   ·cases hb
   ·refine U.skip ?_
    refine U.sub ?_ h
    exact bz.sub ⟨rfl,rfl,trivial⟩
  refine U.seq ?_
  refine U.rg [0,1,2,3,4] ?_
  refine U.lv 4 ?_
  refine sW λ p S=>KW.ext rfl rfl rfl rfl Am rfl rfl λ _ w s _ l a _=>.inr ?_
  obtain ⟨E,y,z,A,C,Q⟩:=a
  have e:=P3 (mB E (show (FT F).N≤5 from Nat.le_trans hN (by omega))) z A y C b
  refine ⟨_,_,_,.le,_,l3 l.cm (l.zm 0),.a1,trivial,hn (.inl rfl),by rw [e]; exact bG.mu l,λ f d=>(?_:U (WJ F p k j .le) _ _ _ _ _) f d⟩
  refine U.aK ?_
  refine U.bD rfl ?_
  refine U.sub ?_ (C1 D p)
  exact bz.sub ⟨rfl,trivial⟩
 ·refine ⟨_,.ln e1,gO (by simp),λ f d=>tG ((?_:U (WJ F m k j (hd ⟨s.mu,true,sv,0,ws⟩)) _ _ _ _ _) f d)⟩
  refine U.lv 1 ?_
  refine U.aK ?_
  refine U.seq ?_
  refine U.seq ?_
  refine U.rg [0,1,2] ?_
  refine U.lv 3 ?_
  refine U.aK ?_
  refine U.is 107 (v':=.bool false) rfl (m5 r (by rw [e1]; rfl)) ?_
  refine U.cw rfl rfl ?_
  refine U.skip ?_
  refine U.seq ?_
  refine U.rg [0] ?_
  refine U.lv 1 ?_
  refine U.aK ?_
  refine U.rg [0] ?_
  refine U.lv 1 ?_
  refine U.aK ?_
  refine U.a9 ?_
  refine U.inLoop ?_
  refine U.sub ?_ (J m hm (⟨s.mu,true,sv,0,ws⟩,q) ⟨a.1,λ _=>g,I,Nat.zero_le _⟩)
  exact bz.sub ⟨rfl,rfl,rfl,rfl,rfl,rfl,trivial⟩
theorem CY(x:∀ w:World,F.B.os w.os→F.B.os w.later.os)(h:lP F k j R H (aO (fr.finish (dZ [])) cs)){n:Nat}(C:∀ m,m < n→jN F k j R H fr cs m){old:Wd}{aw sv:Bool}{it:Nat}{ws q:Bool}{e:Int}(l:ws=decide (e≠0)){st:St}(A:aA st [(0,pm F),(2,.int .i64 e),(3,.bool sv),(8,.bool q)]) :
  U (WJ F n k j (.s1 ⟨old,aw,sv,it,ws⟩)) (mL fr cs) R H st [.code Av,.inBlock 1,.inLoop iE,.inBlock 0,.code lu]:=by
 refine U.sub A ?_
 refine U.seq ?_
 refine U.rg [0,1,2,3,4] ?_
 refine U.lv 4 ?_
 refine sW λ m hm=>KW.ext rfl rfl rfl rfl Hu rfl rfl λ _ w s _ a _ _=>?_
 have r:∀ m',m' < m→jN F k j R H fr cs m':=λ m' f=>C m' (Nat.lt_trans f hm)
 cases g:s.ms with
 | zero=>exact .inl ⟨⟨_,rfl⟩,rfl,ym rfl (by rw [a.rY,g]; rfl)⟩
 | succ u =>
  have t:((u+1:Nat):Int) - 1=(u:Int):=by omega
  refine .inr ⟨_,_,_,if sv then .r2 ⟨old,aw,sv,it,ws⟩ else .t2 ⟨old,aw,sv,it,ws⟩,_,Ad (n:=((u+1:Nat):Int)) rfl (by rw [← g]; exact a.rY) (by omega) (a.zm 1),.s1 g,gO (by simp),pU (.inl rfl),by rw [t]; exact bG.ms a,λ d b=>?_⟩
  cases sv
  ·refine (?_:U (WJ F m k j (.t2 ⟨old,aw,false,it,ws⟩)) _ _ _ _ _) d b
   refine U.aK ?_
   refine U.seq ?_
   refine U.rg [0,1,2,3,4,5,6,7] ?_
   refine U.lv 2 ?_
   refine sW λ p y=>KW.nano x rfl rfl rfl rfl An (by kernel_rfl) rfl rfl ⟨by simp,by simp⟩ hk λ _ z=>?_
   refine ⟨.r2 ⟨old,aw,decide (IntKind.wrap .i64 (z - e) > 1000000),it,ws⟩,λ s=>.t2 _,gO (by simp),λ d b=>(?_:U (WJ F p k j (.r2 ⟨old,aw,decide (IntKind.wrap .i64 (z - e) > 1000000),it,ws⟩)) _ _ _ _ _) d b⟩
   refine U.lv 5 ?_
   refine U.aK ?_
   refine C0 h (λ m' f=>r m' (Nat.lt_trans f y)) l ?_
   exact bz.sub ⟨rfl,rfl,rfl,trivial⟩
  ·refine (?_:U (WJ F m k j (.r2 ⟨old,aw,true,it,ws⟩)) _ _ _ _ _) d b
   refine U.aK ?_
   refine U.seq ?_
   refine U.rg [0,1,2,3,4,5,6,7] ?_
   refine U.lv 8 ?_
   refine U.aK ?_
   refine C0 h r l ?_
   exact bz.sub ⟨rfl,rfl,rfl,trivial⟩
theorem O1(D:∀ w:World,F.B.os w.os→F.B.os w.later.os)(E:lP F k j R H (aO (fr.finish (dZ [])) cs)){n:Nat}(Y:∀ m,m < n→jN F k j R H fr cs m){old:Wd}{aw sv:Bool}{it:Nat}{ws:Bool}{a:Int}(X:tW F (⟨old,aw,sv,it,ws⟩,a)){st:St}(W:aA st (mM F ⟨old,aw,sv,it,ws⟩ a)) :
  U (WJ F n k j (.c2 ⟨old,aw,sv,it,ws⟩)) (mL fr cs) R H st [.code q2,.inBlock 1,.inLoop iE,.inBlock 0,.code lu]:=by
 obtain ⟨x,M,r,N⟩:=X
 dsimp only at x M r N
 have hN:=F.hN
 have h5:old.ok 5:=mB x (by omega)
 have h4:old.ok 4:=mB x (by omega)
 obtain ⟨b1,b2,aa,T,t,ac,Z,af,ag,ae,s3⟩:=Wd.iU h5
 obtain ⟨aj,L,O,ak⟩:=h4
 have k1:(jF old).ok 5:=⟨by simp only [jF]; split <;> omega,L,O,by simp only [jF]; omega⟩
 have k2:(kg old).ok 5:=⟨k1.1,L,O,by simp only [kg]; split <;> omega⟩
 have k3:(nW old sv).ok 5:=⟨k1.1,L,by simp only [nW]; split <;> omega,k2.2.2.2⟩
 refine U.sub W ?_
 refine U.seq ?_
 refine U.rg [0,1] ?_
 refine U.lv 2 ?_
 refine U.aK ?_
 refine U.seq ?_
 refine U.seq ?_
 refine U.rg [0,1,2] ?_
 refine U.lv 3 ?_
 refine U.aK ?_
 refine U.is 52 (v':=.bool (decide (old.s=0))) rfl (hY T (yy (by omega))) ?_
 refine U.join (st':=q3 F ⟨old,aw,sv,it,ws⟩ a (jF old)) rfl (λ hb h=>?_) (λ hb h=>?_) ?_
 ·refine U.rg [0,1,2] ?_
  refine U.lv 3 ?_
  refine U.aK ?_
  refine U.is 7 (v':=.int .i32 (jF old).val) rfl (sT Z (by simp [jF,of_decide_eq_true hb])) ?_
  refine U.sub ?_ h
  exact bz.sub ⟨rfl,rfl,rfl,rfl,rfl,rfl,rfl,trivial⟩
 ·refine U.skip ?_
  refine U.is 7 (v':=.int .i32 (jF old).val) rfl (by simp [jF,of_decide_eq_false hb]) ?_
  refine U.sub ?_ h
  exact bz.sub ⟨rfl,rfl,rfl,rfl,rfl,rfl,rfl,trivial⟩
 refine U.seq ?_
 refine U.seq ?_
 refine U.rg [0,1,2] ?_
 refine U.lv 3 ?_
 refine U.aK ?_
 refine U.is 57 (v':=.bool (decide (old.l=1∨old.s=1))) rfl (m5 t (yz (by omega))) ?_
 refine U.join (st':=q3 F ⟨old,aw,sv,it,ws⟩ a (kg old)) rfl (λ hb h=>?_) (λ hb h=>?_) ?_
 ·refine U.rg [0,1,2] ?_
  refine U.lv 3 ?_
  refine U.aK ?_
  have e:(jF old).val+8=(kg old).val:=by simp only [kg,jF,Wd.val,of_decide_eq_true hb,if_true]; omega
  have f:=Wd.fit k1
  refine U.is 7 (v':=.int .i32 (kg old).val) rfl (by rw [← e]; exact congrArg _ (wrap_i32 (by omega) (by omega))) ?_
  refine U.sub ?_ h
  exact bz.sub ⟨rfl,rfl,rfl,rfl,rfl,rfl,rfl,trivial⟩
 ·refine U.skip ?_
  refine U.is 7 (v':=.int .i32 (kg old).val) rfl (by simp only [kg,of_decide_eq_false hb,if_false]; rfl) ?_
  refine U.sub ?_ h
  exact bz.sub ⟨rfl,rfl,rfl,rfl,rfl,rfl,rfl,trivial⟩
 refine U.seq ?_
 refine U.seq ?_
 refine U.rg [0,1,2,3,4,5] ?_
 refine U.mid (K:=?K) ((65,.bool (decide (sv=true∧old.l=1)))::q3 F ⟨old,aw,sv,it,ws⟩ a (kg old)) ?h1 ?h2
 case h1 =>
  intro h
  cases sv
  ·refine U.lv 6 ?_
   refine U.aK ?_
   refine h _ ?_
   exact bz.sub ⟨rfl,rfl,rfl,rfl,rfl,rfl,rfl,rfl,trivial⟩
  ·refine U.lv 5 ?_
   refine U.is 64 (v':=.bool (decide (true=true∧old.l=1))) rfl (m5 b1 (yz (by simp; omega))) ?_
   refine U.lv 1 ?_
   refine U.aK ?_
   refine h _ ?_
   exact bz.sub ⟨rfl,rfl,rfl,rfl,rfl,rfl,rfl,rfl,trivial⟩
 refine U.join (st':=q3 F ⟨old,aw,sv,it,ws⟩ a (nW old sv)) rfl (λ hb h=>?_) (λ hb h=>?_) ?_
 ·refine U.rg [0,1,2] ?_
  refine U.lv 3 ?_
  refine U.aK ?_
  have o:=(Wd.iU k2).2.2.2.2.2.2.2.2.1
  refine U.is 7 (v':=.int .i32 (nW old sv).val) rfl (sT o (by simp only [nW,of_decide_eq_true hb,and_self,if_true])) ?_
  refine U.sub ?_ h
  exact bz.sub ⟨rfl,rfl,rfl,rfl,rfl,rfl,rfl,trivial⟩
 ·refine U.skip ?_
  refine U.is 7 (v':=.int .i32 (nW old sv).val) rfl (by simp only [nW,of_decide_eq_false hb,if_false]; rfl) ?_
  refine U.sub ?_ h
  exact bz.sub ⟨rfl,rfl,rfl,rfl,rfl,rfl,rfl,trivial⟩
 refine U.seq ?_
 refine U.seq ?_
 refine U.rg [0] ?_
 refine U.lv 1 ?_
 refine U.aK ?_
 refine U.join (st':=q3 F ⟨old,aw,sv,it,ws⟩ a (nw ⟨old,aw,sv,it,ws⟩)) rfl (λ hb h=>?_) (λ hb h=>?_) ?_
 ·dsimp only at hb
  subst hb
  obtain ⟨_,S,_,_,_,_,_,_,_,Q,_⟩:=Wd.iU k3
  refine U.seq ?_
  refine U.seq ?_
  refine U.rg [0,1,2] ?_
  refine U.lv 3 ?_
  refine U.aK ?_
  have ad:=M rfl
  refine U.is 71 (v':=.bool false) rfl (hY S (by rw [beq_eq_false_iff_ne]; show ¬ (2 * (old.w:Int)=0); omega)) ?_
  refine U.cw rfl rfl ?_
  refine U.skip ?_
  refine U.rg [0,1,2] ?_
  refine U.lv 3 ?_
  refine U.aK ?_
  refine U.is 7 (v':=.int .i32 (nw ⟨old,true,sv,it,ws⟩).val) rfl (sT Q rfl) ?_
  refine U.sub ?_ h
  exact bz.sub ⟨rfl,rfl,rfl,rfl,rfl,rfl,rfl,trivial⟩
 ·dsimp only at hb
  subst hb
  refine U.skip ?_
  refine U.is 7 (v':=.int .i32 (nw ⟨old,false,sv,it,ws⟩).val) rfl rfl ?_
  refine U.sub ?_ h
  exact bz.sub ⟨rfl,rfl,rfl,rfl,rfl,rfl,rfl,trivial⟩
 refine U.seq ?_
 refine U.rg [0,1,2,3,4,5] ?_
 refine U.lv 5 ?_
 refine sW λ m hm=>KW.ext rfl rfl rfl rfl sF rfl rfl λ _ w s _ g y _=>.inr ?_
 have J:∀ m',m' < m→jN F k j R H fr cs m':=λ m' C=>Y m' (Nat.lt_trans C hm)
 by_cases G:s.mu=old
 ·subst G
  by_cases u:s.mu.l=0∧s.mu.s=0
  ·
   refine ⟨.bool true,_,_,.le,_,oz g.cm (g.zm 0),.vc rfl u.1 u.2,trivial,hn (.inl rfl),bG.mu g,λ d b=>(?_:U (WJ F m k j .le) _ _ _ _ _) d b⟩
   refine U.aK ?_
   refine U.c5 rfl rfl ?_
   refine U.seq ?_
   refine U.seq ?_
   refine U.rg [0,1,2] ?_
   refine U.lv 3 ?_
   refine U.aK ?_
   refine U.is 83 (v':=.bool true) rfl (hY t (by rw [u.1,u.2]; rfl)) ?_
   refine U.c5 rfl rfl ?_
   refine U.bD rfl ?_
   refine U.sub ?_ (C1 E m)
   exact bz.sub ⟨rfl,trivial⟩
  ·
   have V:s.mu.l=1∨s.mu.s=1:=by omega
   refine ⟨.bool true,_,_,if ws then .s1 ⟨s.mu,aw,sv,it,ws⟩ else .t1 ⟨s.mu,aw,sv,it,ws⟩,_,oz g.cm (g.zm 0),.kB rfl V,gO (by simp),hn (.inl rfl),bG.mu g,λ d b=>?_⟩
   by_cases hw:a=0
   ·have A:ws=false:=by rw [r]; simp [hw]
    subst A
    refine (?_:U (WJ F m k j (.t1 ⟨s.mu,aw,sv,it,false⟩)) _ _ _ _ _) d b
    refine U.aK ?_
    refine U.c5 rfl rfl ?_
    refine U.seq ?_
    refine U.seq ?_
    refine U.rg [0,1,2] ?_
    refine U.lv 3 ?_
    refine U.aK ?_
    refine U.is 83 (v':=.bool false) rfl (hY t (by rw [beq_eq_false_iff_ne]; omega)) ?_
    refine U.cw rfl rfl ?_
    refine U.skip ?_
    refine U.seq ?_
    refine U.rg [0,1,2] ?_
    refine U.lv 3 ?_
    refine U.aK ?_
    refine U.seq ?_
    refine U.seq ?_
    refine U.rg [0,1] ?_
    refine U.lv 2 ?_
    refine U.aK ?_
    refine U.is 87 (v':=.bool true) rfl (congrArg Value.bool (beq_iff_eq.2 hw)) ?_
    refine U.c5 rfl rfl ?_
    refine U.rg [0,1] ?_
    refine sW λ p I=>KW.nano D rfl rfl rfl rfl An (by kernel_rfl) rfl rfl ⟨by simp,by simp⟩ hk λ _ z=>?_
    refine ⟨.s1 ⟨s.mu,aw,sv,it,decide (z≠0)⟩,λ s=>.t1 _,gO (by simp),λ d b=>(?_:U (WJ F p k j (.s1 ⟨s.mu,aw,sv,it,decide (z≠0)⟩)) _ _ _ _ _) d b⟩
    refine U.lv 1 ?_
    refine U.aK ?_
    refine CY D E (q:=(a != 0)) (λ m' C=>J m' (Nat.lt_trans C I)) rfl ?_
    exact bz.sub ⟨rfl,rfl,rfl,rfl,trivial⟩
   ·have A:ws=true:=by rw [r]; simp [hw]
    subst A
    refine (?_:U (WJ F m k j (.s1 ⟨s.mu,aw,sv,it,true⟩)) _ _ _ _ _) d b
    refine U.aK ?_
    refine U.c5 rfl rfl ?_
    refine U.seq ?_
    refine U.seq ?_
    refine U.rg [0,1,2] ?_
    refine U.lv 3 ?_
    refine U.aK ?_
    refine U.is 83 (v':=.bool false) rfl (hY t (by rw [beq_eq_false_iff_ne]; omega)) ?_
    refine U.cw rfl rfl ?_
    refine U.skip ?_
    refine U.seq ?_
    refine U.rg [0,1,2] ?_
    refine U.lv 3 ?_
    refine U.aK ?_
    refine U.seq ?_
    refine U.seq ?_
    refine U.rg [0,1] ?_
    refine U.lv 2 ?_
    refine U.aK ?_
    refine U.is 87 (v':=.bool false) rfl (congrArg Value.bool (beq_eq_false_iff_ne.2 hw)) ?_
    refine U.cw rfl rfl ?_
    refine U.skip ?_
    refine CY D E (q:=(a != 0)) J r ?_
    exact bz.sub ⟨rfl,rfl,rfl,rfl,trivial⟩
 ·
  refine ⟨.bool false,w,_,.r3 ⟨old,aw,sv,it,ws⟩,s,qi g.cm (g.zm 0) (λ e=>G (Wd.val_inj y.1 x e)),.vd G,gO (by simp),kz (.inl rfl),bG.refl g,λ d b=>(?_:U (WJ F m k j (.r3 ⟨old,aw,sv,it,ws⟩)) _ _ _ _ _) d b⟩
  refine U.aK ?_
  refine U.cw rfl rfl ?_
  refine U.rg [0,1,2,3,4] ?_
  refine U.lv 3 ?_
  refine sW λ p I=>KW.look rfl rfl rfl rfl rfl pn (by kernel_rfl) rfl ⟨by simp,by simp⟩ (λ _ h=>h) λ ah s y=>⟨_,.r3,gO (by simp),λ d b=>tG ((?_:U (WJ F p k j (hd ⟨s.mu,aw,sv,it,ws⟩)) _ _ _ _ _) d b)⟩
  refine U.lv 1 ?_
  refine U.aK ?_
  refine U.a9 ?_
  refine U.inLoop ?_
  refine U.sub ?_ (J p I (⟨s.mu,aw,sv,it,ws⟩,a) ⟨y.1,y.2,r,N⟩)
  exact bz.sub ⟨rfl,rfl,rfl,rfl,rfl,rfl,trivial⟩
theorem O2(e:∀ w:World,F.B.os w.os→F.B.os w.later.os)(f:lP F k j R H (aO (fr.finish (dZ [])) cs))(n:Nat):jN F k j R H fr cs n:=λ x a =>
 U.head (Jn:=λ n (x:Lc × Int)=>WJ F n k j (hd x.1)) (S:=λ x=>mM F x.1 x.2) (ok:=tW F) (λ n b x a=>by
  obtain ⟨⟨old,aw,sv,it,ws⟩,h⟩:=x
  exact O4 b a λ m hm st g=>O1 e f (λ m' d=>b m' (Nat.lt_of_lt_of_le d hm)) a g) n x a
end
section
variable {F:Fx} {R:ax} {H:ai} {k j:Nat}
theorem O3(a:∀ w:World,F.B.os w.os→F.B.os w.later.os)(n:Nat):e5 prog ((WJ F n k j .r0).J R H) (lP F k j R H) 231 [pm F]:=e5.gu func231 rfl rfl rfl λ fr cs b=>by
 refine U.seq ?_
 refine U.rg [0] ?_
 refine U.lv 1 ?_
 refine U.aK ?_
 refine U.seq ?_
 refine U.rg [0] ?_
 refine U.lv 1 ?_
 refine U.aK ?_
 refine U.seq ?_
 refine U.rg [0] ?_
 refine U.lv 1 ?_
 refine U.aK ?_
 refine U.seq ?_
 refine U.rg [0] ?_
 refine U.lv 1 ?_
 refine U.aK ?_
 refine U.seq ?_
 refine U.rg [0,1,2,3,4] ?_
 refine U.lv 3 ?_
 refine sW λ m hm=>KW.look rfl rfl rfl rfl rfl pn (by kernel_rfl) rfl ⟨by simp,by simp⟩ (λ _ h=>h) λ g s d=>⟨_,.r0,gO (by simp),λ f e=>tG ((?_:U (WJ F m k j (hd ⟨s.mu,false,false,0,false⟩)) _ _ _ _ _) f e)⟩
 refine U.lv 1 ?_
 refine U.aK ?_
 refine U.seq ?_
 refine U.aR ?_
 refine U.enterLoop ?_
 refine U.sub ?_ (O2 a b m (⟨s.mu,false,false,0,false⟩,0) ⟨d.1,by simp,by simp,Nat.zero_le _⟩)
 exact bz.sub ⟨rfl,rfl,rfl,rfl,rfl,rfl,trivial⟩
theorem Iy(l:∀ w:World,F.B.os w.os→F.B.os w.later.os)(n:Nat):e5 prog ((WJ F n k j .ld).J R H) (lP F k j R H) 203 [pm F]:=e5.gu func203 rfl rfl rfl λ fr cs h=>by
 refine U.seq ?_
 refine U.rg [0] ?_
 refine sW λ m hm=>KW.ext rfl rfl rfl rfl ql rfl rfl λ _ w s _ d _ _=>.inr ⟨_,w,_,.l0,s,h7 (by simp),.ld,trivial,rfl,bG.refl d,λ b a=>(?_:U (WJ F m k j .l0) _ _ _ _ _) b a⟩
 refine U.aK ?_
 refine U.seq ?_
 refine U.seq ?_
 refine U.rg [0,1,2,3] ?_
 refine U.lv 3 ?_
 refine sW λ p r=>KW.ext rfl rfl rfl rfl sF rfl rfl λ _ w s _ d q _=>.inr ?_
 by_cases f:s.mu = .zero
 ·refine ⟨.bool true,_,_,.le,_,oz (v:=0) (by have e:=d.cm; rw [f] at e; exact e) (d.zm 0),.AI f,trivial,hn (.inl rfl),bG.mu (m:=⟨1,0,0,0⟩) d,λ b a=>(?_:U (WJ F p k j .le) _ _ _ _ _) b a⟩
  refine U.aK ?_
  refine U.c5 rfl rfl ?_
  refine U.seq ?_
  refine U.c5 rfl rfl ?_
  refine U.seq ?_
  refine U.rg [0] ?_
  refine sW λ n _=>KW.ext rfl rfl rfl rfl m9 rfl rfl λ _ w s _ d _ _=>.inr ⟨_,w,_,.lc,s,h7 (by simp),.le,trivial,rfl,bG.refl d,λ b a=>(?_:U (WJ F n k j .lc) _ _ _ _ _) b a⟩
  refine U.aK ?_
  refine U.rg [0,1,2] ?_
  refine U.lv 1 ?_
  refine sW λ n _=>KW.conv rfl rfl rfl rfl rfl xR rfl uF ⟨by simp,by simp⟩ hk (λ _=>.lc) trivial λ b a=>(?_:U (WJ F n k j .la) _ _ _ _ _) b a
  refine sW λ n _=>KW.ext rfl rfl rfl rfl sE rfl rfl λ _ w s _ d _ _=>.inr ⟨_,w,_,.ul λ _=>0,s,m7 (λ _ _=>by simp) rfl,.la,trivial,rfl,bG.refl d,λ b a js g=>(?_:U (WJ F n k j (.ul js)) _ _ _ _ _) b a⟩
  refine U.aK ?_
  exact U.hq func203 rfl (h n js g) (.inr ⟨_,rfl⟩)
 ·refine ⟨.bool false,w,_,.r0,s,qi d.cm (d.zm 0) (λ e=>f (Wd.val_inj q.1 (N':=0) ⟨Nat.zero_le _,Nat.zero_le _,Nat.zero_le _,b6 _⟩ e)),.AH f,trivial,kz (.inl rfl),bG.refl d,λ b a=>(?_:U (WJ F p k j .r0) _ _ _ _ _) b a⟩
  refine U.aK ?_
  refine U.cw rfl rfl ?_
  refine U.skip ?_
  refine U.rg [0,1] ?_
  refine U.lv 1 ?_
  refine U.jZ rfl rfl rfl rfl rfl Gu rfl (O3 l p) λ b a n js g=>(?_:U (WJ F n k j (.ul js)) _ _ _ _ _) b a
  refine U.aK ?_
  exact U.hq func203 rfl (h n js g) (.inl rfl)
theorem JS(a:∀ w:World,F.B.os w.os→F.B.os w.later.os)(n:Nat):e5 prog ((WJ F n k j .ld).J R H) (lP F k j R H) 173 [pm F]:=e5.gu func173 rfl rfl rfl λ fr cs d=>by
 refine U.rg [0,1,2,3] ?_
 refine U.lv 3 ?_
 refine U.jZ rfl rfl rfl rfl rfl Gf rfl (Iy a n) λ f e n js b=>(?_:U (WJ F n k j (.ul js)) _ _ _ _ _) f e
 refine U.aK ?_
 exact U.hq func173 rfl (d n js b) (.inl rfl)
def uC(F:Fx)(k j:Nat)(R:ax)(H:ai)(g:Goroutine):Prop:=∀ n,Own prog F.B false (KW (FT F) n k j .ue) R H g
def uD(F:Fx)(k j:Nat)(R:ax)(H:ai)(g:Goroutine):Prop:=(j < F.J→∀ n,Own prog F.B false (KW (FT F) n k j .ld) R H g)∧(j=F.J→∀ n,Own prog F.B false (KW (FT F) n k j .wv) R H g)
theorem DG{m:Wd}(h:m.ok 5)(hl:m.l=0):IntKind.i32.wrap (m.val+1)=Wd.val { m with l:=1 }:=by
 have:=Wd.fit h
 rw [wrap_i32 (by omega) (by omega)]; simp only [Wd.val,hl]; omega
theorem P4{m:Wd}(h:m.ok 5)(_:m.w=0)(a:m.n≠0):IntKind.i32.wrap (m.val - 8)=Wd.val { m with n:=m.n - 1 }∧Wd.ok 5 { m with n:=m.n - 1 }:=by
 have:=Wd.fit h
 obtain ⟨h1,h2,h3,h4⟩:=h
 refine ⟨?_,h1,h2,h3,by simp only; omega⟩
 rw [wrap_i32 (by omega) (by omega)]; simp only [Wd.val]; omega
theorem P2{m:Wd}(h:m.ok 5)(hl:m.l=1):IntKind.i32.wrap (m.val + -1)=Wd.val { m with l:=0 }:=by
 have:=Wd.fit h
 rw [wrap_i32 (by omega) (by omega)]; simp only [Wd.val,hl]; omega
theorem Dp{s:Sh}{w:World}(a:cX (FT F) s w)(b:s.ms=0):bG (FT F) { s with ms:=s.ms+1 } w (w.setCell ⟨F.bm,1,none⟩ (.int .u32 (IntKind.u32.wrap ((s.ms:Int)+1)))):=by
 rw [wrap_u32 (by omega) (by omega)]
 exact bG.ms a
theorem PI{m:Wd}(h5:m.ok 5)(hl:m.l=0)(e:m.s=1)(n:Nat):e5 prog ((WJ F n k j .us).J R H) (uC F k j R H) 233 [pm F,.int .i32 m.val]:=e5.gu func233 rfl rfl rfl λ fr cs b=>by
 have e1:=DG h5 hl
 have d5:Wd.ok 5 { m with l:=1 }:=⟨b6 _,h5.2.1,h5.2.2.1,h5.2.2.2⟩
 refine U.seq ?_
 refine U.seq ?_
 refine U.rg [0,1,2,3] ?_
 refine U.lv 2 ?_
 refine U.is 6 (v':=.int .i32 (Wd.val { m with l:=1 })) rfl (congrArg _ e1) ?_
 refine U.lv 2 ?_
 refine U.aK ?_
 refine U.is 8 (v':=.bool false) rfl (hY (Wd.iU d5).1 rfl) ?_
 refine U.cw rfl rfl ?_
 refine U.skip ?_
 refine U.seq ?_
 refine U.rg [0,1,2] ?_
 refine U.lv 3 ?_
 refine U.aK ?_
 refine U.is 12 (v':=.bool false) rfl (hY (Wd.iU h5).2.2.2.1 (by rw [e]; rfl)) ?_
 refine U.cw rfl rfl ?_
 refine U.rg [0,1,2,3] ?_
 refine U.lv 3 ?_
 refine sW λ m hm=>KW.ext rfl rfl rfl rfl Ao rfl rfl λ _ w s _ a d _=>.inr ⟨_,_,_,.ue,_,vP rfl a.rY (a.zm 1),.us,trivial,pU (.inl rfl),Dp a d.2,λ g f=>(?_:U (WJ F m k j .ue) _ _ _ _ _) g f⟩
 refine U.aK ?_
 exact U.hq func233 rfl (b m) (.inl rfl)
noncomputable def Bc:Code:=(jY (Tryz.f233.body.getD .skip)).getD .skip
theorem PJ{fr:Frame}{cs:List Frame}{todo:List Item}(r:uC F k j R H (aO (fr.finish (dZ [])) cs))(n:Nat)(m:Wd)(hm:m.ok F.N) :
  U (WJ F n k j (hu m)) ⟨233,.normal,none,43,[],fr::cs⟩ R H [(0,pm F),(4,.int .i32 m.val)] (.code Bc :: .inLoop Bc::todo):=by
 have hN:=F.hN
 refine U.head (Jn:=λ n (m:Wd)=>WJ F n k j (hu m)) (S:=λ m=>[(0,pm F),(4,.int .i32 m.val)]) (ok:=λ m=>m.ok F.N) (λ n D m hm=>?_) n m hm
 have h5:m.ok 5:=mB hm (by omega)
 have s3:=(Wd.iU h5).2.2.2.2.2.2.2.2.2.2
 have u:=(Wd.iU h5).2.2.2.2.2.1
 have y:m.val.fdiv (2 ^ (min (3:Int).toNat IntKind.i32.bits))=(m.n:Int):=by simpa [fa] using s3
 refine U.aR ?_
 refine U.seq ?_
 refine U.seq ?_
 refine U.rg [0,1,2,3,4,5,6,7] ?_
 refine U.lv 4 ?_
 by_cases g:m.n=0
 ·rw [show hu m = .ue from if_pos (.inl g)]
  refine U.is 17 (v':=.bool true) rfl (congrArg Value.bool (by show (m.val.fdiv (2 ^ (min (3:Int).toNat IntKind.i32.bits)) == 0)=true; rw [y,g]; rfl)) ?_
  refine U.lv 4 ?_
  refine U.aK ?_
  refine U.c5 rfl rfl ?_
  exact U.hq func233 rfl (r n) (.inr ⟨_,rfl⟩)
 refine U.is 17 (v':=.bool false) rfl (congrArg Value.bool (by show (m.val.fdiv (2 ^ (min (3:Int).toNat IntKind.i32.bits)) == 0)=false; rw [y,beq_eq_false_iff_ne]; omega)) ?_
 refine U.lv 3 ?_
 obtain ⟨E,G,I,J⟩:=h5
 by_cases z:m.l=1∨m.w=1∨m.s=1
 ·rw [show hu m = .ue from if_pos (.inr z)]
  refine U.is 20 (v':=.bool true) rfl (m5 u (by rw [bne_iff_ne]; omega)) ?_
  refine U.lv 1 ?_
  refine U.aK ?_
  refine U.c5 rfl rfl ?_
  exact U.hq func233 rfl (r n) (.inr ⟨_,rfl⟩)
 rw [show hu m = .uc m from if_neg (by simp only [g,false_or]; exact z)]
 obtain ⟨A,k8⟩:=P4 ⟨E,G,I,J⟩ (by omega) g
 refine U.is 20 (v':=.bool false) rfl (m5 u (by rw [bne_eq_false_iff_eq]; omega)) ?_
 refine U.lv 1 ?_
 refine U.aK ?_
 refine U.cw rfl rfl ?_
 refine U.skip ?_
 refine U.seq ?_
 refine U.rg [0,1,2,3] ?_
 refine U.lv 2 ?_
 refine U.is 23 (v':=.int .i32 (Wd.val { m with n:=m.n - 1 })) rfl (congrArg _ A) ?_
 refine U.lv 2 ?_
 refine U.aK ?_
 refine U.is 1 (v':=.int .i32 (Wd.val { m with w:=1,n:=m.n - 1 })) rfl (sT (Wd.iU k8).2.2.2.2.2.2.2.1 rfl) ?_
 refine U.seq ?_
 refine U.seq ?_
 refine U.rg [0,1,2,3,4,5] ?_
 refine U.lv 5 ?_
 refine sW λ p C=>KW.ext rfl rfl rfl rfl sF rfl rfl λ _ w s _ a f _=>.inr ?_
 by_cases t:s.mu=m
 ·subst t
  refine ⟨.bool true,_,_,.us,_,oz a.cm (a.zm 0),.Dm rfl,trivial,hn (.inl rfl),bG.mu a,λ d b=>(?_:U (WJ F p k j .us) _ _ _ _ _) d b⟩
  refine U.aK ?_
  refine U.c5 rfl rfl ?_
  refine U.seq ?_
  refine U.rg [0,1,2,3] ?_
  refine U.lv 3 ?_
  refine sW λ q x=>KW.ext rfl rfl rfl rfl Ao rfl rfl λ _ w s _ a f _=>.inr ⟨_,_,_,.ue,_,vP rfl a.rY (a.zm 1),.us,trivial,pU (.inl rfl),Dp a f.2,λ d b=>(?_:U (WJ F q k j .ue) _ _ _ _ _) d b⟩
  refine U.aK ?_
  exact U.hq func233 rfl (r q) (.inr ⟨_,rfl⟩)
 ·refine ⟨.bool false,w,_,.ux,s,qi a.cm (a.zm 0) (λ e=>t (Wd.val_inj f.1 hm e)),.xP t,trivial,kz (.inl rfl),bG.refl a,λ d b=>(?_:U (WJ F p k j .ux) _ _ _ _ _) d b⟩
  refine U.aK ?_
  refine U.cw rfl rfl ?_
  refine U.skip ?_
  refine U.rg [0,1,2,3,4] ?_
  refine U.lv 3 ?_
  refine sW λ q x=>KW.look rfl rfl rfl rfl rfl pn (by kernel_rfl) rfl ⟨by simp,by simp⟩ (λ _ h=>h) λ K s f=>⟨_,.ux,gO (by simp),λ d b=>Ci ((?_:U (WJ F q k j (hu s.mu)) _ _ _ _ _) d b)⟩
  refine U.lv 1 ?_
  refine U.aK ?_
  refine U.a9 ?_
  refine U.inLoop ?_
  refine U.sub ?_ (D q (Nat.lt_trans x C) s.mu f.1)
  exact bz.sub ⟨rfl,rfl,trivial⟩
theorem PK{m:Wd}(hm:m.ok F.N)(hl:m.l=0)(b:m.s=0)(n:Nat):e5 prog ((WJ F n k j (hu m)).J R H) (uC F k j R H) 233 [pm F,.int .i32 m.val]:=e5.gu func233 rfl rfl rfl λ fr cs a=>by
 have hN:=F.hN
 have h5:m.ok 5:=mB hm (by omega)
 have e1:=DG h5 hl
 have d5:Wd.ok 5 { m with l:=1 }:=⟨b6 _,h5.2.1,h5.2.2.1,h5.2.2.2⟩
 refine U.seq ?_
 refine U.seq ?_
 refine U.rg [0,1,2,3] ?_
 refine U.lv 2 ?_
 refine U.is 6 (v':=.int .i32 (Wd.val { m with l:=1 })) rfl (congrArg _ e1) ?_
 refine U.lv 2 ?_
 refine U.aK ?_
 refine U.is 8 (v':=.bool false) rfl (hY (Wd.iU d5).1 rfl) ?_
 refine U.cw rfl rfl ?_
 refine U.skip ?_
 refine U.seq ?_
 refine U.rg [0,1,2] ?_
 refine U.lv 3 ?_
 refine U.aK ?_
 refine U.is 12 (v':=.bool true) rfl (hY (Wd.iU h5).2.2.2.1 (by rw [b]; rfl)) ?_
 refine U.c5 rfl rfl ?_
 refine U.seq ?_
 refine U.rg [0,1] ?_
 refine U.lv 2 ?_
 refine U.aK ?_
 refine U.aR ?_
 refine U.enterLoop ?_
 refine U.sub ?_ (PJ a n m hm)
 exact bz.sub ⟨rfl,rfl,trivial⟩
end
section
variable {F:Fx} {R:ax} {H:ai} {k j:Nat}
noncomputable def Fo:Code:=match Tryz.f204.body with | some (.seq _ (.seq _ (.seq _ z)))=>z | _=>.skip
theorem wm{fr:Frame}{cs:List Frame}{st:St}(g:j≤F.J)(e:uD F k j R H (aO (fr.finish (dZ [])) cs))(n:Nat):U (WJ F n k j .ue) ⟨204,.normal,none,21,[],fr::cs⟩ R H st [.code Fo]:=by
 refine U.rg [0] ?_
 refine sW λ m hm=>KW.ext rfl rfl rfl rfl m9 rfl rfl λ _ w s _ f _ _=>.inr ?_
 by_cases h:j < F.J
 ·refine ⟨_,w,_,.ld,s,h7 (by simp),.uj,h,rfl,bG.refl f,λ b a=>(?_:U (WJ F m k j .ld) _ _ _ _ _) b a⟩
  refine U.aK ?_
  exact U.hq func204 rfl (e.1 h m) (.inl rfl)
 ·have d:j=F.J:=by omega
  refine ⟨_,w,_,.wv,s,h7 (by simp),.uk,d,rfl,bG.refl f,λ b a=>(?_:U (WJ F m k j .wv) _ _ _ _ _) b a⟩
  refine U.aK ?_
  exact U.hq func204 rfl (e.2 d m) (.inl rfl)
theorem IG{js:Nat→Nat}(p:j+1≤F.J)(n:Nat):e5 prog ((WJ F n k j (.ul js)).J R ((F.bo,F.cont (dx js k (j+1)))::H)) (uD F k (j+1) R H) 204 [pm F]:=e5.gu func204 rfl rfl rfl λ fr cs q=>by
 have hN:=F.hN
 refine U.seq ?_
 refine U.c5 rfl rfl ?_
 refine U.seq ?_
 refine U.rg [0,1,2,3] ?_
 refine U.lv 3 ?_
 refine sW λ m hm=>KW.look rfl rfl rfl rfl rfl pn (by kernel_rfl) rfl ⟨by simp,by simp⟩ (λ _ h=>h) λ x s r=>⟨.uv js,.ul,gO (by simp),λ b a=>(?_:U (WJ F m k j (.uv js)) _ _ _ _ _) b a⟩
 refine U.aK ?_
 refine U.seq ?_
 refine U.rg [0,1,2] ?_
 refine U.lv 1 ?_
 refine sW λ m hm=>KW.conv rfl rfl rfl rfl rfl xR rfl uF ⟨by simp,by simp⟩ hk (λ _=>.uv) trivial λ b a=>(?_:U (WJ F m k j (.ur js)) _ _ _ _ _) b a
 refine sW λ m hm=>KW.ext rfl rfl rfl rfl Aj rfl rfl λ _ w s _ d _ _=>.inr ⟨_,w,_,.ud,s,m7 (λ _ _=>by simp) rfl,.ur,trivial,rfl,bG.refl d,λ b a=>⟨js,H,rfl,rfl,(?_:U (WJ F m k (j+1) .ud) _ _ _ _ _) b a⟩⟩
 refine U.aK ?_
 refine U.rg [0] ?_
 refine sW λ m hm=>KW.ext rfl rfl rfl rfl ql rfl rfl λ _ w s _ d _ _=>.inr ⟨_,w,_,.u0,s,h7 (by simp),.ud,trivial,rfl,bG.refl d,λ b a=>(?_:U (WJ F m k (j+1) .u0) _ _ _ _ _) b a⟩
 refine U.aK ?_
 refine U.seq ?_
 refine U.rg [0,1,2,3,4] ?_
 refine U.lv 3 ?_
 refine sW λ m hm=>KW.ext rfl rfl rfl rfl Am rfl rfl λ _ w s _ d r _=>.inr ?_
 obtain ⟨f,hl⟩:=r
 have h5:s.mu.ok 5:=mB f (show (FT F).N≤5 from Nat.le_trans hN (by omega))
 have e:=P2 h5 hl
 have k5:Wd.ok F.N { s.mu with l:=0 }:=⟨Nat.zero_le _,f.2.1,f.2.2.1,f.2.2.2⟩
 by_cases u:s.mu.s=1
 ·refine ⟨_,_,_,.us,_,l3 d.cm (d.zm 0),.Dk u,trivial,hn (.inl rfl),by rw [e]; exact bG.mu d,λ b a=>(?_:U (WJ F m k (j+1) .us) _ _ _ _ _) b a⟩
  refine U.lv 1 ?_
  refine U.aK ?_
  refine U.is 2 (v':=.int .i32 (Wd.val { s.mu with l:=0 })) rfl (congrArg _ e) ?_
  refine U.seq ?_
  refine U.seq ?_
  refine U.rg [0,1] ?_
  refine U.lv 2 ?_
  refine U.aK ?_
  refine U.is 16 (v':=.bool true) rfl (congrArg Value.bool (by rw [bne_iff_ne]; simp only [Wd.val]; omega)) ?_
  refine U.c5 rfl rfl ?_
  refine U.rg [0,1,2] ?_
  refine U.lv 2 ?_
  refine U.jZ rfl rfl rfl rfl rfl zQ rfl (PI (m:={ s.mu with l:=0 }) ⟨Nat.zero_le _,h5.2.1,h5.2.2.1,h5.2.2.2⟩ rfl u m) λ b a n=>(?_:U (WJ F n k (j+1) .ue) _ _ _ _ _) b a
  refine U.aK ?_
  exact wm p q n
 have t:s.mu.s=0:=by have:=f.2.2.1; omega
 by_cases g:s.mu.w=0∧s.mu.s=0∧s.mu.n=0
 ·refine ⟨_,_,_,.ue,_,l3 d.cm (d.zm 0),.Dl g.1 g.2.1 g.2.2,trivial,hn (.inl rfl),by rw [e]; exact bG.mu d,λ b a=>(?_:U (WJ F m k (j+1) .ue) _ _ _ _ _) b a⟩
  refine U.lv 1 ?_
  refine U.aK ?_
  refine U.is 2 (v':=.int .i32 (Wd.val { s.mu with l:=0 })) rfl (congrArg _ e) ?_
  refine U.seq ?_
  refine U.seq ?_
  refine U.rg [0,1] ?_
  refine U.lv 2 ?_
  refine U.aK ?_
  refine U.is 16 (v':=.bool false) rfl (congrArg Value.bool (by rw [bne_eq_false_iff_eq]; simp only [Wd.val]; omega)) ?_
  refine U.cw rfl rfl ?_
  refine U.skip ?_
  exact wm p q m
 ·refine ⟨_,_,_,hu { s.mu with l:=0 },_,l3 d.cm (d.zm 0),.lE g t,gO (by simp),hn (.inl rfl),by rw [e]; exact bG.mu d,λ b a=>Ci ((?_:U (WJ F m k (j+1) (hu { s.mu with l:=0 })) _ _ _ _ _) b a)⟩
  refine U.lv 1 ?_
  refine U.aK ?_
  refine U.is 2 (v':=.int .i32 (Wd.val { s.mu with l:=0 })) rfl (congrArg _ e) ?_
  refine U.seq ?_
  refine U.seq ?_
  refine U.rg [0,1] ?_
  refine U.lv 2 ?_
  refine U.aK ?_
  refine U.is 16 (v':=.bool true) rfl (congrArg Value.bool (by rw [bne_iff_ne]; simp only [Wd.val]; omega)) ?_
  refine U.c5 rfl rfl ?_
  refine U.rg [0,1,2] ?_
  refine U.lv 2 ?_
  refine U.jZ rfl rfl rfl rfl rfl zQ rfl (PK k5 rfl t m) λ b a n=>(?_:U (WJ F n k (j+1) .ue) _ _ _ _ _) b a
  refine U.aK ?_
  exact wm p q n
theorem PD{js:Nat→Nat}(e:j+1≤F.J)(n:Nat):e5 prog ((WJ F n k j (.ul js)).J R ((F.bo,F.cont (dx js k (j+1)))::H)) (uD F k (j+1) R H) 174 [pm F]:=e5.gu func174 rfl rfl rfl λ fr cs a=>by
 refine U.rg [0,1,2,3] ?_
 refine U.lv 3 ?_
 refine U.jZ rfl rfl rfl rfl rfl Gg rfl (IG e n) λ d b=>⟨λ h n=>(?_:U (WJ F n k (j+1) .ld) _ _ _ _ _) d b,λ h n=>(?_:U (WJ F n k (j+1) .wv) _ _ _ _ _) d b⟩
 ·refine U.aK ?_
  exact U.hq func174 rfl (a.1 h n) (.inl rfl)
 ·refine U.aK ?_
  exact U.hq func174 rfl (a.2 h n) (.inl rfl)
end
open Go.ConcN
section
variable {F:Fx} {R:ax} {H:ai} {k j:Nat}
abbrev pw(F:Fx):Value:=.pointer (some (aw F))
noncomputable abbrev TQ (F:Fx) (n k j:Nat) (T:Lp) (R:ax) (H:ai):=Py prog (KW (FT F) n k j T R H)
theorem sQ{c:Ctx}{st:St}{todo:List Item}{n:Nat}{T:Lp}(h:∀ m,m < n→∀ tmps,bV c.n st tmps→KW (FT F) (m+1) k j T R H (aO (aN c tmps todo) c.cs)):aB (TQ F n k j T R H) c st todo:=λ tmps a=>by
 cases n with
 | zero=>exact ⟨0,trivial⟩
 | succ n=>exact ⟨0,h n (Nat.lt_succ_self n) tmps a⟩
def Gone(g:Goroutine):Prop:=∃ q,QuitsD prog q 0 g
theorem pC(s:Sh):lG s=4294967296 * (s.v:Int)+s.w:=rfl
theorem Fg{s:Sh}{w:World}(a:cX (FT F) s w)(b:s.ws=0):bG (FT F) { s with ws:=s.ws+1 } w (w.setCell (hV F) (.int .u32 (IntKind.u32.wrap ((s.ws:Int)+1)))):=by
 rw [wrap_u32 (by omega) (by omega)]
 exact bG.ws a
theorem yn{n:Nat}{st:St}{fr:Frame}{cs:List Frame}{todo:List Item}{args:Array Value}(b:Gone (aO (fr.finish (dZ [])) cs))(hm:todo=[]∨∃ k,todo = .code .ret::k):aB (ll prog 1) ⟨169,.normal,none,n,[dcall 192 args],fr::cs⟩ st todo:=by
 have key:∀ tmps todo,bV n st tmps→(ll prog 1).Q (aO (ew ⟨169,.normal,none,n,[dcall 192 args],fr::cs⟩ tmps todo) (fr::cs)):=λ tmps todo a =>
  NN rfl m9 (QJ.back (J:=ll prog 0) func169 a rfl b)
 rcases hm with rfl | ⟨k,rfl⟩
 ·exact aB.vy rfl λ tmps a=>key tmps _ a
 ·exact aB.ret rfl λ tmps a=>key tmps _ a
noncomputable def pd:Code:=match Tryz.f169.body with | some (.seq _ (.seq _ (.seq _ (.seq _ z))))=>z | _=>.skip
noncomputable def EV:Code:=match pd with | .seq _ (.seq _ (.seq _ (.seq _ (.seq _ (.seq _ (.seq (.seq _ x) _))))))=>x | _=>.skip
noncomputable def NP:Code:=match pd with | .seq _ (.seq _ (.seq _ (.seq _ (.seq _ (.seq _ (.seq _ y))))))=>y | _=>.skip
theorem rH{b:Option Int}{z y:Int}{p:Bool}(h:b=some z)(a:(z != y)=p):Value.bool (b.getD 0 != y) = .bool p:=by rw [h]; exact congrArg _ a
theorem yo{J:QJ prog}{c:Ctx}{st:St}{kk:List Item}{v w:Nat}(b:c.kind = .normal)(d:c.n=117)(p:v≤5)(hw:w≤1)(m:aA st [(0,pw F),(1,.int .i64 (-1)),(4,.bool false),(6,.int .u64 (4294967296 * (v:Int)+w))])
  (h:aB J c [(0,pw F),(4,.bool false),(6,.int .u64 (4294967296 * (v:Int)+w)),(8,.int .u32 w),(94,.bool (decide (0 < v∨w=0)))] (.code EV :: .code NP::kk)):aB J c st (.code pd::kk):=by
 obtain ⟨f,kind,ro,n,ds,cs⟩:=c
 dsimp only at b d
 subst b d
 obtain ⟨e,g,l⟩:=xZ p hw
 have gs:(4294967296 * (v:Int)+w).fdiv (2 ^ (min (32:Int).toNat IntKind.u64.bits))=(v:Int):=by simpa [fa] using l
 refine aB.sub m ?_
 refine aB.seq ?_
 refine aB.seq ?_
 refine aB.rg [0,1,2,3,4,5,6] ?_
 refine aB.lv 4 ?_
 refine aB.is 47 (v':=.bool false) rfl (rH e rfl) ?_
 refine aB.lv 3 ?_
 refine aB.aK ?_
 refine aB.cw rfl ?_
 refine aB.skip ?_
 refine aB.seq ?_
 refine aB.rg [0,1,2,3] ?_
 refine aB.lv 4 ?_
 refine aB.aK ?_
 refine aB.is 7 (v':=.int .i32 (v:Int)) rfl (congrArg _ (by
  show IntKind.i32.wrap ((4294967296 * (v:Int)+w).fdiv (2 ^ (min (32:Int).toNat IntKind.u64.bits)))=_
  rw [gs,wrap_i32 (by omega) (by omega)])) ?_
 refine aB.seq ?_
 refine aB.rg [0,1,2,3] ?_
 refine aB.lv 4 ?_
 refine aB.aK ?_
 refine aB.is 8 (v':=.int .u32 (w:Int)) rfl (congrArg _ (by rw [g,gh]; exact wrap_u32 (by omega) (by omega))) ?_
 refine aB.seq ?_
 refine aB.seq ?_
 refine aB.rg [0,1,2,3,4,5,6,7,8,9] ?_
 refine aB.lv 5 ?_
 refine aB.is 62 (v':=.bool false) rfl (congrArg Value.bool (by decide)) ?_
 refine aB.lv 5 ?_
 refine aB.aK ?_
 refine aB.cw rfl ?_
 refine aB.skip ?_
 refine aB.seq ?_
 refine aB.seq ?_
 refine aB.rg [0,1] ?_
 refine aB.lv 2 ?_
 refine aB.aK ?_
 refine aB.is 74 (v':=.bool false) rfl (congrArg Value.bool (by rw [decide_eq_false_iff_not]; omega)) ?_
 refine aB.cw rfl ?_
 refine aB.skip ?_
 refine aB.seq ?_
 refine aB.seq ?_
 refine aB.rg [0,1,2,3,4,5,6,7,8,9,10,11] ?_
 refine aB.lv 3 ?_
 rcases (show w=0∨w=1 by omega) with rfl | rfl
 ·refine aB.is 78 (v':=.bool false) rfl rfl ?_
  refine aB.lv 9 ?_
  refine aB.aK ?_
  refine aB.cw rfl ?_
  refine aB.skip ?_
  refine aB.seq ?_
  refine aB.seq ?_
  refine aB.rg [0,1,2,3,4,5] ?_
  refine aB.lv 3 ?_
  by_cases a:0 < v
  ·refine aB.is 91 (v':=.bool true) rfl (congrArg Value.bool (by rw [decide_eq_true_iff]; omega)) ?_
   refine aB.lv 3 ?_
   refine aB.aK ?_
   refine aB.is 94 (v':=.bool (decide (0 < v∨0=0))) rfl (congrArg Value.bool (by simp [a])) ?_
   refine aB.sub ?_ h
   exact bz.sub ⟨rfl,rfl,rfl,rfl,rfl,trivial⟩
  ·refine aB.is 91 (v':=.bool false) rfl (congrArg Value.bool (by rw [decide_eq_false_iff_not]; omega)) ?_
   refine aB.lv 3 ?_
   refine aB.aK ?_
   refine aB.is 94 (v':=.bool (decide (0 < v∨0=0))) rfl (congrArg Value.bool (by simp [a])) ?_
   refine aB.sub ?_ h
   exact bz.sub ⟨rfl,rfl,rfl,rfl,rfl,trivial⟩
 ·refine aB.is 78 (v':=.bool true) rfl rfl ?_
  refine aB.lv 3 ?_
  refine aB.is 81 (v':=.bool false) rfl (congrArg Value.bool (by decide)) ?_
  refine aB.lv 6 ?_
  refine aB.aK ?_
  refine aB.cw rfl ?_
  refine aB.skip ?_
  refine aB.seq ?_
  refine aB.seq ?_
  refine aB.rg [0,1,2,3,4,5] ?_
  refine aB.lv 3 ?_
  by_cases a:0 < v
  ·refine aB.is 91 (v':=.bool true) rfl (congrArg Value.bool (by rw [decide_eq_true_iff]; omega)) ?_
   refine aB.lv 3 ?_
   refine aB.aK ?_
   refine aB.is 94 (v':=.bool (decide (0 < v∨1=0))) rfl (congrArg Value.bool (by simp [a])) ?_
   refine aB.sub ?_ h
   exact bz.sub ⟨rfl,rfl,rfl,rfl,rfl,trivial⟩
  ·refine aB.is 91 (v':=.bool false) rfl (congrArg Value.bool (by rw [decide_eq_false_iff_not]; omega)) ?_
   refine aB.lv 3 ?_
   refine aB.aK ?_
   refine aB.is 94 (v':=.bool (decide (0 < v∨1=0))) rfl (congrArg Value.bool (by simp [a])) ?_
   refine aB.sub ?_ h
   exact bz.sub ⟨rfl,rfl,rfl,rfl,rfl,trivial⟩
theorem PX(n:Nat):e5 prog ((WJ F n k j .wv).J R H) Gone 169 [pw F,.int .i64 (-1)]:=e5.gu func169 rfl rfl rfl λ fr cs h=>by
 have hN:=F.hN
 refine U.seq ?_
 refine U.c5 rfl rfl ?_
 refine U.seq ?_
 refine U.seq ?_
 refine U.rg [0,1] ?_
 refine U.lv 2 ?_
 refine U.aK ?_
 refine U.c5 rfl (by decide) ?_
 refine U.rg [0,1,2] ?_
 refine U.lv 1 ?_
 refine sW λ m hm=>KW.conv rfl rfl rfl rfl rfl xQ rfl uG ⟨by simp,by simp⟩ hk (λ _=>.wv) trivial λ d b=>(?_:U (WJ F m k j .wr) _ _ _ _ _) d b
 refine sW λ m hm=>KW.ext rfl rfl rfl rfl Aj rfl rfl λ _ w s _ a _ _=>.inr ⟨_,w,_,.wk,s,m7 (λ _ _=>by simp) rfl,.wr,trivial,rfl,bG.refl a,λ d b=>(?_:aB (TQ F m k j .wk R H) _ _ _) d b⟩
 refine aB.aK ?_
 refine aB.seq ?_
 refine aB.rg [0] ?_
 refine sQ λ m hm=>KW.ext rfl rfl rfl rfl ql rfl rfl λ _ w s _ a _ _=>.inr ⟨_,w,_,.d1,s,h7 (by simp),.wk,trivial,rfl,bG.refl a,λ d b=>(?_:aB (TQ F m k j .d1 R H) _ _ _) d b⟩
 refine aB.aK ?_
 refine aB.rg [0] ?_
 refine aB.defer rfl rfl rfl rfl rfl rfl rfl (.tH rfl) ?_
 refine aB.aK ?_
 refine aB.seq ?_
 refine aB.rg [0] ?_
 refine aB.lv 1 ?_
 refine aB.aK ?_
 refine aB.seq ?_
 refine aB.seq ?_
 refine aB.rg [0] ?_
 refine aB.ext rfl rfl rfl rfl rfl Ak rfl (λ w=>vO) (.put rfl) ?_
 refine aB.aK ?_
 refine aB.cw rfl ?_
 refine aB.skip ?_
 refine aB.seq ?_
 refine aB.rg [0,1,2,3,4,5,6,7] ?_
 refine aB.lv 6 ?_
 refine aB.is 42 (v':=.int .u64 18446744069414584320) rfl (congrArg _ (by decide +kernel)) ?_
 refine aB.enter rfl rfl rfl rfl rfl func197 (by decide +kernel) rfl rfl rfl λ y l=>?_
 refine aB.seq ?_
 refine aB.rg [0] ?_
 refine aB.lv 1 ?_
 refine aB.aK ?_
 refine aB.seq ?_
 refine aB.rg [0,1,2,3,4,5] ?_
 refine aB.lv 4 ?_
 refine sQ λ m hm=>KW.ext rfl rfl rfl rfl Al rfl rfl λ _ w s _ a _ f=>.inr ?_
 obtain ⟨v1,v2,w1⟩:=f
 have C:s.v≤F.N:=v2
 have g:IntKind.u64.wrap (lG s+18446744069414584320)=4294967296 * ((s.v - 1:Nat):Int)+s.w:=by rw [pC,Qb (by omega) (by omega)]; omega
 by_cases r:s.v≠1∨s.w=0
 ·refine ⟨_,_,_,.quit,_,l3 a.cg (a.zg 0),.qd r,trivial,hn (.inr rfl),by rw [g]; exact bG.wg a,λ d b=>(?_:aB (ll prog 1) _ _ _) d b⟩
  refine aB.lv 1 ?_
  refine aB.is 4 (v':=.int .u64 (4294967296 * ((s.v - 1:Nat):Int)+s.w)) rfl (congrArg _ g) ?_
  refine aB.aK ?_
  refine aB.ret rfl λ tmps e=>QJ.back (J:=ll prog 1) (vs:=[.int .u64 (4294967296 * ((s.v - 1:Nat):Int)+s.w)]) func197 e rfl (aB.resume (c':=⟨0,.normal,none,0,[],_⟩) rfl l rfl (.put rfl) ?_ rfl)
  refine aB.lv 1 ?_
  refine aB.aK ?_
  refine yo (F:=F) (v:=s.v - 1) (w:=s.w) rfl rfl (by omega) w1 ?_ ?_
  ·exact bz.sub ⟨rfl,rfl,rfl,rfl,trivial⟩
  ·refine aB.is 94 (v':=.bool true) rfl (congrArg Value.bool (by rw [decide_eq_true_iff]; omega)) ?_
   refine aB.c5 rfl ?_
   exact yn h (.inr ⟨_,rfl⟩)
 ·have h1:s.v=1:=by omega
  have h2:s.w=1:=by omega
  refine ⟨_,_,_,.d2,_,l3 a.cg (a.zg 0),.vr h1 h2,trivial,hn (.inr rfl),by rw [g,h1]; exact bG.wg a,λ d b=>(?_:aB (TQ F m k j .d2 R H) _ _ _) d b⟩
  refine aB.lv 1 ?_
  refine aB.is 4 (v':=.int .u64 (4294967296 * ((0:Nat):Int)+((1:Nat):Int))) rfl (congrArg _ (by rw [g,h1,h2])) ?_
  refine aB.aK ?_
  refine aB.ret rfl λ tmps e=>QJ.back (J:=TQ F m k j .d2 R H) (vs:=[.int .u64 (4294967296 * ((0:Nat):Int)+((1:Nat):Int))]) func197 e rfl (aB.resume (c':=⟨0,.normal,none,0,[],_⟩) rfl l rfl (.put rfl) ?_ rfl)
  refine aB.lv 1 ?_
  refine aB.aK ?_
  refine yo (F:=F) (v:=0) (w:=1) rfl rfl (by omega) (by omega) ?_ ?_
  ·exact bz.sub ⟨rfl,rfl,rfl,rfl,trivial⟩
  refine aB.is 94 (v':=.bool false) rfl rfl ?_
  refine aB.cw rfl ?_
  refine aB.skip ?_
  refine aB.seq ?_
  refine aB.seq ?_
  refine aB.rg [0,1,2,3,4,5] ?_
  refine aB.lv 3 ?_
  refine aB.enter rfl rfl rfl rfl rfl func199 (by decide +kernel) rfl rfl rfl λ z t=>?_
  refine aB.seq ?_
  refine aB.rg [0] ?_
  refine aB.lv 1 ?_
  refine aB.aK ?_
  refine aB.seq ?_
  refine aB.rg [0,1,2,3,4] ?_
  refine aB.lv 3 ?_
  refine sQ λ m hm=>KW.ext rfl rfl rfl rfl vT rfl rfl λ _ w s _ a _ f=>.inr ⟨_,_,_,.d3,_,sD a.cg,.d2,trivial,kz (.inr rfl),bG.refl a,λ d b=>(?_:aB (TQ F m k j .d3 R H) _ _ _) d b⟩
  obtain ⟨p,q⟩:=f
  refine aB.lv 1 ?_
  refine aB.is 2 (v':=.int .u64 (4294967296 * ((0:Nat):Int)+((1:Nat):Int))) rfl (congrArg _ (by rw [pC,p,q])) ?_
  refine aB.aK ?_
  refine aB.ret rfl λ tmps e=>QJ.back (J:=TQ F m k j .d3 R H) (vs:=[.int .u64 (4294967296 * ((0:Nat):Int)+((1:Nat):Int))]) func199 e rfl (aB.resume (c':=⟨0,.normal,none,0,[],_⟩) rfl t rfl (.put rfl) ?_ rfl)
  refine aB.lv 2 ?_
  refine aB.aK ?_
  refine aB.is 100 (v':=.bool false) rfl rfl ?_
  refine aB.cw rfl ?_
  refine aB.skip ?_
  refine aB.seq ?_
  refine aB.rg [0,1,2,3] ?_
  refine aB.lv 3 ?_
  refine aB.enter rfl rfl rfl rfl rfl func200 (by decide +kernel) rfl rfl rfl λ A x=>?_
  refine aB.rg [0,1,2,3,4] ?_
  refine aB.lv 4 ?_
  refine sQ λ m hm=>KW.ext rfl rfl rfl rfl Hp rfl rfl λ _ w s _ a _ f=>.inr ⟨_,_,_,.d4,_,G6 a.cg (a.zg 0),.d3,trivial,Es (.inr rfl),bG.wg (v:=0) (u:=0) a,λ d b=>(?_:aB (TQ F m k j .d4 R H) _ _ _) d b⟩
  refine aB.aK ?_
  refine aB.vy rfl λ tmps e=>QJ.back (J:=TQ F m k j .d4 R H) (vs:=[]) func200 e rfl (aB.resume (c':=⟨0,.normal,none,0,[],_⟩) rfl x rfl (.put rfl) ?_ rfl)
  refine aB.aK ?_
  refine aB.seq ?_
  refine aB.seq ?_
  refine aB.rg [0] ?_
  refine aB.lv 1 ?_
  refine aB.aK ?_
  refine aB.cw rfl ?_
  refine aB.skip ?_
  refine aB.block ?_
  refine aB.enterLoop ?_
  refine aB.seq ?_
  refine aB.seq ?_
  refine aB.rg [0,1] ?_
  refine aB.lv 2 ?_
  refine aB.aK ?_
  refine aB.is 110 (v':=.bool true) rfl rfl ?_
  refine aB.c5 rfl ?_
  refine aB.skip ?_
  refine aB.seq ?_
  refine aB.block ?_
  refine aB.rg [0,1,2,3] ?_
  refine aB.lv 3 ?_
  refine sQ λ m hm=>KW.ext rfl rfl rfl rfl Hm rfl rfl λ _ w s _ a _ f=>.inr ⟨_,_,_,.quit,_,vP rfl a.rU (a.zg 1),.d4,trivial,pU (.inr rfl),Fg a f,λ d b=>(?_:aB (ll prog 1) _ _ _) d b⟩
  refine aB.aK ?_
  refine aB.inBlock ?_
  refine aB.rg [0,1,2] ?_
  refine aB.lv 3 ?_
  refine aB.aK ?_
  refine aB.is 8 (v':=.int .u32 0) rfl rfl ?_
  refine aB.inLoop ?_
  refine aB.seq ?_
  refine aB.seq ?_
  refine aB.rg [0,1] ?_
  refine aB.lv 2 ?_
  refine aB.aK ?_
  refine aB.is 110 (v':=.bool false) rfl rfl ?_
  refine aB.cw rfl ?_
  refine aB.exit rfl ?_
  exact yn h (.inl rfl)
theorem Fb{fr:Frame}{cs:List Frame}(a:fr.mode = .returning∨fr.mode = .panicking [goexitEntry])(b:Gone (aO fr cs))(n:Nat):(WJ F n k j .wv).J R H (aO (Frame.enter prog 171 #[pw F] .deferred) (fr::cs)):=by
 refine Jd.enter (args:=[pw F]) func171 rfl rfl rfl ?_
 refine U.rg [0,1] ?_
 refine U.lv 1 ?_
 refine U.jZ rfl rfl rfl rfl rfl zM rfl (PX n) λ f e=>(?_:aB (ll prog 0) _ _ _) f e
 refine aB.aK ?_
 exact aB.vy rfl λ tmps d=>QJ.yv (J:=ll prog 0) func171 d rfl a b
end
section
variable {P:Program} {B:Base} {main:Bool} {ab:Jd P B main} {c:Ctx} {R:ax} {H:ai} {st st':St} {k:List Item} {ops:Array Oper} {i:Nat} {rest:List Nat} {o:Oper} {v:Value}
theorem U.sU{f:FuncId}{fn:Func}{body:Code}{xs:Array Operand}{ee:Array TypeId}{vs:List Value}{n:Nat}(ho:ops[i]? = some o)(hw:bQ ops st o=some true)(l:(c.kind == CallKind.early)=false)(d:o.op = .call ⟨.value (.func f),xs,ee⟩)(g:ev st xs.toList=some vs)
  (b:P.funcs[f]? = some fn) (p:(fn.name == "runtime.NumGoroutine")=false) (hb:fn.body=some body) (q:fn.ntmps=n) (m:Nat.ble vs.length n=true)
  (h:∀ tmps,bV c.n st tmps→U ab ⟨f,.normal,none,n,[],aN c tmps (.inRegion ops (i::rest)::k)::c.cs⟩ R H (ji 0 vs) [.code body]):U ab c R H st (.inRegion ops (i::rest)::k):=λ tmps a=>by
 have e:ah P (execOp (aN c tmps (.inRegion ops (i::rest)::k)).eval o) (.enter f vs.toArray):=by
  rw [oB d a g]
  exact n9 b p (by rw [hb]; rfl)
 refine Jd.ctl rfl (λ w=>?_) (Jd.enter b hb q m (h tmps a))
 rw [g7 ho (e2 a hw) (by rw [d]; rfl),pR rfl (by simpa [aN] using l) (e w).1,(e w).2]
 rfl
theorem U.n1{tmps:Array Value}{f:FuncId}{fn:Func}{n:Nat}{vs:List Value}{a:St}{kf:List Item}(b:P.funcs[f]? = some fn)(d:lq a fn.results.toList=some vs)(ho:ops[i]? = some o)(g:bV c.n st tmps)(hd:bA o.dst c.n)(e:aA (bC o.dst (dZ vs) st) st')(h:U ab c R H st' (.inRegion ops rest::k)) :
  U ab ⟨f,.normal,none,n,[],aN c tmps (.inRegion ops (i::rest)::k)::c.cs⟩ R H a (.code .ret::kf) :=
 U.xN rfl λ m l=>Jd.back b l d (by rw [hx ho]; exact h _ ((g.put _ hd).sub e))
end
section
variable {F:Fx} {R:ax} {H:ai}
noncomputable abbrev dt (F:Fx) (n:Nat) (T:Mp):=q6 prog F.B true (KM (FT F) n T)
theorem sM{c:Ctx}{st:St}{todo:List Item}{n:Nat}{T:Mp}(h:∀ m,m < n→∀ tmps,bV c.n st tmps→KM (FT F) (m+1) T R H (aO (aN c tmps todo) c.cs)):U (dt F n T) c R H st todo:=U.Pn (F:=FT F) h
def yc(F:Fx)(r:Nat)(R:ax)(H:ai)(g:Goroutine):Prop:=∀ n,Own prog F.B true (KM (FT F) n (.go r)) R H g
noncomputable def t22:Code:=match pd with | .seq _ (.seq _ (.seq _ (.seq _ y)))=>y | _=>.skip
noncomputable def EU:Code:=match pd with | .seq _ (.seq _ (.seq _ (.seq (.seq _ x) _)))=>x | _=>.skip
theorem B3{r:Nat}{fr:Frame}{cs:List Frame}{args:Array Value}{st:St}{v:Nat}(a:yc F r R H (aO (fr.finish (dZ [])) cs))(h1:1≤v)(h5:v≤5)(b:aA st [(0,pw F),(1,.int .i64 1),(7,.int .i32 (v:Int)),(8,.int .u32 0)])(n:Nat) :
  U (dt F n (.ke r)) ⟨169,.normal,none,117,[dcall 192 args],fr::cs⟩ R H st [.code t22]:=by
 refine U.sub b ?_
 refine U.seq ?_
 refine U.seq ?_
 refine U.rg [0,1] ?_
 refine U.lv 2 ?_
 refine U.aK ?_
 refine U.is 74 (v':=.bool false) rfl (congrArg Value.bool (by rw [decide_eq_false_iff_not]; omega)) ?_
 refine U.cw rfl rfl ?_
 refine U.skip ?_
 refine U.seq ?_
 refine U.seq ?_
 refine U.rg [0,1,2,3,4,5,6,7,8,9,10,11] ?_
 refine U.lv 3 ?_
 refine U.is 78 (v':=.bool false) rfl rfl ?_
 refine U.lv 9 ?_
 refine U.aK ?_
 refine U.cw rfl rfl ?_
 refine U.skip ?_
 refine U.seq ?_
 refine U.seq ?_
 refine U.rg [0,1,2,3,4,5] ?_
 refine U.lv 3 ?_
 refine U.is 91 (v':=.bool true) rfl (congrArg Value.bool (by rw [decide_eq_true_iff]; omega)) ?_
 refine U.lv 3 ?_
 refine U.aK ?_
 refine U.c5 rfl rfl ?_
 refine U.xN rfl λ tmps d=>?_
 cases n with
 | zero=>exact Own.stop _ _ _ _ trivial
 | succ n=>exact Own.stop _ _ _ _ (KM.unwind (F:=FT F) rfl m9 (Jd.back (ab:=dt F n (.go r)) func169 d rfl (a n)))
theorem MK(r n:Nat):e5 prog ((dt F n (.ka r)).J R H) (yc F r R H) 169 [pw F,.int .i64 1]:=e5.gu func169 rfl rfl rfl λ fr cs h=>by
 have hN:=F.hN
 refine U.seq ?_
 refine U.c5 rfl rfl ?_
 refine U.seq ?_
 refine U.seq ?_
 refine U.rg [0,1] ?_
 refine U.lv 2 ?_
 refine U.aK ?_
 refine U.cw rfl (by decide) ?_
 refine U.skip ?_
 refine U.seq ?_
 refine U.rg [0] ?_
 refine sM λ m hm=>KM.ext rfl rfl rfl rfl ql rfl rfl (by simp) (by simp) λ w s _ d _=>.inr ⟨_,w,_,.kc r,s,h7 (by simp),.ka,rfl,bG.refl d,λ b a=>(?_:U (dt F m (.kc r)) _ _ _ _ _) b a⟩
 refine U.aK ?_
 refine U.rg [0] ?_
 refine U.defer rfl rfl rfl rfl rfl rfl rfl (.tH rfl) ?_
 refine U.aK ?_
 refine U.seq ?_
 refine U.rg [0] ?_
 refine U.lv 1 ?_
 refine U.aK ?_
 refine U.seq ?_
 refine U.seq ?_
 refine U.rg [0] ?_
 refine U.ext rfl rfl rfl rfl rfl Ak rfl (λ w=>vO) (.put rfl) ?_
 refine U.aK ?_
 refine U.cw rfl rfl ?_
 refine U.skip ?_
 refine U.seq ?_
 refine U.rg [0,1,2,3,4,5,6,7] ?_
 refine U.lv 6 ?_
 refine U.is 42 (v':=.int .u64 4294967296) rfl (congrArg _ (by decide +kernel)) ?_
 refine U.sU rfl rfl rfl rfl rfl func197 (by decide +kernel) rfl rfl rfl λ D l=>?_
 refine U.seq ?_
 refine U.rg [0] ?_
 refine U.lv 1 ?_
 refine U.aK ?_
 refine U.seq ?_
 refine U.rg [0,1,2,3,4,5] ?_
 refine U.lv 4 ?_
 refine sM λ m hm=>KM.ext rfl rfl rfl rfl Al rfl rfl (by simp) (by simp) λ w s _ d y=>.inr ?_
 obtain ⟨C,v1⟩:=y
 have E:s.v+1≤F.N:=v1
 have e:IntKind.u64.wrap (lG s+4294967296)=4294967296 * ((s.v+1:Nat):Int)+((0:Nat):Int):=by rw [pC,DR (by omega) (by omega)]; omega
 obtain ⟨q,t,x⟩:=xZ (v:=s.v+1) (w:=0) (by omega) (by omega)
 have gs:(4294967296 * ((s.v+1:Nat):Int)+((0:Nat):Int)).fdiv (2 ^ (min (32:Int).toNat IntKind.u64.bits))=((s.v+1:Nat):Int):=by simpa [fa] using x
 have p:bG (FT F) { s with v:=s.v+1 } w (w.setCell (aw F) (.int .u64 (IntKind.u64.wrap (lG s+4294967296)))):=by
  rw [e]; have:=bG.wg (F:=FT F) (v:=s.v+1) (u:=0) d
  rw [show ({ s with v:=s.v+1 }:Sh)={ s with v:=s.v+1,w:=0 } by rw [← C]]; exact this
 have go:∀ (T:Mp) (g:U (dt F m T) ⟨169,.normal,none,117,[dcall 192 #[]],fr::cs⟩ R H [(0,pw F),(1,.int .i64 1),(7,.int .i32 ((s.v+1:Nat):Int)),(8,.int .u32 0),(67,.bool (decide (s.v+1=1)))] [.code EU,.code t22]) (st:St),
   aA st [(0,pw F),(1,.int .i64 1),(4,.bool false),(6,.int .u64 (4294967296 * ((s.v+1:Nat):Int)+((0:Nat):Int)))]→U (dt F m T) ⟨169,.normal,none,117,[dcall 192 #[]],fr::cs⟩ R H st [.code pd]:=by
  intro T g st A
  refine U.sub A ?_
  refine U.seq ?_
  refine U.seq ?_
  refine U.rg [0,1,2,3,4,5,6] ?_
  refine U.lv 4 ?_
  refine U.is 47 (v':=.bool false) rfl (rH q rfl) ?_
  refine U.lv 3 ?_
  refine U.aK ?_
  refine U.cw rfl rfl ?_
  refine U.skip ?_
  refine U.seq ?_
  refine U.rg [0,1,2,3] ?_
  refine U.lv 4 ?_
  refine U.aK ?_
  refine U.is 7 (v':=.int .i32 ((s.v+1:Nat):Int)) rfl (congrArg _ (by
   show IntKind.i32.wrap ((4294967296 * ((s.v+1:Nat):Int)+((0:Nat):Int)).fdiv (2 ^ (min (32:Int).toNat IntKind.u64.bits)))=_
   rw [gs,wrap_i32 (by omega) (by omega)])) ?_
  refine U.seq ?_
  refine U.rg [0,1,2,3] ?_
  refine U.lv 4 ?_
  refine U.aK ?_
  refine U.is 8 (v':=.int .u32 0) rfl (congrArg _ (by rw [t,gh]; exact wrap_u32 (by omega) (by omega))) ?_
  refine U.seq ?_
  refine U.seq ?_
  refine U.rg [0,1,2,3,4,5,6,7,8,9] ?_
  refine U.lv 5 ?_
  refine U.is 62 (v':=.bool true) rfl (congrArg Value.bool (by decide)) ?_
  refine U.lv 4 ?_
  refine U.is 66 (v':=.bool (decide (s.v+1=1))) rfl (congrArg Value.bool (yy (by rw [wrap_i32 (by omega) (by omega)]; omega))) ?_
  refine U.lv 1 ?_
  refine U.aK ?_
  refine U.sub ?_ g
  exact bz.sub ⟨rfl,rfl,rfl,rfl,rfl,trivial⟩
 by_cases f:s.v=0
 ·refine ⟨_,_,_,.kv r,{ s with v:=1 },l3 d.cg (d.zg 0),.II f,hn (.inr rfl),by have:=p; simp only [f] at this; exact this,λ b a=>(?_:U (dt F m (.kv r)) _ _ _ _ _) b a⟩
  refine U.lv 1 ?_
  refine U.is 4 (v':=.int .u64 (4294967296 * ((s.v+1:Nat):Int)+((0:Nat):Int))) rfl (congrArg _ e) ?_
  refine U.aK ?_
  refine U.n1 func197 rfl rfl l rfl (.put rfl) ?_
  refine U.lv 1 ?_
  refine U.aK ?_
  refine go _ ?_ _ ?_
  ·refine U.c5 rfl (by rw [decide_eq_true_iff]; omega) ?_
   refine U.rg [0,1,2,3,4] ?_
   refine U.lv 3 ?_
   refine sM λ m hm=>KM.conv rfl rfl rfl rfl rfl Dn rfl yq (by simp) (by simp) hk (λ _=>.kv) λ b a=>(?_:U (dt F m (.kd r)) _ _ _ _ _) b a
   refine sM λ m hm=>KM.ext rfl rfl rfl rfl Hl rfl rfl (by simp) (by simp) λ w s1 _ z _=>.inr ⟨_,w,_,.ke r,s1,m7 (λ _ _=>by simp) rfl,.kd,rfl,bG.refl z,λ b a=>(?_:U (dt F m (.ke r)) _ _ _ _ _) b a⟩
   refine U.aK ?_
   refine B3 h (v:=s.v+1) (by omega) (by omega) ?_ m
   exact bz.sub ⟨rfl,rfl,rfl,rfl,trivial⟩
  ·exact bz.sub ⟨rfl,rfl,rfl,rfl,trivial⟩
 ·refine ⟨_,_,_,.ke r,_,l3 d.cg (d.zg 0),.IJ f,hn (.inr rfl),p,λ b a=>(?_:U (dt F m (.ke r)) _ _ _ _ _) b a⟩
  refine U.lv 1 ?_
  refine U.is 4 (v':=.int .u64 (4294967296 * ((s.v+1:Nat):Int)+((0:Nat):Int))) rfl (congrArg _ e) ?_
  refine U.aK ?_
  refine U.n1 func197 rfl rfl l rfl (.put rfl) ?_
  refine U.lv 1 ?_
  refine U.aK ?_
  refine go _ ?_ _ ?_
  ·refine U.cw rfl (by rw [decide_eq_false_iff_not]; omega) ?_
   refine U.skip ?_
   refine B3 h (v:=s.v+1) (by omega) (by omega) ?_ m
   exact bz.sub ⟨rfl,rfl,rfl,rfl,trivial⟩
  ·exact bz.sub ⟨rfl,rfl,rfl,rfl,trivial⟩
end
section
variable {F:Fx} {R:ax} {H:ai} {Post:Value→World→Prop}
def yk(F:Fx)(R:ax)(H:ai)(g:Goroutine):Prop:=∀ js,(∀ k,k < F.N→js k=F.J)→F.mj R ((F.bo,F.cont js)::H) g
noncomputable def Bb:Code:=(jY (Tryz.f175.body.getD .skip)).getD .skip
abbrev PY(fr:Frame)(cs:List Frame):Ctx:=⟨175,.normal,none,84,[],fr::cs⟩
theorem PZ(J:F.mj=eo prog F.B Post){fr:Frame}{cs:List Frame}{todo:List Item}(I:yk F R H (aO (fr.finish (dZ [])) cs))(n:Nat):U (dt F n .w1) (PY fr cs) R H [(0,pw F)] (.code Bb :: .inLoop Bb::todo):=by
 have hN:=F.hN
 refine U.head (X:=Unit) (Jn:=λ n _=>dt F n .w1) (S:=λ _=>[(0,pw F)]) (ok:=λ _=>True) (λ n V _ _=>?_) n () trivial
 refine U.aR ?_
 refine U.seq ?_
 refine U.rg [0,1,2,3,4] ?_
 refine U.lv 3 ?_
 refine U.sU rfl rfl rfl rfl rfl func199 (by decide +kernel) rfl rfl rfl λ ac D=>?_
 refine U.seq ?_
 refine U.rg [0] ?_
 refine U.lv 1 ?_
 refine U.aK ?_
 refine U.seq ?_
 refine U.rg [0,1,2,3,4] ?_
 refine U.lv 3 ?_
 refine sM λ m hm=>KM.ext rfl rfl rfl rfl vT rfl rfl (by simp) (by simp) λ w s _ g f=>.inr ?_
 obtain ⟨Z,v1⟩:=f
 have Y:s.v≤F.N:=v1
 have t:lG s=4294967296 * (s.v:Int)+((0:Nat):Int):=by rw [pC,Z]
 obtain ⟨x,y,G⟩:=xZ (v:=s.v) (w:=0) (by omega) (by omega)
 have gs:(4294967296 * (s.v:Int)+((0:Nat):Int)).fdiv (2 ^ (min (32:Int).toNat IntKind.u64.bits))=(s.v:Int):=by simpa [fa] using G
 by_cases r:s.v=0
 ·refine ⟨_,_,_,.we,s,sD g.cg,.PU r,kz (.inr rfl),bG.refl g,λ b a=>(?_:U (dt F m .we) _ _ _ _ _) b a⟩
  refine U.lv 1 ?_
  refine U.is 2 (v':=.int .u64 (4294967296 * (s.v:Int)+((0:Nat):Int))) rfl (congrArg _ t) ?_
  refine U.aK ?_
  refine U.n1 func199 rfl rfl D rfl (.put rfl) ?_
  refine U.lv 1 ?_
  refine U.aK ?_
  refine U.seq ?_
  refine U.rg [0,1,2,3] ?_
  refine U.lv 4 ?_
  refine U.aK ?_
  refine U.is 3 (v':=.int .i32 (s.v:Int)) rfl (congrArg _ (by
   show IntKind.i32.wrap ((4294967296 * (s.v:Int)+((0:Nat):Int)).fdiv (2 ^ (min (32:Int).toNat IntKind.u64.bits)))=_
   rw [gs,wrap_i32 (by omega) (by omega)])) ?_
  refine U.seq ?_
  refine U.rg [0,1,2,3] ?_
  refine U.lv 4 ?_
  refine U.aK ?_
  refine U.is 4 (v':=.int .u32 0) rfl (congrArg _ (by rw [y,gh]; exact wrap_u32 (by omega) (by omega))) ?_
  refine U.seq ?_
  refine U.seq ?_
  refine U.rg [0,1] ?_
  refine U.lv 2 ?_
  refine U.aK ?_
  refine U.is 19 (v':=.bool true) rfl (congrArg Value.bool (by rw [r]; rfl)) ?_
  refine U.c5 rfl rfl ?_
  refine U.seq ?_
  refine U.c5 rfl rfl ?_
  refine U.seq ?_
  refine U.rg [0] ?_
  refine sM λ m hm=>KM.ext rfl rfl rfl rfl m9 rfl rfl (by simp) (by simp) λ w s1 _ h _=>.inr ⟨_,w,_,.qv,s1,h7 (by simp),.we,rfl,bG.refl h,λ b a=>(?_:U (dt F m .qv) _ _ _ _ _) b a⟩
  refine U.aK ?_
  refine U.rg [0,1,2] ?_
  refine U.lv 1 ?_
  refine sM λ m hm=>KM.conv rfl rfl rfl rfl rfl xQ rfl uG (by simp) (by simp) hk (λ _=>.qv) λ b a=>(?_:U (dt F m .wq) _ _ _ _ _) b a
  refine sM λ m hm=>KM.acq rfl rfl rfl rfl sE rfl rfl rfl λ js C b a=>?_
  have d:=I js C
  show F.mj _ _ _
  rw [J] at d ⊢
  refine (?_:U (nV prog F.B Post) _ _ _ _ _) b a
  refine U.aK ?_
  refine U.seq ?_
  refine U.seq ?_
  refine U.rg [0,1,2,3,4,5,6,7,8,9,10] ?_
  refine U.lv 2 ?_
  refine U.is 25 (v':=.bool true) rfl rfl ?_
  refine U.lv 4 ?_
  refine U.is 29 (v':=.bool false) rfl (rH x rfl) ?_
  refine U.lv 5 ?_
  refine U.aK ?_
  refine U.cw rfl rfl ?_
  refine U.skip ?_
  exact U.hq func175 rfl d (.inr ⟨_,rfl⟩)
 ·refine ⟨_,_,_,.w2 s.v,s,sD g.cg,.Dy r,kz (.inr rfl),bG.refl g,λ b a=>(?_:U (dt F m (.w2 s.v)) _ _ _ _ _) b a⟩
  refine U.lv 1 ?_
  refine U.is 2 (v':=.int .u64 (4294967296 * (s.v:Int)+((0:Nat):Int))) rfl (congrArg _ t) ?_
  refine U.aK ?_
  refine U.n1 func199 rfl rfl D rfl (.put rfl) ?_
  refine U.sub (st':=[(0,pw F),(11,.int .u64 (4294967296 * (s.v:Int)+((0:Nat):Int)))]) (bz.sub ⟨rfl,rfl,trivial⟩) ?_
  clear t g a D
  generalize s.v=u at r Y x y G gs v1 ⊢
  refine U.lv 1 ?_
  refine U.aK ?_
  refine U.seq ?_
  refine U.rg [0,1,2,3] ?_
  refine U.lv 4 ?_
  refine U.aK ?_
  refine U.is 3 (v':=.int .i32 (u:Int)) rfl (congrArg _ (by
   show IntKind.i32.wrap ((4294967296 * (u:Int)+((0:Nat):Int)).fdiv (2 ^ (min (32:Int).toNat IntKind.u64.bits)))=_
   rw [gs,wrap_i32 (by omega) (by omega)])) ?_
  refine U.seq ?_
  refine U.rg [0,1,2,3] ?_
  refine U.lv 4 ?_
  refine U.aK ?_
  refine U.is 4 (v':=.int .u32 0) rfl (congrArg _ (by rw [y,gh]; exact wrap_u32 (by omega) (by omega))) ?_
  refine U.seq ?_
  refine U.seq ?_
  refine U.rg [0,1] ?_
  refine U.lv 2 ?_
  refine U.aK ?_
  refine U.is 19 (v':=.bool false) rfl (congrArg Value.bool (by rw [beq_eq_false_iff_ne]; omega)) ?_
  refine U.cw rfl rfl ?_
  refine U.skip ?_
  refine U.seq ?_
  refine U.rg [0,1,2,3,4,5,6] ?_
  refine U.lv 6 ?_
  refine U.is 47 (v':=.int .u64 (4294967296 * (u:Int)+((1:Nat):Int))) rfl (congrArg _ (by rw [DR (by omega) (by omega)]; omega)) ?_
  refine U.sU rfl rfl rfl rfl rfl func207 (by decide +kernel) rfl rfl rfl λ ad L=>?_
  refine U.seq ?_
  refine U.rg [0] ?_
  refine U.lv 1 ?_
  refine U.aK ?_
  refine U.seq ?_
  refine U.rg [0,1,2,3,4,5,6] ?_
  refine U.lv 5 ?_
  refine sM λ p Q=>KM.ext rfl rfl rfl rfl Hq rfl rfl (by simp) (by simp) λ w s2 _ l f=>.inr ?_
  obtain ⟨aa,af,ag⟩:=f
  have O:lG s2=4294967296 * (s2.v:Int)+((0:Nat):Int):=by rw [pC,aa]
  have A:=l.cg
  rw [O] at A
  by_cases he:s2.v=u
  ·subst he
   refine ⟨.bool true,_,_,.wV,{ s2 with w:=1 },oz A (l.zg 0),.DC,hn (.inr rfl),bG.wg (v:=s2.v) (u:=1) l,λ b a=>(?_:U (dt F p .wV) _ _ _ _ _) b a⟩
   refine U.lv 1 ?_
   refine U.aK ?_
   refine U.n1 func207 rfl rfl L rfl (.put rfl) ?_
   refine U.aK ?_
   refine U.c5 rfl rfl ?_
   refine U.seq ?_
   refine U.seq ?_
   refine U.rg [0,1,2,3] ?_
   refine U.lv 3 ?_
   refine U.is 51 (v':=.bool true) rfl rfl ?_
   refine U.lv 1 ?_
   refine U.aK ?_
   refine U.c5 rfl rfl ?_
   refine U.rg [0,1,2,3,4] ?_
   refine U.lv 3 ?_
   refine sM λ m hm=>KM.conv rfl rfl rfl rfl rfl Dn rfl yq (by simp) (by simp) hk (λ _=>.wV) λ b a=>(?_:U (dt F m .wW) _ _ _ _ _) b a
   refine sM λ m hm=>KM.ext rfl rfl rfl rfl Hn rfl rfl (by simp) (by simp) λ w s1 _ h _=>.inr ⟨_,w,_,.w3,s1,m7 (λ _ _=>by simp) rfl,.wW,rfl,bG.refl h,λ b a=>(?_:U (dt F m .w3) _ _ _ _ _) b a⟩
   refine U.aK ?_
   refine U.seq ?_
   refine U.rg [0] ?_
   refine U.lv 1 ?_
   refine U.aK ?_
   refine U.seq ?_
   refine U.seq ?_
   refine U.rg [0,1,2,3,4,5] ?_
   refine U.lv 3 ?_
   refine U.is 60 (v':=.bool false) rfl (rH x rfl) ?_
   refine U.lv 3 ?_
   refine U.aK ?_
   refine U.cw rfl rfl ?_
   refine U.skip ?_
   refine U.seq ?_
   refine U.rg [0,1,2,3,4] ?_
   refine U.lv 4 ?_
   refine sM λ m hm=>KM.ext rfl rfl rfl rfl Ho rfl rfl (by simp) (by simp) λ w s3 _ q _=>?_
   cases E:s3.ws with
   | zero=>exact .inl ⟨rfl,rfl,ym rfl (by have e:=q.rU; rw [E] at e; exact e)⟩
   | succ z =>
    have M:((z+1:Nat):Int) - 1=(z:Int):=by omega
    refine .inr ⟨_,_,_,.w4,_,Ad (n:=((z+1:Nat):Int)) rfl (by have e:=q.rU; rw [E] at e; exact e) (by omega) (q.zg 1),.w3 E,pU (.inr rfl),by rw [M]; exact bG.ws q,λ b a=>(?_:U (dt F m .w4) _ _ _ _ _) b a⟩
    refine U.aK ?_
    refine U.seq ?_
    refine U.rg [0,1,2,3,4,5] ?_
    refine U.lv 3 ?_
    refine U.sU rfl rfl rfl rfl rfl func199 (by decide +kernel) rfl rfl rfl λ ae T=>?_
    refine U.seq ?_
    refine U.rg [0] ?_
    refine U.lv 1 ?_
    refine U.aK ?_
    refine U.seq ?_
    refine U.rg [0,1,2,3,4] ?_
    refine U.lv 3 ?_
    refine sM λ m hm=>KM.ext rfl rfl rfl rfl vT rfl rfl (by simp) (by simp) λ w W _ K f=>.inr ⟨_,_,_,.we,W,sD K.cg,.w4,kz (.inr rfl),bG.refl K,λ b a=>(?_:U (dt F m .we) _ _ _ _ _) b a⟩
    obtain ⟨z1,z2⟩:=f
    refine U.lv 1 ?_
    refine U.is 2 (v':=.int .u64 0) rfl (congrArg _ (by rw [pC,z1,z2]; rfl)) ?_
    refine U.aK ?_
    refine U.n1 func199 rfl rfl T rfl (.put rfl) ?_
    refine U.lv 2 ?_
    refine U.aK ?_
    refine U.is 6 (v':=.bool false) rfl rfl ?_
    refine U.seq ?_
    refine U.c5 rfl rfl ?_
    refine U.seq ?_
    refine U.rg [0] ?_
    refine sM λ m hm=>KM.ext rfl rfl rfl rfl m9 rfl rfl (by simp) (by simp) λ w s1 _ h _=>.inr ⟨_,w,_,.qv,s1,h7 (by simp),.we,rfl,bG.refl h,λ b a=>(?_:U (dt F m .qv) _ _ _ _ _) b a⟩
    refine U.aK ?_
    refine U.rg [0,1,2] ?_
    refine U.lv 1 ?_
    refine sM λ m hm=>KM.conv rfl rfl rfl rfl rfl xQ rfl uG (by simp) (by simp) hk (λ _=>.qv) λ b a=>(?_:U (dt F m .wq) _ _ _ _ _) b a
    refine sM λ m hm=>KM.acq rfl rfl rfl rfl sE rfl rfl rfl λ js C b a=>?_
    have d:=I js C
    show F.mj _ _ _
    rw [J] at d ⊢
    refine (?_:U (nV prog F.B Post) _ _ _ _ _) b a
    refine U.aK ?_
    refine U.seq ?_
    refine U.seq ?_
    refine U.rg [0] ?_
    refine U.lv 1 ?_
    refine U.aK ?_
    refine U.cw rfl rfl ?_
    refine U.skip ?_
    exact U.hq func175 rfl d (.inr ⟨_,rfl⟩)
  ·refine ⟨.bool false,w,_,.w1,s2,qi A (l.zg 0) (λ e=>he (by omega)),.Dz he,kz (.inr rfl),bG.refl l,λ b a=>(?_:U (dt F p .w1) _ _ _ _ _) b a⟩
   refine U.lv 1 ?_
   refine U.aK ?_
   refine U.n1 func207 rfl rfl L rfl (.put rfl) ?_
   refine U.aK ?_
   refine U.cw rfl rfl ?_
   refine U.skip ?_
   refine U.a9 ?_
   refine U.inLoop ?_
   refine U.sub ?_ (V p (Nat.lt_trans Q hm) () trivial)
   exact bz.sub ⟨rfl,trivial⟩
theorem P0(b:F.mj=eo prog F.B Post)(n:Nat):e5 prog ((dt F n .wa).J R H) (yk F R H) 175 [pw F]:=e5.gu func175 rfl rfl rfl λ fr cs a=>by
 refine U.seq ?_
 refine U.c5 rfl rfl ?_
 refine U.rg [0] ?_
 refine sM λ m hm=>KM.ext rfl rfl rfl rfl ql rfl rfl (by simp) (by simp) λ w s _ d _=>.inr ⟨_,w,_,.w1,s,h7 (by simp),.wa,rfl,bG.refl d,λ f e=>(?_:U (dt F m .w1) _ _ _ _ _) f e⟩
 refine U.aK ?_
 refine U.aR ?_
 refine U.enterLoop ?_
 refine U.sub ?_ (PZ b a m)
 exact bz.sub ⟨rfl,trivial⟩
end
end Go.Proofs.YtihapemckcdicaaGreatDoor
namespace Go.Lg
open Go.Conc Go.ConcN
def fZ(a:Nat→Nat→Bool)(js:Nat→Nat):List Value:=(List.range 16).map λ p=>.bool (decide (p / 4 < js (p % 4)) && a (p / 4) (p % 4))
theorem Np(a:Nat→Nat→Bool):fZ a (λ _=>0)=List.replicate 16 (.bool false):=by
 simp [fZ,List.range,List.range.loop,List.replicate]
theorem xl{a:Nat→Nat→Bool}{js:Nat→Nat}{p:Nat}(b:p < 16):(fZ a js)[p]? = some (.bool (decide (p / 4 < js (p % 4)) && a (p / 4) (p % 4))):=by
 simp [fZ,b]
theorem No{a:Nat→Nat→Bool}{js:Nat→Nat}{k j:Nat}(m:k < 4)(_:j < 4)(f:js k=j):fZ a (dx js k (j+1))=(fZ a js).set (4 * j+k) (.bool (a j k)):=by
 have hl:∀ js,(fZ a js).length=16:=λ js=>by simp [fZ]
 apply List.ext_getElem?
 intro p
 rcases Nat.lt_or_ge p 16 with b | b
 ·rw [xl b,List.getElem?_set,xl b]
  by_cases e:4 * j+k=p
  ·subst e
   rw [if_pos rfl,if_pos (by rw [hl]; omega)]
   have e1:(4 * j+k) / 4=j:=by omega
   have d:(4 * j+k) % 4=k:=by omega
   rw [e1,d,iX]
   simp
  ·rw [if_neg e]
   by_cases d:p % 4=k
   ·have g:p / 4≠j:=by omega
    rw [d,iX,f]
    have:decide (p / 4 < j+1)=decide (p / 4 < j):=by
     by_cases h:p / 4 < j
     ·simp [h]; omega
     ·simp [h]; omega
    rw [this]
   ·rw [iW d]
 ·rw [List.getElem?_eq_none (by rw [hl]; exact b),List.getElem?_eq_none (by rw [List.length_set,hl]; exact b)]
end Go.Lg
