/- What sync does, walked for the machine. Conditions: none. -/
import Derived.Test.YtihapemckcdicaaGreatDoorQWLgE
import Derived.Test.YtihapemckcdicaaGreatDoorQWStF
namespace Go.Proofs.YtihapemckcdicaaGreatDoor
open Go.Lg Go.Proofs Go.Conc Tryz
set_option maxRecDepth 100000
theorem ahn:gN prog 190 (Extern.Race.marked .releaseMerge):=⟨⟨Tryz.f190,func190,by kernel_rfl,by kernel_rfl,by kernel_rfl,by kernel_rfl⟩⟩
theorem KP:gN prog 191 (λ _=>do mark .disable; pure Extern.Race.none_):=⟨⟨Tryz.f191,func191,by kernel_rfl,by kernel_rfl,by kernel_rfl,by kernel_rfl⟩⟩
theorem DU:gN prog 192 (λ _=>do mark .enable; pure Extern.Race.none_):=⟨⟨Tryz.f192,func192,by kernel_rfl,by kernel_rfl,by kernel_rfl,by kernel_rfl⟩⟩
theorem aho:gN prog 193 (λ _=>pure (.bool false)):=⟨⟨Tryz.f193,func193,by kernel_rfl,by kernel_rfl,by kernel_rfl,by kernel_rfl⟩⟩
theorem at6:gN prog 198 (Extern.Race.marked .read):=⟨⟨Tryz.f198,func198,by kernel_rfl,by kernel_rfl,by kernel_rfl,by kernel_rfl⟩⟩
theorem at7:gN prog 202 Extern.Sync.semrelease:=⟨⟨Tryz.f202,func202,by kernel_rfl,by kernel_rfl,by kernel_rfl,by kernel_rfl⟩⟩
theorem Qa:gN prog 205 (Extern.Race.marked .acquire):=⟨⟨Tryz.f205,func205,by kernel_rfl,by kernel_rfl,by kernel_rfl,by kernel_rfl⟩⟩
theorem aua:gN prog 208 (Extern.Race.marked .write):=⟨⟨Tryz.f208,func208,by kernel_rfl,by kernel_rfl,by kernel_rfl,by kernel_rfl⟩⟩
theorem aub:gN prog 209 Extern.Sync.semacquire:=⟨⟨Tryz.f209,func209,by kernel_rfl,by kernel_rfl,by kernel_rfl,by kernel_rfl⟩⟩
theorem ahp:gN prog 227 (Extern.Atomic.update (Op.intArith .add) .u64 true):=⟨⟨Tryz.f227,func227,by kernel_rfl,by kernel_rfl,by kernel_rfl,by kernel_rfl⟩⟩
theorem Wv:gN prog 228 (Extern.Atomic.loadT (.int .u64)):=⟨⟨Tryz.f228,func228,by kernel_rfl,by kernel_rfl,by kernel_rfl,by kernel_rfl⟩⟩
theorem auc:gN prog 229 Extern.Atomic.storeT:=⟨⟨Tryz.f229,func229,by kernel_rfl,by kernel_rfl,by kernel_rfl,by kernel_rfl⟩⟩
theorem Qb:gN prog 230 (Extern.Atomic.casT (.int .i32)):=⟨⟨Tryz.f230,func230,by kernel_rfl,by kernel_rfl,by kernel_rfl,by kernel_rfl⟩⟩
theorem ahq:gN prog 232 (Extern.Atomic.update (Op.intArith .add) .i32 true):=⟨⟨Tryz.f232,func232,by kernel_rfl,by kernel_rfl,by kernel_rfl,by kernel_rfl⟩⟩
theorem aud:gN prog 234 (Extern.Atomic.casT (.int .u64)):=⟨⟨Tryz.f234,func234,by kernel_rfl,by kernel_rfl,by kernel_rfl,by kernel_rfl⟩⟩
theorem aue:gN prog 241 Extern.Sync.canSpin:=⟨⟨Tryz.f241,func241,by kernel_rfl,by kernel_rfl,by kernel_rfl,by kernel_rfl⟩⟩
theorem auf:gN prog 242 Extern.Sync.nothing:=⟨⟨Tryz.f242,func242,by kernel_rfl,by kernel_rfl,by kernel_rfl,by kernel_rfl⟩⟩
theorem ahr:gN prog 244 Extern.OsHooks.nano:=⟨⟨Tryz.f244,func244,by kernel_rfl,by kernel_rfl,by kernel_rfl,by kernel_rfl⟩⟩
theorem aug:gN prog 245 Extern.Sync.semacquire:=⟨⟨Tryz.f245,func245,by kernel_rfl,by kernel_rfl,by kernel_rfl,by kernel_rfl⟩⟩
theorem ahs:gN prog 247 Extern.Sync.semrelease:=⟨⟨Tryz.f247,func247,by kernel_rfl,by kernel_rfl,by kernel_rfl,by kernel_rfl⟩⟩
def kiT:Nat→Option IntKind
 | 2 | 3=>some .i64
 | 21=>some .i32
 | 190=>some .u32
 | 197=>some .u64
 | _=>none
instance:vd prog:=⟨kiT,λ t k h=>by
 unfold kiT at h
 split at h
 ·cases h; exact underlying2
 ·cases h; exact underlying3
 ·cases h; exact underlying21
 ·cases h; exact underlying190
 ·cases h; exact underlying197
 ·cases h⟩
theorem ac1:GJ prog 255 223:=⟨192,underlying255,underlying223,by kernel_rfl⟩
theorem ac0:GJ prog 221 223:=⟨201,underlying221,underlying223,by kernel_rfl⟩
theorem alK:GJ prog 228 223:=⟨190,underlying228,underlying223,by kernel_rfl⟩
set_option maxHeartbeats 4000000
noncomputable abbrev FT (F:Fx):Fx:={ F with P:=prog }
section
variable {F:Fx} {R:az} {H:ah} {k j:Nat} {fr:Frame} {cs:List Frame}
abbrev pm(F:Fx):Value:=.pointer (some (am F))
noncomputable abbrev WJ (F:Fx) (n k j:Nat) (T:Lp):=NO prog F.B false (KW (FT F) n k j T)
def Bj(F:Fx)(k j:Nat)(R:az)(H:ah)(g:Goroutine):Prop:=∀ n js,js k=j→Own prog F.B false (KW (FT F) n k j (.ul js)) R ((F.bo,F.cont js)::H) g
theorem sW{c:Ctx}{st:St}{todo:List Item}{n:Nat}{T:Lp}(h:∀ m,m < n→∀ tmps,de c.n st tmps→KW (FT F) (m+1) k j T R H (bc (ba c tmps todo) c.cs)):At (WJ F n k j T) c R H st todo:=At.aQx (F:=FT F) h
def afg:Code→Option Code
 | .seq (.block _ _) r=>some r
 | .seq _ y=>afg y
 | _=>none
def yi:Code→Option Code
 | .loop c=>some c
 | .seq x y=>match yi x with | some c=>some c | none=>yi y
 | .block _ c=>yi c
 | .cond _ x y=>match yi x with | some c=>some c | none=>yi y
 | _=>none
noncomputable def Ap:Code:=(afg (Tryz.f231.body.getD .skip)).getD .skip
noncomputable def ug:Code:=(yi (Tryz.f231.body.getD .skip)).getD .skip
theorem alk(hk:Bj F k j R H (bc (fr.finish (iO [])) cs))(n:Nat):At (WJ F n k j .le) ⟨231,.normal,none,139,[],fr::cs⟩ R H [(0,pm F)] [.code Ap]:=by
 refine At.fX rfl rfl ?_
 refine At.seq ?_
 refine At.rg [0] ?_
 refine sW λ n _=>KW.ext rfl rfl rfl rfl DU rfl rfl λ _ w s _ br _ _=>.inr ⟨_,w,_,.lc,s,r7 (by simp),.le,trivial,rfl,cJ.refl br,λ bg bp=>(?_:At (WJ F n k j .lc) _ _ _ _ _) bg bp⟩
 refine At.aV ?_
 refine At.rg [0,1,2] ?_
 refine At.lv 1 ?_
 refine sW λ n _=>KW.conv rfl rfl rfl rfl rfl ac1 rfl U6 ⟨by simp,by simp⟩ qY (λ _=>.lc) trivial λ bg bp=>(?_:At (WJ F n k j .la) _ _ _ _ _) bg bp
 refine sW λ n _=>KW.ext rfl rfl rfl rfl Qa rfl rfl λ _ w s _ br _ _=>.inr ⟨_,w,_,.ul λ _=>0,s,DN (λ _ _=>by simp) rfl,.la,trivial,rfl,cJ.refl br,λ bg bp js iK=>(?_:At (WJ F n k j (.ul js)) _ _ _ _ _) bg bp⟩
 refine At.aV ?_
 exact At.q8 func231 rfl (hk n js iK) (.inl rfl)
theorem CK{N N':Nat}{m:Wd}(h:m.ok N)(hn:N≤N'):m.ok N':=⟨h.1,h.2.1,h.2.2.1,Nat.le_trans h.2.2.2 hn⟩
def C6(F:Fx)(c:Lc)(gC:Int):St:=[(0,pm F),(2,.int .i64 gC),(3,.bool c.sv),(4,.bool c.aw),(5,.int .i64 c.it),(6,.int .i32 c.old.val)]
def S2(F:Fx)(x:Lc × Int):Prop:=x.1.old.ok F.N∧(x.1.aw=true→x.1.old.w=1)∧x.1.ws=decide (x.2≠0)∧x.1.it≤4
theorem rY{b:Option Int}{z y:Int}{p:Bool}(h:b=some z)(hp:(z == y)=p):Value.bool (b.getD 0 == y) = .bool p:=by rw [h]; exact congrArg _ hp
noncomputable def NJ:Code:=match ug with | .block _ (.seq _ y)=>y | _=>.skip
noncomputable def aP9:Code:=match ug with | .block _ (.seq (.seq _ (.cond _ (.seq _ z) _)) _)=>z | _=>.skip
abbrev C5(fr:Frame)(cs:List Frame):Ctx:=⟨231,.normal,none,139,[],fr::cs⟩
def xc(F:Fx)(k j:Nat)(R:az)(H:ah)(fr:Frame)(cs:List Frame)(m:Nat):Prop:=∀ x,S2 F x→At (WJ F m k j (hd x.1)) (C5 fr cs) R H (C6 F x.1 x.2) [.code ug,.inLoop ug,.inBlock 0,.code Ap]
theorem N5{n:Nat}(ih:∀ m,m < n→xc F k j R H fr cs m){old:Wd}{aw sv:Bool}{it:Nat}{ws:Bool}{gC:Int}(kW:ws=decide (gC≠0)){st:St}(dc:ay st [(0,pm F),(2,.int .i64 gC),(3,.bool sv),(4,.bool aw),(5,.int .i64 it)]) :
  At (WJ F n k j (.r1 ⟨old,aw,sv,it,ws⟩)) (C5 fr cs) R H st [.code aP9,.code NJ,.inBlock 1,.inLoop ug,.inBlock 0,.code Ap]:=by
 refine At.sub dc ?_
 refine At.seq ?_
 refine At.rg [0] ?_
 refine At.ext rfl rfl rfl rfl rfl auf rfl (λ w=>Wj) (.put rfl) ?_
 refine At.aV ?_
 refine At.seq ?_
 refine At.rg [0,1,2] ?_
 refine At.lv 3 ?_
 refine At.aV ?_
 refine At.seq ?_
 refine At.rg [0,1,2,3,4] ?_
 refine At.lv 3 ?_
 refine sW λ m hm=>KW.look rfl rfl rfl rfl rfl IH (by kernel_rfl) rfl ⟨by simp,by simp⟩ (λ _ h=>h) λ ot s hs=>⟨_,.r1,pU (by simp),λ bg bp=>So ((?_:At (WJ F m k j (hd ⟨s.mu,aw,sv,it+1,ws⟩)) _ _ _ _ _) bg bp)⟩
 obtain ⟨t1,t2,t3⟩:=ot
 dsimp only at t2
 refine At.lv 1 ?_
 refine At.aV ?_
 refine At.cu rfl ?_
 refine At.inLoop ?_
 refine At.is 5 (v':=.int .i64 ((it+1:Nat):Int)) rfl (by rw [show ((it+1:Nat):Int)=(it:Int)+1 by omega]; exact congrArg _ (amF (by constructor <;> omega))) ?_
 exact At.sub (st':=C6 F ⟨s.mu,aw,sv,it+1,ws⟩ gC) (cx.sub ⟨rfl,rfl,rfl,rfl,rfl,rfl,trivial⟩) (ih m hm (⟨s.mu,aw,sv,it+1,ws⟩,gC) ⟨hs.1,hs.2,kW,by dsimp only; omega⟩)
theorem aP4{n:Nat}(ih:∀ m,m < n→xc F k j R H fr cs m){old:Wd}{aw sv:Bool}{it:Nat}{ws:Bool}{gC:Int}(hx:S2 F (⟨old,aw,sv,it,ws⟩,gC))
  (alH:∀ m,m≤n→∀ st,ay st (C6 F ⟨old,aw,sv,it,ws⟩ gC)→At (WJ F m k j (.c2 ⟨old,aw,sv,it,ws⟩)) (C5 fr cs) R H st [.code NJ,.inBlock 1,.inLoop ug,.inBlock 0,.code Ap]) :
  At (WJ F n k j (hd ⟨old,aw,sv,it,ws⟩)) (C5 fr cs) R H (C6 F ⟨old,aw,sv,it,ws⟩ gC) [.code ug,.inLoop ug,.inBlock 0,.code Ap]:=by
 obtain ⟨jG,xD,kW,QG⟩:=hx
 dsimp only at jG xD kW QG
 have hN:=F.hN
 have h5:=CK jG (show F.N≤5 by omega)
 obtain ⟨b1,b2,b3,b4,b5,b7,o1,o2,o4,n2,s3⟩:=Wd.uJ h5
 obtain ⟨q1,q2,q3,q4⟩:=h5
 refine At.aZ ?_
 refine At.seq ?_
 refine At.seq ?_
 refine At.rg [0,1,2,3,4,5,6] ?_
 refine At.lv 4 ?_
 by_cases hq:old.l=1∧old.s=0
 ·have V1:hd ⟨old,aw,sv,it,ws⟩ = .sq ⟨old,aw,sv,it,ws⟩:=if_pos hq
  rw [V1]
  refine At.is 17 (v':=.bool true) rfl (rY b5 (by simp [hq])) ?_
  refine At.lv 1 ?_
  refine sW λ m hm=>KW.ext rfl rfl rfl rfl aue rfl rfl λ _ w s _ br _ _=>.inr ?_
  have no:∀ st,ay st (C6 F ⟨old,aw,sv,it,ws⟩ gC)→At (WJ F m k j (.c2 ⟨old,aw,sv,it,ws⟩)) (C5 fr cs) R H st [.code NJ,.inBlock 1,.inLoop ug,.inBlock 0,.code Ap]:=λ st hs=>alH m (Nat.le_of_lt hm) st hs
  by_cases h4:4≤it
  ·refine ⟨.bool false,w,#[],.c2 _,s,asY (by dsimp only; omega),.S3,trivial,qY,cJ.refl br,λ bg bp=>(?_:At (WJ F m k j (.c2 ⟨old,aw,sv,it,ws⟩)) _ _ _ _ _) bg bp⟩
   refine At.lv 1 ?_
   refine At.aV ?_
   refine At.eU rfl rfl ?_
   refine At.skip ?_
   exact no _ (cx.sub ⟨rfl,rfl,rfl,rfl,rfl,rfl,trivial⟩)
  ·cases hsp:w.spins
   ·refine ⟨.bool false,w.asked,#[],.c2 _,s,hsp ▸ agO (by dsimp only; omega),.S3,trivial,qY,cJ.asked br,λ bg bp=>(?_:At (WJ F m k j (.c2 ⟨old,aw,sv,it,ws⟩)) _ _ _ _ _) bg bp⟩
    refine At.lv 1 ?_
    refine At.aV ?_
    refine At.eU rfl rfl ?_
    refine At.skip ?_
    exact no _ (cx.sub ⟨rfl,rfl,rfl,rfl,rfl,rfl,trivial⟩)
   ·refine ⟨.bool true,w.asked,#[],jN ⟨old,aw,sv,it,ws⟩,s,hsp ▸ agO (by dsimp only; omega),.AA (by show it < 4; omega),pU (by simp),qY,cJ.asked br,λ bg bp=>aNS ((?_:At (WJ F m k j (jN ⟨old,aw,sv,it,ws⟩)) _ _ _ _ _) bg bp)⟩
    refine At.lv 1 ?_
    refine At.aV ?_
    refine At.fX rfl rfl ?_
    refine At.seq ?_
    refine At.seq ?_
    refine At.rg [0,1,2,3,4,5,6,7,8,9,10,11,12,13,14,15,16,17,18,19,20] ?_
    have vT:∀ m',m' < m→xc F k j R H fr cs m':=λ m' h'=>ih m' (Nat.lt_trans h' hm)
    have quiet:¬ (aw=false∧old.w=0∧old.n≠0)→jN ⟨old,aw,sv,it,ws⟩ = .r1 ⟨old,aw,sv,it,ws⟩:=λ h=>if_neg h
    cases aw
    case true =>
     rw [quiet (by simp)]
     refine At.lv 21 ?_
     refine At.aV ?_
     refine At.eU rfl rfl ?_
     refine At.skip ?_
     refine N5 vT kW ?_
     exact cx.sub ⟨rfl,rfl,rfl,rfl,rfl,trivial⟩
    case false =>
     refine At.lv 6 ?_
     by_cases hw0:old.w=0
     case neg =>
      rw [quiet (by simp [hw0])]
      refine At.is 26 (v':=.bool false) rfl (rY b2 (by rw [beq_eq_false_iff_ne]; omega)) ?_
      refine At.lv 15 ?_
      refine At.aV ?_
      refine At.eU rfl rfl ?_
      refine At.skip ?_
      refine N5 vT kW ?_
      exact cx.sub ⟨rfl,rfl,rfl,rfl,rfl,trivial⟩
     refine At.is 26 (v':=.bool true) rfl (rY b2 (by simp [hw0])) ?_
     refine At.lv 5 ?_
     have sB:old.val.fdiv (2 ^ (min (3:Int).toNat IntKind.i32.bits))=(old.n:Int):=by simpa [mD] using s3
     by_cases Ee:old.n=0
     case pos =>
      rw [quiet (by simp [Ee])]
      refine At.is 31 (v':=.bool false) rfl (congrArg Value.bool (by show (old.val.fdiv (2 ^ (min (3:Int).toNat IntKind.i32.bits)) != 0)=false; rw [sB,Ee]; rfl)) ?_
      refine At.lv 10 ?_
      refine At.aV ?_
      refine At.eU rfl rfl ?_
      refine At.skip ?_
      refine N5 vT kW ?_
      exact cx.sub ⟨rfl,rfl,rfl,rfl,rfl,trivial⟩
     refine At.is 31 (v':=.bool true) rfl (congrArg Value.bool (by show (old.val.fdiv (2 ^ (min (3:Int).toNat IntKind.i32.bits)) != 0)=true; rw [sB,bne_iff_ne]; omega)) ?_
     rw [show jN ⟨old,false,sv,it,ws⟩ = .c1 ⟨old,false,sv,it,ws⟩ from if_pos ⟨rfl,hw0,Ee⟩]
     refine At.lv 8 ?_
     refine At.is 39 (v':=.int .i32 (Wd.val { old with w:=1 })) rfl (by rw [o2]; rfl) ?_
     refine sW λ p hp=>KW.ext rfl rfl rfl rfl Qb rfl rfl λ _ w s _ br hs _=>.inr ?_
     have hp':∀ m',m' < p→xc F k j R H fr cs m':=λ m' h'=>vT m' (Nat.lt_trans h' hp)
     by_cases dJ:s.mu=old
     ·subst dJ
      refine ⟨.bool true,_,_,.r1 ⟨s.mu,true,sv,it,ws⟩,_,Hb br.cm (br.zm 0),.VC rfl,pU (by simp),qZ (.inl rfl),cJ.mu br,λ bg bp=>(?_:At (WJ F p k j (.r1 ⟨s.mu,true,sv,it,ws⟩)) _ _ _ _ _) bg bp⟩
      refine At.lv 1 ?_
      refine At.aV ?_
      refine At.fX rfl rfl ?_
      refine At.rg [0] ?_
      refine At.lv 1 ?_
      refine At.aV ?_
      refine N5 hp' kW ?_
      exact cx.sub ⟨rfl,rfl,rfl,rfl,rfl,trivial⟩
     ·refine ⟨.bool false,w,_,.r1 ⟨old,false,sv,it,ws⟩,s,KE br.cm (br.zm 0) (λ e=>dJ (Wd.val_inj hs.1 jG e)),.VA dJ,pU (by simp),za (.inl rfl),cJ.refl br,λ bg bp=>(?_:At (WJ F p k j (.r1 ⟨old,false,sv,it,ws⟩)) _ _ _ _ _) bg bp⟩
      refine At.lv 1 ?_
      refine At.aV ?_
      refine At.eU rfl rfl ?_
      refine At.skip ?_
      refine N5 hp' kW ?_
      exact cx.sub ⟨rfl,rfl,rfl,rfl,rfl,trivial⟩
 ·have V1:hd ⟨old,aw,sv,it,ws⟩ = .c2 ⟨old,aw,sv,it,ws⟩:=if_neg hq
  rw [V1]
  refine At.is 17 (v':=.bool false) rfl (rY b5 (by rw [beq_eq_false_iff_ne]; show ¬ ((old.l:Int)+4 * old.s=1); omega)) ?_
  refine At.lv 3 ?_
  refine At.aV ?_
  refine At.eU rfl rfl ?_
  refine At.skip ?_
  exact alH n (dD _) _ (cx.sub ⟨rfl,rfl,rfl,rfl,rfl,rfl,trivial⟩)
def wB(o:Wd):Wd:={ o with l:=if o.s=0 then 1 else o.l }
def yu(o:Wd):Wd:={ wB o with n:=if o.l=1∨o.s=1 then o.n+1 else o.n }
def Fw(o:Wd)(sv:Bool):Wd:={ yu o with s:=if sv=true∧o.l=1 then 1 else o.s }
theorem afh{a b:Int}{p:Prop}[Decidable p](h:a=b↔p):(a == b)=decide p:=by
 by_cases hp:p
 ·rw [fN hp]; exact beq_iff_eq.2 (h.2 hp)
 ·rw [gE hp]; exact beq_eq_false_iff_ne.2 λ e=>hp (h.1 e)
theorem afi{a b:Int}{p:Prop}[Decidable p](h:a≠b↔p):(a != b)=decide p:=by
 by_cases hp:p
 ·rw [fN hp]; exact bne_iff_ne.2 (h.2 hp)
 ·rw [gE hp,bne,beq_iff_eq.2 (Classical.byContradiction λ e=>hp (h.1 e))]; rfl
theorem DF{b:Option Int}{z y:Int}{p:Bool}(h:b=some z)(hp:(z != y)=p):Value.bool (b.getD 0 != y) = .bool p:=by rw [h]; exact congrArg _ hp
theorem RG{b:Option Int}{z y:Int}(h:b=some z)(hp:z=y):Value.int .i32 (b.getD 0) = .int .i32 y:=by rw [h,← hp]; rfl
theorem At.mid{P:Program}{B:Base}{main:Bool}{ab:Jd P B main}{c:Ctx}{R:az}{H:ah}{st:St}{todo K:List Item}(S':St)(h1:(∀ st,ay st S'→At ab c R H st K)→At ab c R H st todo)(h2:At ab c R H S' K):At ab c R H st todo:=h1 λ _ hs=>At.sub hs h2
abbrev NK(F:Fx)(c:Lc)(gC:Int)(m:Wd):St:=(7,.int .i32 m.val)::C6 F c gC
noncomputable def aJI:Code:=match NJ with | .seq _ (.seq _ (.seq _ (.seq _ (.seq _ (.seq _ (.cond _ x _))))))=>x | _=>.skip
noncomputable def ahz:Code:=match aJI with | .seq _ (.seq _ (.seq _ x))=>x | _=>.skip
noncomputable def auS:Code:=match ahz with | .seq _ (.seq _ x)=>x | _=>.skip
theorem aRL{m:Wd}(h:m.ok 5)(hl:m.l=0)(hw:m.w=0)(hs:m.s=1)(hn:m.n≠0)(b:Bool):IntKind.i32.wrap (m.val+(if b then -7 else -11))=Wd.val ⟨1,m.w,if b then m.s else 0,m.n - 1⟩:=by
 obtain ⟨l,w,s,n⟩:=m
 dsimp only at hl hw hs hn
 subst hl hw hs
 have:=h.2.2.2
 dsimp only at this
 cases b
 ·rw [wrap_i32 (by simp only [Wd.val]; split <;> omega) (by simp only [Wd.val]; split <;> omega)]
  simp only [Wd.val]; simp; omega
 ·rw [wrap_i32 (by simp only [Wd.val]; split <;> omega) (by simp only [Wd.val]; split <;> omega)]
  simp only [Wd.val]; simp; omega
theorem alj(hk:Bj F k j R H (bc (fr.finish (iO [])) cs)){n:Nat}(ih:∀ m,m < n→xc F k j R H fr cs m){old:Wd}{aw sv:Bool}{it:Nat}{ws:Bool}{gC:Int}(kW:ws=decide (gC≠0)){st:St}(dc:ay st [(0,pm F),(2,.int .i64 gC),(3,.bool sv)]) :
  At (WJ F n k j (.r2 ⟨old,aw,sv,it,ws⟩)) (C5 fr cs) R H st [.code auS,.inBlock 1,.inLoop ug,.inBlock 0,.code Ap]:=by
 have hN:=F.hN
 refine At.sub dc ?_
 refine At.seq ?_
 refine At.rg [0,1,2,3,4] ?_
 refine At.lv 3 ?_
 refine sW λ m hm=>KW.look rfl rfl rfl rfl rfl IH (by kernel_rfl) rfl ⟨by simp,by simp⟩ (λ _ h=>h) λ _ s hs=>?_
 have h5:=CK hs.1 (show (FT F).N≤5 from Nat.le_trans hN (by omega))
 obtain ⟨b1,b2,b3,b4,b5,b7,o1,o2,o4,n2,s3⟩:=Wd.uJ h5
 have sB:s.mu.val.fdiv (2 ^ (min (3:Int).toNat IntKind.i32.bits))=(s.mu.n:Int):=by simpa [mD] using s3
 rcases hs.2 with ⟨e1,e2,e3,e4⟩ | ⟨e1,e2⟩
 ·refine ⟨_,.N0 e1,pU (by simp),λ bg bp=>(?_:At (WJ F m k j (.a1 (sv && s.mu.n != 1))) _ _ _ _ _) bg bp⟩
  refine At.lv 1 ?_
  refine At.aV ?_
  refine At.seq ?_
  refine At.seq ?_
  refine At.rg [0,1,2] ?_
  refine At.lv 3 ?_
  refine At.aV ?_
  refine At.is 107 (v':=.bool true) rfl (DF b4 (by rw [e1]; rfl)) ?_
  refine At.fX rfl rfl ?_
  refine At.seq ?_
  refine At.seq ?_
  refine At.rg [0,1,2,3,4,5,6,7] ?_
  refine At.lv 3 ?_
  refine At.is 110 (v':=.bool false) rfl (DF b3 (by rw [e2,e3]; rfl)) ?_
  refine At.lv 4 ?_
  refine At.is 114 (v':=.bool false) rfl (congrArg Value.bool (by show (s.mu.val.fdiv (2 ^ (min (3:Int).toNat IntKind.i32.bits)) == 0)=false; rw [sB,beq_eq_false_iff_ne]; omega)) ?_
  refine At.lv 1 ?_
  refine At.aV ?_
  refine At.eU rfl rfl ?_
  refine At.skip ?_
  refine At.seq ?_
  refine At.rg [0] ?_
  refine At.lv 1 ?_
  refine At.aV ?_
  refine At.seq ?_
  refine At.seq ?_
  refine At.rg [0,1,2,3,4,5,6] ?_
  refine At.mid (K:=?K) [(0,pm F),(9,.int .i32 (-7)),(123,.bool (!(sv && s.mu.n != 1)))] ?h1 ?h2
  case h1 =>
   intro h
   cases sv
   ·refine At.lv 7 ?_
    refine At.aV ?_
    refine h _ ?_
    exact cx.sub ⟨rfl,rfl,rfl,trivial⟩
   ·refine At.lv 6 ?_
    refine At.is 122 (v':=.bool (!(true && s.mu.n != 1))) rfl (congrArg Value.bool (by
     show (s.mu.val.fdiv (2 ^ (min (3:Int).toNat IntKind.i32.bits)) == 1)=_
     rw [sB]
     by_cases e:s.mu.n=1
     ·rw [e]; rfl
     ·rw [beq_eq_false_iff_ne.2 (by omega)]; simp [e])) ?_
    refine At.lv 1 ?_
    refine At.aV ?_
    refine h _ ?_
    exact cx.sub ⟨rfl,rfl,rfl,trivial⟩
  generalize (sv && s.mu.n != 1)=b
  refine At.join (st':=[(0,pm F),(9,.int .i32 (if b then -7 else -11))]) rfl (λ hb h=>?_) (λ hb h=>?_) ?_
  ·cases b
   ·refine At.rg [0,1,2] ?_
    refine At.lv 3 ?_
    refine At.aV ?_
    refine At.sub ?_ h
    exact cx.sub ⟨rfl,rfl,trivial⟩
   ·cases hb
  ·cases b
   ·cases hb
   ·refine At.skip ?_
    refine At.sub ?_ h
    exact cx.sub ⟨rfl,rfl,trivial⟩
  refine At.seq ?_
  refine At.rg [0,1,2,3,4] ?_
  refine At.lv 4 ?_
  refine sW λ p hp=>KW.ext rfl rfl rfl rfl ahq rfl rfl λ _ w s _ br hs _=>.inr ?_
  obtain ⟨qp,g1,g2,g3,g4,g5⟩:=hs
  have e:=aRL (CK qp (show (FT F).N≤5 from Nat.le_trans hN (by omega))) g2 g3 g1 g4 b
  refine ⟨_,_,_,.le,_,Bz br.cm (br.zm 0),.a1,trivial,qZ (.inl rfl),by rw [e]; exact cJ.mu br,λ bg bp=>(?_:At (WJ F p k j .le) _ _ _ _ _) bg bp⟩
  refine At.aV ?_
  refine At.cu rfl ?_
  refine At.sub ?_ (alk hk p)
  exact cx.sub ⟨rfl,trivial⟩
 ·refine ⟨_,.An e1,pU (by simp),λ bg bp=>So ((?_:At (WJ F m k j (hd ⟨s.mu,true,sv,0,ws⟩)) _ _ _ _ _) bg bp)⟩
  refine At.lv 1 ?_
  refine At.aV ?_
  refine At.seq ?_
  refine At.seq ?_
  refine At.rg [0,1,2] ?_
  refine At.lv 3 ?_
  refine At.aV ?_
  refine At.is 107 (v':=.bool false) rfl (DF b4 (by rw [e1]; rfl)) ?_
  refine At.eU rfl rfl ?_
  refine At.skip ?_
  refine At.seq ?_
  refine At.rg [0] ?_
  refine At.lv 1 ?_
  refine At.aV ?_
  refine At.rg [0] ?_
  refine At.lv 1 ?_
  refine At.aV ?_
  refine At.bI ?_
  refine At.inLoop ?_
  refine At.sub ?_ (ih m hm (⟨s.mu,true,sv,0,ws⟩,gC) ⟨hs.1,λ _=>e2,kW,Nat.zero_le _⟩)
  exact cx.sub ⟨rfl,rfl,rfl,rfl,rfl,rfl,trivial⟩
theorem ali(hB:∀ w:World,F.B.os w.os→F.B.os w.later.os)(hk:Bj F k j R H (bc (fr.finish (iO [])) cs)){n:Nat}(ih:∀ m,m < n→xc F k j R H fr cs m){old:Wd}{aw sv:Bool}{it:Nat}{ws q:Bool}{gC:Int}(kW:ws=decide (gC≠0)){st:St}(dc:ay st [(0,pm F),(2,.int .i64 gC),(3,.bool sv),(8,.bool q)]) :
  At (WJ F n k j (.s1 ⟨old,aw,sv,it,ws⟩)) (C5 fr cs) R H st [.code ahz,.inBlock 1,.inLoop ug,.inBlock 0,.code Ap]:=by
 refine At.sub dc ?_
 refine At.seq ?_
 refine At.rg [0,1,2,3,4] ?_
 refine At.lv 4 ?_
 refine sW λ m hm=>KW.ext rfl rfl rfl rfl aug rfl rfl λ _ w s _ br _ _=>?_
 have vT:∀ m',m' < m→xc F k j R H fr cs m':=λ m' h'=>ih m' (Nat.lt_trans h' hm)
 cases BR:s.ms with
 | zero=>exact .inl ⟨⟨_,rfl⟩,rfl,aeB rfl (by rw [br.PK,BR]; rfl)⟩
 | succ u =>
  have ea:((u+1:Nat):Int) - 1=(u:Int):=by omega
  refine .inr ⟨_,_,_,if sv then .r2 ⟨old,aw,sv,it,ws⟩ else .t2 ⟨old,aw,sv,it,ws⟩,_,agN (n:=((u+1:Nat):Int)) rfl (by rw [← BR]; exact br.PK) (by omega) (br.zm 1),.s1 BR,pU (by simp),Kh (.inl rfl),by rw [ea]; exact cJ.ms br,λ bg bp=>?_⟩
  cases sv
  ·refine (?_:At (WJ F m k j (.t2 ⟨old,aw,false,it,ws⟩)) _ _ _ _ _) bg bp
   refine At.aV ?_
   refine At.seq ?_
   refine At.rg [0,1,2,3,4,5,6,7] ?_
   refine At.lv 2 ?_
   refine sW λ p hp=>KW.nano hB rfl rfl rfl rfl ahr (by kernel_rfl) rfl rfl ⟨by simp,by simp⟩ qY λ _ z=>?_
   refine ⟨.r2 ⟨old,aw,decide (IntKind.wrap .i64 (z - gC) > 1000000),it,ws⟩,λ s=>.t2 _,pU (by simp),λ bg bp=>(?_:At (WJ F p k j (.r2 ⟨old,aw,decide (IntKind.wrap .i64 (z - gC) > 1000000),it,ws⟩)) _ _ _ _ _) bg bp⟩
   refine At.lv 5 ?_
   refine At.aV ?_
   refine alj hk (λ m' h'=>vT m' (Nat.lt_trans h' hp)) kW ?_
   exact cx.sub ⟨rfl,rfl,rfl,trivial⟩
  ·refine (?_:At (WJ F m k j (.r2 ⟨old,aw,true,it,ws⟩)) _ _ _ _ _) bg bp
   refine At.aV ?_
   refine At.seq ?_
   refine At.rg [0,1,2,3,4,5,6,7] ?_
   refine At.lv 8 ?_
   refine At.aV ?_
   refine alj hk vT kW ?_
   exact cx.sub ⟨rfl,rfl,rfl,trivial⟩
theorem aP1(hB:∀ w:World,F.B.os w.os→F.B.os w.later.os)(hk:Bj F k j R H (bc (fr.finish (iO [])) cs)){n:Nat}(ih:∀ m,m < n→xc F k j R H fr cs m){old:Wd}{aw sv:Bool}{it:Nat}{ws:Bool}{gC:Int}(hx:S2 F (⟨old,aw,sv,it,ws⟩,gC)){st:St}(dc:ay st (C6 F ⟨old,aw,sv,it,ws⟩ gC)) :
  At (WJ F n k j (.c2 ⟨old,aw,sv,it,ws⟩)) (C5 fr cs) R H st [.code NJ,.inBlock 1,.inLoop ug,.inBlock 0,.code Ap]:=by
 obtain ⟨jG,xD,kW,QG⟩:=hx
 dsimp only at jG xD kW QG
 have hN:=F.hN
 have h5:old.ok 5:=CK jG (by omega)
 have h4:old.ok 4:=CK jG (by omega)
 obtain ⟨b1,b2,b3,b4,b5,b7,o1,o2,o4,n2,s3⟩:=Wd.uJ h5
 obtain ⟨q1,q2,q3,q4⟩:=h4
 have k1:(wB old).ok 5:=⟨by simp only [wB]; split <;> omega,q2,q3,by simp only [wB]; omega⟩
 have k2:(yu old).ok 5:=⟨k1.1,q2,q3,by simp only [yu]; split <;> omega⟩
 have k3:(Fw old sv).ok 5:=⟨k1.1,q2,by simp only [Fw]; split <;> omega,k2.2.2.2⟩
 refine At.sub dc ?_
 refine At.seq ?_
 refine At.rg [0,1] ?_
 refine At.lv 2 ?_
 refine At.aV ?_
 refine At.seq ?_
 refine At.seq ?_
 refine At.rg [0,1,2] ?_
 refine At.lv 3 ?_
 refine At.aV ?_
 refine At.is 52 (v':=.bool (decide (old.s=0))) rfl (rY b4 (afh (by omega))) ?_
 refine At.join (st':=NK F ⟨old,aw,sv,it,ws⟩ gC (wB old)) rfl (λ hb h=>?_) (λ hb h=>?_) ?_
 ·refine At.rg [0,1,2] ?_
  refine At.lv 3 ?_
  refine At.aV ?_
  refine At.is 7 (v':=.int .i32 (wB old).val) rfl (RG o1 (by simp [wB,of_decide_eq_true hb])) ?_
  refine At.sub ?_ h
  exact cx.sub ⟨rfl,rfl,rfl,rfl,rfl,rfl,rfl,trivial⟩
 ·refine At.skip ?_
  refine At.is 7 (v':=.int .i32 (wB old).val) rfl (by simp [wB,of_decide_eq_false hb]) ?_
  refine At.sub ?_ h
  exact cx.sub ⟨rfl,rfl,rfl,rfl,rfl,rfl,rfl,trivial⟩
 refine At.seq ?_
 refine At.seq ?_
 refine At.rg [0,1,2] ?_
 refine At.lv 3 ?_
 refine At.aV ?_
 refine At.is 57 (v':=.bool (decide (old.l=1∨old.s=1))) rfl (DF b5 (afi (by omega))) ?_
 refine At.join (st':=NK F ⟨old,aw,sv,it,ws⟩ gC (yu old)) rfl (λ hb h=>?_) (λ hb h=>?_) ?_
 ·refine At.rg [0,1,2] ?_
  refine At.lv 3 ?_
  refine At.aV ?_
  have e:(wB old).val+8=(yu old).val:=by simp only [yu,wB,Wd.val,of_decide_eq_true hb,if_true]; omega
  have f:=Wd.fit k1
  refine At.is 7 (v':=.int .i32 (yu old).val) rfl (by rw [← e]; exact congrArg _ (wrap_i32 (by omega) (by omega))) ?_
  refine At.sub ?_ h
  exact cx.sub ⟨rfl,rfl,rfl,rfl,rfl,rfl,rfl,trivial⟩
 ·refine At.skip ?_
  refine At.is 7 (v':=.int .i32 (yu old).val) rfl (by simp only [yu,of_decide_eq_false hb,if_false]; rfl) ?_
  refine At.sub ?_ h
  exact cx.sub ⟨rfl,rfl,rfl,rfl,rfl,rfl,rfl,trivial⟩
 refine At.seq ?_
 refine At.seq ?_
 refine At.rg [0,1,2,3,4,5] ?_
 refine At.mid (K:=?K) ((65,.bool (decide (sv=true∧old.l=1)))::NK F ⟨old,aw,sv,it,ws⟩ gC (yu old)) ?h1 ?h2
 case h1 =>
  intro h
  cases sv
  ·refine At.lv 6 ?_
   refine At.aV ?_
   refine h _ ?_
   exact cx.sub ⟨rfl,rfl,rfl,rfl,rfl,rfl,rfl,rfl,trivial⟩
  ·refine At.lv 5 ?_
   refine At.is 64 (v':=.bool (decide (true=true∧old.l=1))) rfl (DF b1 (afi (by simp; omega))) ?_
   refine At.lv 1 ?_
   refine At.aV ?_
   refine h _ ?_
   exact cx.sub ⟨rfl,rfl,rfl,rfl,rfl,rfl,rfl,rfl,trivial⟩
 refine At.join (st':=NK F ⟨old,aw,sv,it,ws⟩ gC (Fw old sv)) rfl (λ hb h=>?_) (λ hb h=>?_) ?_
 ·refine At.rg [0,1,2] ?_
  refine At.lv 3 ?_
  refine At.aV ?_
  have o:=(Wd.uJ k2).2.2.2.2.2.2.2.2.1
  refine At.is 7 (v':=.int .i32 (Fw old sv).val) rfl (RG o (by simp only [Fw,of_decide_eq_true hb,and_self,if_true])) ?_
  refine At.sub ?_ h
  exact cx.sub ⟨rfl,rfl,rfl,rfl,rfl,rfl,rfl,trivial⟩
 ·refine At.skip ?_
  refine At.is 7 (v':=.int .i32 (Fw old sv).val) rfl (by simp only [Fw,of_decide_eq_false hb,if_false]; rfl) ?_
  refine At.sub ?_ h
  exact cx.sub ⟨rfl,rfl,rfl,rfl,rfl,rfl,rfl,trivial⟩
 refine At.seq ?_
 refine At.seq ?_
 refine At.rg [0] ?_
 refine At.lv 1 ?_
 refine At.aV ?_
 refine At.join (st':=NK F ⟨old,aw,sv,it,ws⟩ gC (nw ⟨old,aw,sv,it,ws⟩)) rfl (λ hb h=>?_) (λ hb h=>?_) ?_
 ·dsimp only at hb
  subst hb
  obtain ⟨_,a2,_,_,_,_,_,_,_,xh,_⟩:=Wd.uJ k3
  refine At.seq ?_
  refine At.seq ?_
  refine At.rg [0,1,2] ?_
  refine At.lv 3 ?_
  refine At.aV ?_
  have hw1:=xD rfl
  refine At.is 71 (v':=.bool false) rfl (rY a2 (by rw [beq_eq_false_iff_ne]; show ¬ (2 * (old.w:Int)=0); omega)) ?_
  refine At.eU rfl rfl ?_
  refine At.skip ?_
  refine At.rg [0,1,2] ?_
  refine At.lv 3 ?_
  refine At.aV ?_
  refine At.is 7 (v':=.int .i32 (nw ⟨old,true,sv,it,ws⟩).val) rfl (RG xh rfl) ?_
  refine At.sub ?_ h
  exact cx.sub ⟨rfl,rfl,rfl,rfl,rfl,rfl,rfl,trivial⟩
 ·dsimp only at hb
  subst hb
  refine At.skip ?_
  refine At.is 7 (v':=.int .i32 (nw ⟨old,false,sv,it,ws⟩).val) rfl rfl ?_
  refine At.sub ?_ h
  exact cx.sub ⟨rfl,rfl,rfl,rfl,rfl,rfl,rfl,trivial⟩
 refine At.seq ?_
 refine At.rg [0,1,2,3,4,5] ?_
 refine At.lv 5 ?_
 refine sW λ m hm=>KW.ext rfl rfl rfl rfl Qb rfl rfl λ _ w s _ br hs _=>.inr ?_
 have vT:∀ m',m' < m→xc F k j R H fr cs m':=λ m' h'=>ih m' (Nat.lt_trans h' hm)
 by_cases dJ:s.mu=old
 ·subst dJ
  by_cases hf:s.mu.l=0∧s.mu.s=0
  ·
   refine ⟨.bool true,_,_,.le,_,Hb br.cm (br.zm 0),.VH rfl hf.1 hf.2,trivial,qZ (.inl rfl),cJ.mu br,λ bg bp=>(?_:At (WJ F m k j .le) _ _ _ _ _) bg bp⟩
   refine At.aV ?_
   refine At.fX rfl rfl ?_
   refine At.seq ?_
   refine At.seq ?_
   refine At.rg [0,1,2] ?_
   refine At.lv 3 ?_
   refine At.aV ?_
   refine At.is 83 (v':=.bool true) rfl (rY b5 (by rw [hf.1,hf.2]; rfl)) ?_
   refine At.fX rfl rfl ?_
   refine At.cu rfl ?_
   refine At.sub ?_ (alk hk m)
   exact cx.sub ⟨rfl,trivial⟩
  ·
   have hq:s.mu.l=1∨s.mu.s=1:=by omega
   refine ⟨.bool true,_,_,if ws then .s1 ⟨s.mu,aw,sv,it,ws⟩ else .t1 ⟨s.mu,aw,sv,it,ws⟩,_,Hb br.cm (br.zm 0),.zd rfl hq,pU (by simp),qZ (.inl rfl),cJ.mu br,λ bg bp=>?_⟩
   by_cases hw:gC=0
   ·have e0:ws=false:=by rw [kW]; simp [hw]
    subst e0
    refine (?_:At (WJ F m k j (.t1 ⟨s.mu,aw,sv,it,false⟩)) _ _ _ _ _) bg bp
    refine At.aV ?_
    refine At.fX rfl rfl ?_
    refine At.seq ?_
    refine At.seq ?_
    refine At.rg [0,1,2] ?_
    refine At.lv 3 ?_
    refine At.aV ?_
    refine At.is 83 (v':=.bool false) rfl (rY b5 (by rw [beq_eq_false_iff_ne]; omega)) ?_
    refine At.eU rfl rfl ?_
    refine At.skip ?_
    refine At.seq ?_
    refine At.rg [0,1,2] ?_
    refine At.lv 3 ?_
    refine At.aV ?_
    refine At.seq ?_
    refine At.seq ?_
    refine At.rg [0,1] ?_
    refine At.lv 2 ?_
    refine At.aV ?_
    refine At.is 87 (v':=.bool true) rfl (congrArg Value.bool (beq_iff_eq.2 hw)) ?_
    refine At.fX rfl rfl ?_
    refine At.rg [0,1] ?_
    refine sW λ p hp=>KW.nano hB rfl rfl rfl rfl ahr (by kernel_rfl) rfl rfl ⟨by simp,by simp⟩ qY λ _ z=>?_
    refine ⟨.s1 ⟨s.mu,aw,sv,it,decide (z≠0)⟩,λ s=>.t1 _,pU (by simp),λ bg bp=>(?_:At (WJ F p k j (.s1 ⟨s.mu,aw,sv,it,decide (z≠0)⟩)) _ _ _ _ _) bg bp⟩
    refine At.lv 1 ?_
    refine At.aV ?_
    refine ali hB hk (q:=(gC != 0)) (λ m' h'=>vT m' (Nat.lt_trans h' hp)) rfl ?_
    exact cx.sub ⟨rfl,rfl,rfl,rfl,trivial⟩
   ·have e0:ws=true:=by rw [kW]; simp [hw]
    subst e0
    refine (?_:At (WJ F m k j (.s1 ⟨s.mu,aw,sv,it,true⟩)) _ _ _ _ _) bg bp
    refine At.aV ?_
    refine At.fX rfl rfl ?_
    refine At.seq ?_
    refine At.seq ?_
    refine At.rg [0,1,2] ?_
    refine At.lv 3 ?_
    refine At.aV ?_
    refine At.is 83 (v':=.bool false) rfl (rY b5 (by rw [beq_eq_false_iff_ne]; omega)) ?_
    refine At.eU rfl rfl ?_
    refine At.skip ?_
    refine At.seq ?_
    refine At.rg [0,1,2] ?_
    refine At.lv 3 ?_
    refine At.aV ?_
    refine At.seq ?_
    refine At.seq ?_
    refine At.rg [0,1] ?_
    refine At.lv 2 ?_
    refine At.aV ?_
    refine At.is 87 (v':=.bool false) rfl (congrArg Value.bool (beq_eq_false_iff_ne.2 hw)) ?_
    refine At.eU rfl rfl ?_
    refine At.skip ?_
    refine ali hB hk (q:=(gC != 0)) vT kW ?_
    exact cx.sub ⟨rfl,rfl,rfl,rfl,trivial⟩
 ·
  refine ⟨.bool false,w,_,.r3 ⟨old,aw,sv,it,ws⟩,s,KE br.cm (br.zm 0) (λ e=>dJ (Wd.val_inj hs.1 jG e)),.VJ dJ,pU (by simp),za (.inl rfl),cJ.refl br,λ bg bp=>(?_:At (WJ F m k j (.r3 ⟨old,aw,sv,it,ws⟩)) _ _ _ _ _) bg bp⟩
  refine At.aV ?_
  refine At.eU rfl rfl ?_
  refine At.rg [0,1,2,3,4] ?_
  refine At.lv 3 ?_
  refine sW λ p hp=>KW.look rfl rfl rfl rfl rfl IH (by kernel_rfl) rfl ⟨by simp,by simp⟩ (λ _ h=>h) λ ot s hs=>⟨_,.r3,pU (by simp),λ bg bp=>So ((?_:At (WJ F p k j (hd ⟨s.mu,aw,sv,it,ws⟩)) _ _ _ _ _) bg bp)⟩
  refine At.lv 1 ?_
  refine At.aV ?_
  refine At.bI ?_
  refine At.inLoop ?_
  refine At.sub ?_ (vT p hp (⟨s.mu,aw,sv,it,ws⟩,gC) ⟨hs.1,hs.2,kW,QG⟩)
  exact cx.sub ⟨rfl,rfl,rfl,rfl,rfl,rfl,trivial⟩
theorem aP2(hB:∀ w:World,F.B.os w.os→F.B.os w.later.os)(hk:Bj F k j R H (bc (fr.finish (iO [])) cs))(n:Nat):xc F k j R H fr cs n:=λ x hx =>
 At.head (Jn:=λ n (x:Lc × Int)=>WJ F n k j (hd x.1)) (S:=λ x=>C6 F x.1 x.2) (ok:=S2 F) (λ n ih x hx=>by
  obtain ⟨⟨old,aw,sv,it,ws⟩,gC⟩:=x
  exact aP4 ih hx λ m hm st dc=>aP1 hB hk (λ m' h'=>ih m' (Nat.lt_of_lt_of_le h' hm)) hx dc) n x hx
end
section
variable {F:Fx} {R:az} {H:ah} {k j:Nat}
theorem aP3(hB:∀ w:World,F.B.os w.os→F.B.os w.later.os)(n:Nat):lC prog ((WJ F n k j .r0).J R H) (Bj F k j R H) 231 [pm F]:=lC.oZ func231 rfl rfl rfl λ fr cs hk=>by
 refine At.seq ?_
 refine At.rg [0] ?_
 refine At.lv 1 ?_
 refine At.aV ?_
 refine At.seq ?_
 refine At.rg [0] ?_
 refine At.lv 1 ?_
 refine At.aV ?_
 refine At.seq ?_
 refine At.rg [0] ?_
 refine At.lv 1 ?_
 refine At.aV ?_
 refine At.seq ?_
 refine At.rg [0] ?_
 refine At.lv 1 ?_
 refine At.aV ?_
 refine At.seq ?_
 refine At.rg [0,1,2,3,4] ?_
 refine At.lv 3 ?_
 refine sW λ m hm=>KW.look rfl rfl rfl rfl rfl IH (by kernel_rfl) rfl ⟨by simp,by simp⟩ (λ _ h=>h) λ ot s hs=>⟨_,.r0,pU (by simp),λ bg bp=>So ((?_:At (WJ F m k j (hd ⟨s.mu,false,false,0,false⟩)) _ _ _ _ _) bg bp)⟩
 refine At.lv 1 ?_
 refine At.aV ?_
 refine At.seq ?_
 refine At.aZ ?_
 refine At.enterLoop ?_
 refine At.sub ?_ (aP2 hB hk m (⟨s.mu,false,false,0,false⟩,0) ⟨hs.1,by simp,by simp,Nat.zero_le _⟩)
 exact cx.sub ⟨rfl,rfl,rfl,rfl,rfl,rfl,trivial⟩
theorem aJJ(hB:∀ w:World,F.B.os w.os→F.B.os w.later.os)(n:Nat):lC prog ((WJ F n k j .ld).J R H) (Bj F k j R H) 203 [pm F]:=lC.oZ func203 rfl rfl rfl λ fr cs hk=>by
 refine At.seq ?_
 refine At.rg [0] ?_
 refine sW λ m hm=>KW.ext rfl rfl rfl rfl KP rfl rfl λ _ w s _ br _ _=>.inr ⟨_,w,_,.l0,s,r7 (by simp),.ld,trivial,rfl,cJ.refl br,λ bg bp=>(?_:At (WJ F m k j .l0) _ _ _ _ _) bg bp⟩
 refine At.aV ?_
 refine At.seq ?_
 refine At.seq ?_
 refine At.rg [0,1,2,3] ?_
 refine At.lv 3 ?_
 refine sW λ p hp=>KW.ext rfl rfl rfl rfl Qb rfl rfl λ _ w s _ br hs _=>.inr ?_
 by_cases hz:s.mu = .zero
 ·refine ⟨.bool true,_,_,.le,_,Hb (v:=0) (by have e:=br.cm; rw [hz] at e; exact e) (br.zm 0),.aiX hz,trivial,qZ (.inl rfl),cJ.mu (m:=⟨1,0,0,0⟩) br,λ bg bp=>(?_:At (WJ F p k j .le) _ _ _ _ _) bg bp⟩
  refine At.aV ?_
  refine At.fX rfl rfl ?_
  refine At.seq ?_
  refine At.fX rfl rfl ?_
  refine At.seq ?_
  refine At.rg [0] ?_
  refine sW λ n _=>KW.ext rfl rfl rfl rfl DU rfl rfl λ _ w s _ br _ _=>.inr ⟨_,w,_,.lc,s,r7 (by simp),.le,trivial,rfl,cJ.refl br,λ bg bp=>(?_:At (WJ F n k j .lc) _ _ _ _ _) bg bp⟩
  refine At.aV ?_
  refine At.rg [0,1,2] ?_
  refine At.lv 1 ?_
  refine sW λ n _=>KW.conv rfl rfl rfl rfl rfl ac1 rfl U6 ⟨by simp,by simp⟩ qY (λ _=>.lc) trivial λ bg bp=>(?_:At (WJ F n k j .la) _ _ _ _ _) bg bp
  refine sW λ n _=>KW.ext rfl rfl rfl rfl Qa rfl rfl λ _ w s _ br _ _=>.inr ⟨_,w,_,.ul λ _=>0,s,DN (λ _ _=>by simp) rfl,.la,trivial,rfl,cJ.refl br,λ bg bp js iK=>(?_:At (WJ F n k j (.ul js)) _ _ _ _ _) bg bp⟩
  refine At.aV ?_
  exact At.q8 func203 rfl (hk n js iK) (.inr ⟨_,rfl⟩)
 ·refine ⟨.bool false,w,_,.r0,s,KE br.cm (br.zm 0) (λ e=>hz (Wd.val_inj hs.1 (N':=0) ⟨Nat.zero_le _,Nat.zero_le _,Nat.zero_le _,dD _⟩ e)),.aiW hz,trivial,za (.inl rfl),cJ.refl br,λ bg bp=>(?_:At (WJ F p k j .r0) _ _ _ _ _) bg bp⟩
  refine At.aV ?_
  refine At.eU rfl rfl ?_
  refine At.skip ?_
  refine At.rg [0,1] ?_
  refine At.lv 1 ?_
  refine At.yl rfl rfl rfl rfl rfl asq rfl (aP3 hB p) λ bg bp n js iK=>(?_:At (WJ F n k j (.ul js)) _ _ _ _ _) bg bp
  refine At.aV ?_
  exact At.q8 func203 rfl (hk n js iK) (.inl rfl)
theorem aK0(hB:∀ w:World,F.B.os w.os→F.B.os w.later.os)(n:Nat):lC prog ((WJ F n k j .ld).J R H) (Bj F k j R H) 173 [pm F]:=lC.oZ func173 rfl rfl rfl λ fr cs hk=>by
 refine At.rg [0,1,2,3] ?_
 refine At.lv 3 ?_
 refine At.yl rfl rfl rfl rfl rfl ar9 rfl (aJJ hB n) λ bg bp n js iK=>(?_:At (WJ F n k j (.ul js)) _ _ _ _ _) bg bp
 refine At.aV ?_
 exact At.q8 func173 rfl (hk n js iK) (.inl rfl)
def U0(F:Fx)(k j:Nat)(R:az)(H:ah)(g:Goroutine):Prop:=∀ n,Own prog F.B false (KW (FT F) n k j .ue) R H g
def U1(F:Fx)(k j:Nat)(R:az)(H:ah)(g:Goroutine):Prop:=(j < F.J→∀ n,Own prog F.B false (KW (FT F) n k j .ld) R H g)∧(j=F.J→∀ n,Own prog F.B false (KW (FT F) n k j .wv) R H g)
theorem amy{m:Wd}(h:m.ok 5)(hl:m.l=0):IntKind.i32.wrap (m.val+1)=Wd.val { m with l:=1 }:=by
 have:=Wd.fit h
 rw [wrap_i32 (by omega) (by omega)]; simp only [Wd.val,hl]; omega
theorem aRM{m:Wd}(h:m.ok 5)(_:m.w=0)(hn:m.n≠0):IntKind.i32.wrap (m.val - 8)=Wd.val { m with n:=m.n - 1 }∧Wd.ok 5 { m with n:=m.n - 1 }:=by
 have:=Wd.fit h
 obtain ⟨h1,h2,h3,h4⟩:=h
 refine ⟨?_,h1,h2,h3,by simp only; omega⟩
 rw [wrap_i32 (by omega) (by omega)]; simp only [Wd.val]; omega
theorem aRK{m:Wd}(h:m.ok 5)(hl:m.l=1):IntKind.i32.wrap (m.val + -1)=Wd.val { m with l:=0 }:=by
 have:=Wd.fit h
 rw [wrap_i32 (by omega) (by omega)]; simp only [Wd.val,hl]; omega
theorem alL{s:Sh}{w:World}(br:fS (FT F) s w)(h0:s.ms=0):cJ (FT F) { s with ms:=s.ms+1 } w (w.setCell ⟨F.bm,1,none⟩ (.int .u32 (IntKind.u32.wrap ((s.ms:Int)+1)))):=by
 rw [wrap_u32 (by omega) (by omega)]
 exact cJ.ms br
theorem aQS{m:Wd}(h5:m.ok 5)(hl:m.l=0)(qp:m.s=1)(n:Nat):lC prog ((WJ F n k j .us).J R H) (U0 F k j R H) 233 [pm F,.int .i32 m.val]:=lC.oZ func233 rfl rfl rfl λ fr cs hk=>by
 have e1:=amy h5 hl
 have d5:Wd.ok 5 { m with l:=1 }:=⟨dD _,h5.2.1,h5.2.2.1,h5.2.2.2⟩
 refine At.seq ?_
 refine At.seq ?_
 refine At.rg [0,1,2,3] ?_
 refine At.lv 2 ?_
 refine At.is 6 (v':=.int .i32 (Wd.val { m with l:=1 })) rfl (congrArg _ e1) ?_
 refine At.lv 2 ?_
 refine At.aV ?_
 refine At.is 8 (v':=.bool false) rfl (rY (Wd.uJ d5).1 rfl) ?_
 refine At.eU rfl rfl ?_
 refine At.skip ?_
 refine At.seq ?_
 refine At.rg [0,1,2] ?_
 refine At.lv 3 ?_
 refine At.aV ?_
 refine At.is 12 (v':=.bool false) rfl (rY (Wd.uJ h5).2.2.2.1 (by rw [qp]; rfl)) ?_
 refine At.eU rfl rfl ?_
 refine At.rg [0,1,2,3] ?_
 refine At.lv 3 ?_
 refine sW λ m hm=>KW.ext rfl rfl rfl rfl ahs rfl rfl λ _ w s _ br hs _=>.inr ⟨_,_,_,.ue,_,Wk rfl br.PK (br.zm 1),.us,trivial,Kh (.inl rfl),alL br hs.2,λ bg bp=>(?_:At (WJ F m k j .ue) _ _ _ _ _) bg bp⟩
 refine At.aV ?_
 exact At.q8 func233 rfl (hk m) (.inl rfl)
noncomputable def ajd:Code:=(yi (Tryz.f233.body.getD .skip)).getD .skip
theorem aQT{fr:Frame}{cs:List Frame}{todo:List Item}(hk:U0 F k j R H (bc (fr.finish (iO [])) cs))(n:Nat)(m:Wd)(hm:m.ok F.N) :
  At (WJ F n k j (hu m)) ⟨233,.normal,none,43,[],fr::cs⟩ R H [(0,pm F),(4,.int .i32 m.val)] (.code ajd :: .inLoop ajd::todo):=by
 have hN:=F.hN
 refine At.head (Jn:=λ n (m:Wd)=>WJ F n k j (hu m)) (S:=λ m=>[(0,pm F),(4,.int .i32 m.val)]) (ok:=λ m=>m.ok F.N) (λ n ih m hm=>?_) n m hm
 have h5:m.ok 5:=CK hm (by omega)
 have s3:=(Wd.uJ h5).2.2.2.2.2.2.2.2.2.2
 have b7:=(Wd.uJ h5).2.2.2.2.2.1
 have sB:m.val.fdiv (2 ^ (min (3:Int).toNat IntKind.i32.bits))=(m.n:Int):=by simpa [mD] using s3
 refine At.aZ ?_
 refine At.seq ?_
 refine At.seq ?_
 refine At.rg [0,1,2,3,4,5,6,7] ?_
 refine At.lv 4 ?_
 by_cases hn:m.n=0
 ·rw [show hu m = .ue from if_pos (.inl hn)]
  refine At.is 17 (v':=.bool true) rfl (congrArg Value.bool (by show (m.val.fdiv (2 ^ (min (3:Int).toNat IntKind.i32.bits)) == 0)=true; rw [sB,hn]; rfl)) ?_
  refine At.lv 4 ?_
  refine At.aV ?_
  refine At.fX rfl rfl ?_
  exact At.q8 func233 rfl (hk n) (.inr ⟨_,rfl⟩)
 refine At.is 17 (v':=.bool false) rfl (congrArg Value.bool (by show (m.val.fdiv (2 ^ (min (3:Int).toNat IntKind.i32.bits)) == 0)=false; rw [sB,beq_eq_false_iff_ne]; omega)) ?_
 refine At.lv 3 ?_
 obtain ⟨q1,q2,q3,q4⟩:=h5
 by_cases hx:m.l=1∨m.w=1∨m.s=1
 ·rw [show hu m = .ue from if_pos (.inr hx)]
  refine At.is 20 (v':=.bool true) rfl (DF b7 (by rw [bne_iff_ne]; omega)) ?_
  refine At.lv 1 ?_
  refine At.aV ?_
  refine At.fX rfl rfl ?_
  exact At.q8 func233 rfl (hk n) (.inr ⟨_,rfl⟩)
 rw [show hu m = .uc m from if_neg (by simp only [hn,false_or]; exact hx)]
 obtain ⟨e8,k8⟩:=aRM ⟨q1,q2,q3,q4⟩ (by omega) hn
 refine At.is 20 (v':=.bool false) rfl (DF b7 (by rw [bne_eq_false_iff_eq]; omega)) ?_
 refine At.lv 1 ?_
 refine At.aV ?_
 refine At.eU rfl rfl ?_
 refine At.skip ?_
 refine At.seq ?_
 refine At.rg [0,1,2,3] ?_
 refine At.lv 2 ?_
 refine At.is 23 (v':=.int .i32 (Wd.val { m with n:=m.n - 1 })) rfl (congrArg _ e8) ?_
 refine At.lv 2 ?_
 refine At.aV ?_
 refine At.is 1 (v':=.int .i32 (Wd.val { m with w:=1,n:=m.n - 1 })) rfl (RG (Wd.uJ k8).2.2.2.2.2.2.2.1 rfl) ?_
 refine At.seq ?_
 refine At.seq ?_
 refine At.rg [0,1,2,3,4,5] ?_
 refine At.lv 5 ?_
 refine sW λ p hp=>KW.ext rfl rfl rfl rfl Qb rfl rfl λ _ w s _ br hs _=>.inr ?_
 by_cases dJ:s.mu=m
 ·subst dJ
  refine ⟨.bool true,_,_,.us,_,Hb br.cm (br.zm 0),.alJ rfl,trivial,qZ (.inl rfl),cJ.mu br,λ bg bp=>(?_:At (WJ F p k j .us) _ _ _ _ _) bg bp⟩
  refine At.aV ?_
  refine At.fX rfl rfl ?_
  refine At.seq ?_
  refine At.rg [0,1,2,3] ?_
  refine At.lv 3 ?_
  refine sW λ q hq=>KW.ext rfl rfl rfl rfl ahs rfl rfl λ _ w s _ br hs _=>.inr ⟨_,_,_,.ue,_,Wk rfl br.PK (br.zm 1),.us,trivial,Kh (.inl rfl),alL br hs.2,λ bg bp=>(?_:At (WJ F q k j .ue) _ _ _ _ _) bg bp⟩
  refine At.aV ?_
  exact At.q8 func233 rfl (hk q) (.inr ⟨_,rfl⟩)
 ·refine ⟨.bool false,w,_,.ux,s,KE br.cm (br.zm 0) (λ e=>dJ (Wd.val_inj hs.1 hm e)),.acZ dJ,trivial,za (.inl rfl),cJ.refl br,λ bg bp=>(?_:At (WJ F p k j .ux) _ _ _ _ _) bg bp⟩
  refine At.aV ?_
  refine At.eU rfl rfl ?_
  refine At.skip ?_
  refine At.rg [0,1,2,3,4] ?_
  refine At.lv 3 ?_
  refine sW λ q hq=>KW.look rfl rfl rfl rfl rfl IH (by kernel_rfl) rfl ⟨by simp,by simp⟩ (λ _ h=>h) λ ot s hs=>⟨_,.ux,pU (by simp),λ bg bp=>akf ((?_:At (WJ F q k j (hu s.mu)) _ _ _ _ _) bg bp)⟩
  refine At.lv 1 ?_
  refine At.aV ?_
  refine At.bI ?_
  refine At.inLoop ?_
  refine At.sub ?_ (ih q (Nat.lt_trans hq hp) s.mu hs.1)
  exact cx.sub ⟨rfl,rfl,trivial⟩
theorem aQU{m:Wd}(hm:m.ok F.N)(hl:m.l=0)(HG:m.s=0)(n:Nat):lC prog ((WJ F n k j (hu m)).J R H) (U0 F k j R H) 233 [pm F,.int .i32 m.val]:=lC.oZ func233 rfl rfl rfl λ fr cs hk=>by
 have hN:=F.hN
 have h5:m.ok 5:=CK hm (by omega)
 have e1:=amy h5 hl
 have d5:Wd.ok 5 { m with l:=1 }:=⟨dD _,h5.2.1,h5.2.2.1,h5.2.2.2⟩
 refine At.seq ?_
 refine At.seq ?_
 refine At.rg [0,1,2,3] ?_
 refine At.lv 2 ?_
 refine At.is 6 (v':=.int .i32 (Wd.val { m with l:=1 })) rfl (congrArg _ e1) ?_
 refine At.lv 2 ?_
 refine At.aV ?_
 refine At.is 8 (v':=.bool false) rfl (rY (Wd.uJ d5).1 rfl) ?_
 refine At.eU rfl rfl ?_
 refine At.skip ?_
 refine At.seq ?_
 refine At.rg [0,1,2] ?_
 refine At.lv 3 ?_
 refine At.aV ?_
 refine At.is 12 (v':=.bool true) rfl (rY (Wd.uJ h5).2.2.2.1 (by rw [HG]; rfl)) ?_
 refine At.fX rfl rfl ?_
 refine At.seq ?_
 refine At.rg [0,1] ?_
 refine At.lv 2 ?_
 refine At.aV ?_
 refine At.aZ ?_
 refine At.enterLoop ?_
 refine At.sub ?_ (aQT hk n m hm)
 exact cx.sub ⟨rfl,rfl,trivial⟩
end
section
variable {F:Fx} {R:az} {H:ah} {k j:Nat}
noncomputable def arl:Code:=match Tryz.f204.body with | some (.seq _ (.seq _ (.seq _ z)))=>z | _=>.skip
theorem abo{fr:Frame}{cs:List Frame}{st:St}(hj:j≤F.J)(hk:U1 F k j R H (bc (fr.finish (iO [])) cs))(n:Nat):At (WJ F n k j .ue) ⟨204,.normal,none,21,[],fr::cs⟩ R H st [.code arl]:=by
 refine At.rg [0] ?_
 refine sW λ m hm=>KW.ext rfl rfl rfl rfl DU rfl rfl λ _ w s _ br _ _=>.inr ?_
 by_cases h:j < F.J
 ·refine ⟨_,w,_,.ld,s,r7 (by simp),.Tc,h,rfl,cJ.refl br,λ bg bp=>(?_:At (WJ F m k j .ld) _ _ _ _ _) bg bp⟩
  refine At.aV ?_
  exact At.q8 func204 rfl (hk.1 h m) (.inl rfl)
 ·have h':j=F.J:=by omega
  refine ⟨_,w,_,.wv,s,r7 (by simp),.Td,h',rfl,cJ.refl br,λ bg bp=>(?_:At (WJ F m k j .wv) _ _ _ _ _) bg bp⟩
  refine At.aV ?_
  exact At.q8 func204 rfl (hk.2 h' m) (.inl rfl)
theorem aJP{js:Nat→Nat}(hj:j+1≤F.J)(n:Nat):lC prog ((WJ F n k j (.ul js)).J R ((F.bo,F.cont (gJ js k (j+1)))::H)) (U1 F k (j+1) R H) 204 [pm F]:=lC.oZ func204 rfl rfl rfl λ fr cs hk=>by
 have hN:=F.hN
 refine At.seq ?_
 refine At.fX rfl rfl ?_
 refine At.seq ?_
 refine At.rg [0,1,2,3] ?_
 refine At.lv 3 ?_
 refine sW λ m hm=>KW.look rfl rfl rfl rfl rfl IH (by kernel_rfl) rfl ⟨by simp,by simp⟩ (λ _ h=>h) λ ot s hs=>⟨.uv js,.ul,pU (by simp),λ bg bp=>(?_:At (WJ F m k j (.uv js)) _ _ _ _ _) bg bp⟩
 refine At.aV ?_
 refine At.seq ?_
 refine At.rg [0,1,2] ?_
 refine At.lv 1 ?_
 refine sW λ m hm=>KW.conv rfl rfl rfl rfl rfl ac1 rfl U6 ⟨by simp,by simp⟩ qY (λ _=>.uv) trivial λ bg bp=>(?_:At (WJ F m k j (.ur js)) _ _ _ _ _) bg bp
 refine sW λ m hm=>KW.ext rfl rfl rfl rfl ahn rfl rfl λ _ w s _ br _ _=>.inr ⟨_,w,_,.ud,s,DN (λ _ _=>by simp) rfl,.ur,trivial,rfl,cJ.refl br,λ bg bp=>⟨js,H,rfl,rfl,(?_:At (WJ F m k (j+1) .ud) _ _ _ _ _) bg bp⟩⟩
 refine At.aV ?_
 refine At.rg [0] ?_
 refine sW λ m hm=>KW.ext rfl rfl rfl rfl KP rfl rfl λ _ w s _ br _ _=>.inr ⟨_,w,_,.u0,s,r7 (by simp),.ud,trivial,rfl,cJ.refl br,λ bg bp=>(?_:At (WJ F m k (j+1) .u0) _ _ _ _ _) bg bp⟩
 refine At.aV ?_
 refine At.seq ?_
 refine At.rg [0,1,2,3,4] ?_
 refine At.lv 3 ?_
 refine sW λ m hm=>KW.ext rfl rfl rfl rfl ahq rfl rfl λ _ w s _ br hs _=>.inr ?_
 obtain ⟨jG,hl⟩:=hs
 have h5:s.mu.ok 5:=CK jG (show (FT F).N≤5 from Nat.le_trans hN (by omega))
 have e:=aRK h5 hl
 have k5:Wd.ok F.N { s.mu with l:=0 }:=⟨Nat.zero_le _,jG.2.1,jG.2.2.1,jG.2.2.2⟩
 by_cases qp:s.mu.s=1
 ·refine ⟨_,_,_,.us,_,Bz br.cm (br.zm 0),.u0h qp,trivial,qZ (.inl rfl),by rw [e]; exact cJ.mu br,λ bg bp=>(?_:At (WJ F m k (j+1) .us) _ _ _ _ _) bg bp⟩
  refine At.lv 1 ?_
  refine At.aV ?_
  refine At.is 2 (v':=.int .i32 (Wd.val { s.mu with l:=0 })) rfl (congrArg _ e) ?_
  refine At.seq ?_
  refine At.seq ?_
  refine At.rg [0,1] ?_
  refine At.lv 2 ?_
  refine At.aV ?_
  refine At.is 16 (v':=.bool true) rfl (congrArg Value.bool (by rw [bne_iff_ne]; simp only [Wd.val]; omega)) ?_
  refine At.fX rfl rfl ?_
  refine At.rg [0,1,2] ?_
  refine At.lv 2 ?_
  refine At.yl rfl rfl rfl rfl rfl agz rfl (aQS (m:={ s.mu with l:=0 }) ⟨Nat.zero_le _,h5.2.1,h5.2.2.1,h5.2.2.2⟩ rfl qp m) λ bg bp n=>(?_:At (WJ F n k (j+1) .ue) _ _ _ _ _) bg bp
  refine At.aV ?_
  exact abo hj hk n
 have HG:s.mu.s=0:=by have:=jG.2.2.1; omega
 by_cases hz:s.mu.w=0∧s.mu.s=0∧s.mu.n=0
 ·refine ⟨_,_,_,.ue,_,Bz br.cm (br.zm 0),.u0z hz.1 hz.2.1 hz.2.2,trivial,qZ (.inl rfl),by rw [e]; exact cJ.mu br,λ bg bp=>(?_:At (WJ F m k (j+1) .ue) _ _ _ _ _) bg bp⟩
  refine At.lv 1 ?_
  refine At.aV ?_
  refine At.is 2 (v':=.int .i32 (Wd.val { s.mu with l:=0 })) rfl (congrArg _ e) ?_
  refine At.seq ?_
  refine At.seq ?_
  refine At.rg [0,1] ?_
  refine At.lv 2 ?_
  refine At.aV ?_
  refine At.is 16 (v':=.bool false) rfl (congrArg Value.bool (by rw [bne_eq_false_iff_eq]; simp only [Wd.val]; omega)) ?_
  refine At.eU rfl rfl ?_
  refine At.skip ?_
  exact abo hj hk m
 ·refine ⟨_,_,_,hu { s.mu with l:=0 },_,Bz br.cm (br.zm 0),.AB hz HG,pU (by simp),qZ (.inl rfl),by rw [e]; exact cJ.mu br,λ bg bp=>akf ((?_:At (WJ F m k (j+1) (hu { s.mu with l:=0 })) _ _ _ _ _) bg bp)⟩
  refine At.lv 1 ?_
  refine At.aV ?_
  refine At.is 2 (v':=.int .i32 (Wd.val { s.mu with l:=0 })) rfl (congrArg _ e) ?_
  refine At.seq ?_
  refine At.seq ?_
  refine At.rg [0,1] ?_
  refine At.lv 2 ?_
  refine At.aV ?_
  refine At.is 16 (v':=.bool true) rfl (congrArg Value.bool (by rw [bne_iff_ne]; simp only [Wd.val]; omega)) ?_
  refine At.fX rfl rfl ?_
  refine At.rg [0,1,2] ?_
  refine At.lv 2 ?_
  refine At.yl rfl rfl rfl rfl rfl agz rfl (aQU k5 rfl HG m) λ bg bp n=>(?_:At (WJ F n k (j+1) .ue) _ _ _ _ _) bg bp
  refine At.aV ?_
  exact abo hj hk n
theorem aQP{js:Nat→Nat}(hj:j+1≤F.J)(n:Nat):lC prog ((WJ F n k j (.ul js)).J R ((F.bo,F.cont (gJ js k (j+1)))::H)) (U1 F k (j+1) R H) 174 [pm F]:=lC.oZ func174 rfl rfl rfl λ fr cs hk=>by
 refine At.rg [0,1,2,3] ?_
 refine At.lv 3 ?_
 refine At.yl rfl rfl rfl rfl rfl asa rfl (aJP hj n) λ bg bp=>⟨λ h n=>(?_:At (WJ F n k (j+1) .ld) _ _ _ _ _) bg bp,λ h n=>(?_:At (WJ F n k (j+1) .wv) _ _ _ _ _) bg bp⟩
 ·refine At.aV ?_
  exact At.q8 func174 rfl (hk.1 h n) (.inl rfl)
 ·refine At.aV ?_
  exact At.q8 func174 rfl (hk.2 h n) (.inl rfl)
end
open Go.ConcN
section
variable {F:Fx} {R:az} {H:ah} {k j:Nat}
abbrev pw(F:Fx):Value:=.pointer (some (aw F))
noncomputable abbrev TQ (F:Fx) (n k j:Nat) (T:Lp) (R:az) (H:ah):=toJ prog (KW (FT F) n k j T R H)
theorem sQ{c:Ctx}{st:St}{todo:List Item}{n:Nat}{T:Lp}(h:∀ m,m < n→∀ tmps,de c.n st tmps→KW (FT F) (m+1) k j T R H (bc (ba c tmps todo) c.cs)):aH (TQ F n k j T R H) c st todo:=λ tmps ht=>by
 cases n with
 | zero=>exact ⟨0,trivial⟩
 | succ n=>exact ⟨0,h n (Nat.lt_succ_self n) tmps ht⟩
def Gone(g:Goroutine):Prop:=∃ q,QuitsD prog q 0 g
theorem Jp(s:Sh):AR s=4294967296 * (s.v:Int)+s.w:=rfl
theorem are{s:Sh}{w:World}(br:fS (FT F) s w)(h0:s.ws=0):cJ (FT F) { s with ws:=s.ws+1 } w (w.setCell (rW F) (.int .u32 (IntKind.u32.wrap ((s.ws:Int)+1)))):=by
 rw [wrap_u32 (by omega) (by omega)]
 exact cJ.ws br
theorem aeC{n:Nat}{st:St}{fr:Frame}{cs:List Frame}{todo:List Item}{args:Array Value}(hk:Gone (bc (fr.finish (iO [])) cs))(hm:todo=[]∨∃ k,todo = .code .ret::k):aH (Am prog 1) ⟨169,.normal,none,n,[dcall 192 args],fr::cs⟩ st todo:=by
 have key:∀ tmps todo,de n st tmps→(Am prog 1).Q (bc (jL ⟨169,.normal,none,n,[dcall 192 args],fr::cs⟩ tmps todo) (fr::cs)):=λ tmps todo ht =>
  aO7 rfl DU (QJ.back (J:=Am prog 0) func169 ht rfl hk)
 rcases hm with rfl | ⟨k,rfl⟩
 ·exact aH.V2 rfl λ tmps ht=>key tmps _ ht
 ·exact aH.ret rfl λ tmps ht=>key tmps _ ht
noncomputable def IB:Code:=match Tryz.f169.body with | some (.seq _ (.seq _ (.seq _ (.seq _ z))))=>z | _=>.skip
noncomputable def aqY:Code:=match IB with | .seq _ (.seq _ (.seq _ (.seq _ (.seq _ (.seq _ (.seq (.seq _ x) _))))))=>x | _=>.skip
noncomputable def r27:Code:=match IB with | .seq _ (.seq _ (.seq _ (.seq _ (.seq _ (.seq _ (.seq _ y))))))=>y | _=>.skip
theorem Pw{b:Option Int}{z y:Int}{p:Bool}(h:b=some z)(hp:(z != y)=p):Value.bool (b.getD 0 != y) = .bool p:=by rw [h]; exact congrArg _ hp
theorem aeD{J:QJ prog}{c:Ctx}{st:St}{kk:List Item}{v w:Nat}(hc:c.kind = .normal)(hn:c.n=117)(hv:v≤5)(hw:w≤1)(dc:ay st [(0,pw F),(1,.int .i64 (-1)),(4,.bool false),(6,.int .u64 (4294967296 * (v:Int)+w))])
  (h:aH J c [(0,pw F),(4,.bool false),(6,.int .u64 (4294967296 * (v:Int)+w)),(8,.int .u32 w),(94,.bool (decide (0 < v∨w=0)))] (.code aqY :: .code r27::kk)):aH J c st (.code IB::kk):=by
 obtain ⟨f,kind,ro,n,ds,cs⟩:=c
 dsimp only at hc hn
 subst hc hn
 obtain ⟨g1,g2,g3⟩:=adp hv hw
 have gs:(4294967296 * (v:Int)+w).fdiv (2 ^ (min (32:Int).toNat IntKind.u64.bits))=(v:Int):=by simpa [mD] using g3
 refine aH.sub dc ?_
 refine aH.seq ?_
 refine aH.seq ?_
 refine aH.rg [0,1,2,3,4,5,6] ?_
 refine aH.lv 4 ?_
 refine aH.is 47 (v':=.bool false) rfl (Pw g1 rfl) ?_
 refine aH.lv 3 ?_
 refine aH.aV ?_
 refine aH.eU rfl ?_
 refine aH.skip ?_
 refine aH.seq ?_
 refine aH.rg [0,1,2,3] ?_
 refine aH.lv 4 ?_
 refine aH.aV ?_
 refine aH.is 7 (v':=.int .i32 (v:Int)) rfl (congrArg _ (by
  show IntKind.i32.wrap ((4294967296 * (v:Int)+w).fdiv (2 ^ (min (32:Int).toNat IntKind.u64.bits)))=_
  rw [gs,wrap_i32 (by omega) (by omega)])) ?_
 refine aH.seq ?_
 refine aH.rg [0,1,2,3] ?_
 refine aH.lv 4 ?_
 refine aH.aV ?_
 refine aH.is 8 (v':=.int .u32 (w:Int)) rfl (congrArg _ (by rw [g2,nm]; exact wrap_u32 (by omega) (by omega))) ?_
 refine aH.seq ?_
 refine aH.seq ?_
 refine aH.rg [0,1,2,3,4,5,6,7,8,9] ?_
 refine aH.lv 5 ?_
 refine aH.is 62 (v':=.bool false) rfl (congrArg Value.bool (by decide)) ?_
 refine aH.lv 5 ?_
 refine aH.aV ?_
 refine aH.eU rfl ?_
 refine aH.skip ?_
 refine aH.seq ?_
 refine aH.seq ?_
 refine aH.rg [0,1] ?_
 refine aH.lv 2 ?_
 refine aH.aV ?_
 refine aH.is 74 (v':=.bool false) rfl (congrArg Value.bool (by rw [decide_eq_false_iff_not]; omega)) ?_
 refine aH.eU rfl ?_
 refine aH.skip ?_
 refine aH.seq ?_
 refine aH.seq ?_
 refine aH.rg [0,1,2,3,4,5,6,7,8,9,10,11] ?_
 refine aH.lv 3 ?_
 rcases (show w=0∨w=1 by omega) with rfl | rfl
 ·refine aH.is 78 (v':=.bool false) rfl rfl ?_
  refine aH.lv 9 ?_
  refine aH.aV ?_
  refine aH.eU rfl ?_
  refine aH.skip ?_
  refine aH.seq ?_
  refine aH.seq ?_
  refine aH.rg [0,1,2,3,4,5] ?_
  refine aH.lv 3 ?_
  by_cases h0:0 < v
  ·refine aH.is 91 (v':=.bool true) rfl (congrArg Value.bool (by rw [decide_eq_true_iff]; omega)) ?_
   refine aH.lv 3 ?_
   refine aH.aV ?_
   refine aH.is 94 (v':=.bool (decide (0 < v∨0=0))) rfl (congrArg Value.bool (by simp [h0])) ?_
   refine aH.sub ?_ h
   exact cx.sub ⟨rfl,rfl,rfl,rfl,rfl,trivial⟩
  ·refine aH.is 91 (v':=.bool false) rfl (congrArg Value.bool (by rw [decide_eq_false_iff_not]; omega)) ?_
   refine aH.lv 3 ?_
   refine aH.aV ?_
   refine aH.is 94 (v':=.bool (decide (0 < v∨0=0))) rfl (congrArg Value.bool (by simp [h0])) ?_
   refine aH.sub ?_ h
   exact cx.sub ⟨rfl,rfl,rfl,rfl,rfl,trivial⟩
 ·refine aH.is 78 (v':=.bool true) rfl rfl ?_
  refine aH.lv 3 ?_
  refine aH.is 81 (v':=.bool false) rfl (congrArg Value.bool (by decide)) ?_
  refine aH.lv 6 ?_
  refine aH.aV ?_
  refine aH.eU rfl ?_
  refine aH.skip ?_
  refine aH.seq ?_
  refine aH.seq ?_
  refine aH.rg [0,1,2,3,4,5] ?_
  refine aH.lv 3 ?_
  by_cases h0:0 < v
  ·refine aH.is 91 (v':=.bool true) rfl (congrArg Value.bool (by rw [decide_eq_true_iff]; omega)) ?_
   refine aH.lv 3 ?_
   refine aH.aV ?_
   refine aH.is 94 (v':=.bool (decide (0 < v∨1=0))) rfl (congrArg Value.bool (by simp [h0])) ?_
   refine aH.sub ?_ h
   exact cx.sub ⟨rfl,rfl,rfl,rfl,rfl,trivial⟩
  ·refine aH.is 91 (v':=.bool false) rfl (congrArg Value.bool (by rw [decide_eq_false_iff_not]; omega)) ?_
   refine aH.lv 3 ?_
   refine aH.aV ?_
   refine aH.is 94 (v':=.bool (decide (0 < v∨1=0))) rfl (congrArg Value.bool (by simp [h0])) ?_
   refine aH.sub ?_ h
   exact cx.sub ⟨rfl,rfl,rfl,rfl,rfl,trivial⟩
theorem aRF(n:Nat):lC prog ((WJ F n k j .wv).J R H) Gone 169 [pw F,.int .i64 (-1)]:=lC.oZ func169 rfl rfl rfl λ fr cs hk=>by
 have hN:=F.hN
 refine At.seq ?_
 refine At.fX rfl rfl ?_
 refine At.seq ?_
 refine At.seq ?_
 refine At.rg [0,1] ?_
 refine At.lv 2 ?_
 refine At.aV ?_
 refine At.fX rfl (by decide) ?_
 refine At.rg [0,1,2] ?_
 refine At.lv 1 ?_
 refine sW λ m hm=>KW.conv rfl rfl rfl rfl rfl ac0 rfl U7 ⟨by simp,by simp⟩ qY (λ _=>.wv) trivial λ bg bp=>(?_:At (WJ F m k j .wr) _ _ _ _ _) bg bp
 refine sW λ m hm=>KW.ext rfl rfl rfl rfl ahn rfl rfl λ _ w s _ br _ _=>.inr ⟨_,w,_,.wk,s,DN (λ _ _=>by simp) rfl,.wr,trivial,rfl,cJ.refl br,λ bg bp=>(?_:aH (TQ F m k j .wk R H) _ _ _) bg bp⟩
 refine aH.aV ?_
 refine aH.seq ?_
 refine aH.rg [0] ?_
 refine sQ λ m hm=>KW.ext rfl rfl rfl rfl KP rfl rfl λ _ w s _ br _ _=>.inr ⟨_,w,_,.d1,s,r7 (by simp),.wk,trivial,rfl,cJ.refl br,λ bg bp=>(?_:aH (TQ F m k j .d1 R H) _ _ _) bg bp⟩
 refine aH.aV ?_
 refine aH.rg [0] ?_
 refine aH.defer rfl rfl rfl rfl rfl rfl rfl (.Sp rfl) ?_
 refine aH.aV ?_
 refine aH.seq ?_
 refine aH.rg [0] ?_
 refine aH.lv 1 ?_
 refine aH.aV ?_
 refine aH.seq ?_
 refine aH.seq ?_
 refine aH.rg [0] ?_
 refine aH.ext rfl rfl rfl rfl rfl aho rfl (λ w=>Wj) (.put rfl) ?_
 refine aH.aV ?_
 refine aH.eU rfl ?_
 refine aH.skip ?_
 refine aH.seq ?_
 refine aH.rg [0,1,2,3,4,5,6,7] ?_
 refine aH.lv 6 ?_
 refine aH.is 42 (v':=.int .u64 18446744069414584320) rfl (congrArg _ (by decide +kernel)) ?_
 refine aH.enter rfl rfl rfl rfl rfl func197 (by decide +kernel) rfl rfl rfl λ alG zA=>?_
 refine aH.seq ?_
 refine aH.rg [0] ?_
 refine aH.lv 1 ?_
 refine aH.aV ?_
 refine aH.seq ?_
 refine aH.rg [0,1,2,3,4,5] ?_
 refine aH.lv 4 ?_
 refine sQ λ m hm=>KW.ext rfl rfl rfl rfl ahp rfl rfl λ _ w s _ br _ mU=>.inr ?_
 obtain ⟨v1,v2,w1⟩:=mU
 have v2':s.v≤F.N:=v2
 have ev:IntKind.u64.wrap (AR s+18446744069414584320)=4294967296 * ((s.v - 1:Nat):Int)+s.w:=by rw [Jp,aRR (by omega) (by omega)]; omega
 by_cases hq:s.v≠1∨s.w=0
 ·refine ⟨_,_,_,.quit,_,Bz br.cg (br.zg 0),.Kz hq,trivial,qZ (.inr rfl),by rw [ev]; exact cJ.wg br,λ bg bp=>(?_:aH (Am prog 1) _ _ _) bg bp⟩
  refine aH.lv 1 ?_
  refine aH.is 4 (v':=.int .u64 (4294967296 * ((s.v - 1:Nat):Int)+s.w)) rfl (congrArg _ ev) ?_
  refine aH.aV ?_
  refine aH.ret rfl λ tmps ht=>QJ.back (J:=Am prog 1) (vs:=[.int .u64 (4294967296 * ((s.v - 1:Nat):Int)+s.w)]) func197 ht rfl (aH.resume (c':=⟨0,.normal,none,0,[],_⟩) rfl zA rfl (.put rfl) ?_ rfl)
  refine aH.lv 1 ?_
  refine aH.aV ?_
  refine aeD (F:=F) (v:=s.v - 1) (w:=s.w) rfl rfl (by omega) w1 ?_ ?_
  ·exact cx.sub ⟨rfl,rfl,rfl,rfl,trivial⟩
  ·refine aH.is 94 (v':=.bool true) rfl (congrArg Value.bool (by rw [decide_eq_true_iff]; omega)) ?_
   refine aH.fX rfl ?_
   exact aeC hk (.inr ⟨_,rfl⟩)
 ·have h1:s.v=1:=by omega
  have h2:s.w=1:=by omega
  refine ⟨_,_,_,.d2,_,Bz br.cg (br.zg 0),.VX h1 h2,trivial,qZ (.inr rfl),by rw [ev,h1]; exact cJ.wg br,λ bg bp=>(?_:aH (TQ F m k j .d2 R H) _ _ _) bg bp⟩
  refine aH.lv 1 ?_
  refine aH.is 4 (v':=.int .u64 (4294967296 * ((0:Nat):Int)+((1:Nat):Int))) rfl (congrArg _ (by rw [ev,h1,h2])) ?_
  refine aH.aV ?_
  refine aH.ret rfl λ tmps ht=>QJ.back (J:=TQ F m k j .d2 R H) (vs:=[.int .u64 (4294967296 * ((0:Nat):Int)+((1:Nat):Int))]) func197 ht rfl (aH.resume (c':=⟨0,.normal,none,0,[],_⟩) rfl zA rfl (.put rfl) ?_ rfl)
  refine aH.lv 1 ?_
  refine aH.aV ?_
  refine aeD (F:=F) (v:=0) (w:=1) rfl rfl (by omega) (by omega) ?_ ?_
  ·exact cx.sub ⟨rfl,rfl,rfl,rfl,trivial⟩
  refine aH.is 94 (v':=.bool false) rfl rfl ?_
  refine aH.eU rfl ?_
  refine aH.skip ?_
  refine aH.seq ?_
  refine aH.seq ?_
  refine aH.rg [0,1,2,3,4,5] ?_
  refine aH.lv 3 ?_
  refine aH.enter rfl rfl rfl rfl rfl func199 (by decide +kernel) rfl rfl rfl λ aQI Rm=>?_
  refine aH.seq ?_
  refine aH.rg [0] ?_
  refine aH.lv 1 ?_
  refine aH.aV ?_
  refine aH.seq ?_
  refine aH.rg [0,1,2,3,4] ?_
  refine aH.lv 3 ?_
  refine sQ λ m hm=>KW.ext rfl rfl rfl rfl Wv rfl rfl λ _ w s _ br _ mU=>.inr ⟨_,_,_,.d3,_,P5 br.cg,.d2,trivial,za (.inr rfl),cJ.refl br,λ bg bp=>(?_:aH (TQ F m k j .d3 R H) _ _ _) bg bp⟩
  obtain ⟨g1,g2⟩:=mU
  refine aH.lv 1 ?_
  refine aH.is 2 (v':=.int .u64 (4294967296 * ((0:Nat):Int)+((1:Nat):Int))) rfl (congrArg _ (by rw [Jp,g1,g2])) ?_
  refine aH.aV ?_
  refine aH.ret rfl λ tmps ht=>QJ.back (J:=TQ F m k j .d3 R H) (vs:=[.int .u64 (4294967296 * ((0:Nat):Int)+((1:Nat):Int))]) func199 ht rfl (aH.resume (c':=⟨0,.normal,none,0,[],_⟩) rfl Rm rfl (.put rfl) ?_ rfl)
  refine aH.lv 2 ?_
  refine aH.aV ?_
  refine aH.is 100 (v':=.bool false) rfl rfl ?_
  refine aH.eU rfl ?_
  refine aH.skip ?_
  refine aH.seq ?_
  refine aH.rg [0,1,2,3] ?_
  refine aH.lv 3 ?_
  refine aH.enter rfl rfl rfl rfl rfl func200 (by decide +kernel) rfl rfl rfl λ aQJ htC=>?_
  refine aH.rg [0,1,2,3,4] ?_
  refine aH.lv 4 ?_
  refine sQ λ m hm=>KW.ext rfl rfl rfl rfl auc rfl rfl λ _ w s _ br _ mU=>.inr ⟨_,_,_,.d4,_,asZ br.cg (br.zg 0),.d3,trivial,ap2 (.inr rfl),cJ.wg (v:=0) (u:=0) br,λ bg bp=>(?_:aH (TQ F m k j .d4 R H) _ _ _) bg bp⟩
  refine aH.aV ?_
  refine aH.V2 rfl λ tmps ht=>QJ.back (J:=TQ F m k j .d4 R H) (vs:=[]) func200 ht rfl (aH.resume (c':=⟨0,.normal,none,0,[],_⟩) rfl htC rfl (.put rfl) ?_ rfl)
  refine aH.aV ?_
  refine aH.seq ?_
  refine aH.seq ?_
  refine aH.rg [0] ?_
  refine aH.lv 1 ?_
  refine aH.aV ?_
  refine aH.eU rfl ?_
  refine aH.skip ?_
  refine aH.block ?_
  refine aH.enterLoop ?_
  refine aH.seq ?_
  refine aH.seq ?_
  refine aH.rg [0,1] ?_
  refine aH.lv 2 ?_
  refine aH.aV ?_
  refine aH.is 110 (v':=.bool true) rfl rfl ?_
  refine aH.fX rfl ?_
  refine aH.skip ?_
  refine aH.seq ?_
  refine aH.block ?_
  refine aH.rg [0,1,2,3] ?_
  refine aH.lv 3 ?_
  refine sQ λ m hm=>KW.ext rfl rfl rfl rfl at7 rfl rfl λ _ w s _ br _ mU=>.inr ⟨_,_,_,.quit,_,Wk rfl br.PI (br.zg 1),.d4,trivial,Kh (.inr rfl),are br mU,λ bg bp=>(?_:aH (Am prog 1) _ _ _) bg bp⟩
  refine aH.aV ?_
  refine aH.inBlock ?_
  refine aH.rg [0,1,2] ?_
  refine aH.lv 3 ?_
  refine aH.aV ?_
  refine aH.is 8 (v':=.int .u32 0) rfl rfl ?_
  refine aH.inLoop ?_
  refine aH.seq ?_
  refine aH.seq ?_
  refine aH.rg [0,1] ?_
  refine aH.lv 2 ?_
  refine aH.aV ?_
  refine aH.is 110 (v':=.bool false) rfl rfl ?_
  refine aH.eU rfl ?_
  refine aH.exit rfl ?_
  exact aeC hk (.inl rfl)
theorem ara{fr:Frame}{cs:List Frame}(BM:fr.mode = .returning∨fr.mode = .panicking [goexitEntry])(hk:Gone (bc fr cs))(n:Nat):(WJ F n k j .wv).J R H (bc (Frame.enter prog 171 #[pw F] .deferred) (fr::cs)):=by
 refine Jd.enter (args:=[pw F]) func171 rfl rfl rfl ?_
 refine At.rg [0,1] ?_
 refine At.lv 1 ?_
 refine At.yl rfl rfl rfl rfl rfl agu rfl (aRF n) λ bg bp=>(?_:aH (Am prog 0) _ _ _) bg bp
 refine aH.aV ?_
 exact aH.V2 rfl λ tmps ht=>QJ.afe (J:=Am prog 0) func171 ht rfl BM hk
end
section
variable {P:Program} {B:Base} {main:Bool} {ab:Jd P B main} {c:Ctx} {R:az} {H:ah} {st st':St} {k:List Item} {ops:Array Oper} {i:Nat} {rest:List Nat} {o:Oper} {v:Value}
theorem At.RH{f:FuncId}{fn:Func}{body:Code}{xs:Array Operand}{iU:Array TypeId}{vs:List Value}{n:Nat}(ho:ops[i]? = some o)(hw:cX ops st o=some true)(hk:(c.kind == CallKind.early)=false)(au:o.op = .call ⟨.value (.func f),xs,iU⟩)(ha:jw st xs.toList=some vs)
  (hf:P.funcs[f]? = some fn) (LV:(fn.name == "runtime.NumGoroutine")=false) (hb:fn.body=some body) (qn:fn.ntmps=n) (hn:Nat.ble vs.length n=true)
  (h:∀ tmps,de c.n st tmps→At ab ⟨f,.normal,none,n,[],ba c tmps (.inRegion ops (i::rest)::k)::c.cs⟩ R H (vg 0 vs) [.code body]):At ab c R H st (.inRegion ops (i::rest)::k):=λ tmps ht=>by
 have hv:ai P (execOp (ba c tmps (.inRegion ops (i::rest)::k)).eval o) (.enter f vs.toArray):=by
  rw [He au ht ha]
  exact FW hf LV (by rw [hb]; rfl)
 refine Jd.ctl rfl (λ w=>?_) (Jd.enter hf hb qn hn (h tmps ht))
 rw [qN ho (ln ht hw) (by rw [au]; rfl),Kf rfl (by simpa [ba] using hk) (hv w).1,(hv w).2]
 rfl
theorem At.FD{tmps:Array Value}{f:FuncId}{fn:Func}{n:Nat}{vs:List Value}{stf:St}{kf:List Item}(hf:P.funcs[f]? = some fn)(hr:Ao stf fn.results.toList=some vs)(ho:ops[i]? = some o)(ht:de c.n st tmps)(hd:cB o.dst c.n)(hs:ay (cE o.dst (iO vs) st) st')(h:At ab c R H st' (.inRegion ops rest::k)) :
  At ab ⟨f,.normal,none,n,[],ba c tmps (.inRegion ops (i::rest)::k)::c.cs⟩ R H stf (.code .ret::kf) :=
 At.acY rfl λ bg bp=>Jd.back hf bp hr (by rw [rf ho]; exact h _ ((ht.put _ hd).sub hs))
end
section
variable {F:Fx} {R:az} {H:ah}
noncomputable abbrev gF (F:Fx) (n:Nat) (T:Mp):=NO prog F.B true (KM (FT F) n T)
theorem sM{c:Ctx}{st:St}{todo:List Item}{n:Nat}{T:Mp}(h:∀ m,m < n→∀ tmps,de c.n st tmps→KM (FT F) (m+1) T R H (bc (ba c tmps todo) c.cs)):At (gF F n T) c R H st todo:=At.aQw (F:=FT F) h
def AdK(F:Fx)(r:Nat)(R:az)(H:ah)(g:Goroutine):Prop:=∀ n,Own prog F.B true (KM (FT F) n (.go r)) R H g
noncomputable def t22:Code:=match IB with | .seq _ (.seq _ (.seq _ (.seq _ y)))=>y | _=>.skip
noncomputable def aqX:Code:=match IB with | .seq _ (.seq _ (.seq _ (.seq (.seq _ x) _)))=>x | _=>.skip
theorem aj5{r:Nat}{fr:Frame}{cs:List Frame}{args:Array Value}{st:St}{v:Nat}(hk:AdK F r R H (bc (fr.finish (iO [])) cs))(h1:1≤v)(h5:v≤5)(dc:ay st [(0,pw F),(1,.int .i64 1),(7,.int .i32 (v:Int)),(8,.int .u32 0)])(n:Nat) :
  At (gF F n (.ke r)) ⟨169,.normal,none,117,[dcall 192 args],fr::cs⟩ R H st [.code t22]:=by
 refine At.sub dc ?_
 refine At.seq ?_
 refine At.seq ?_
 refine At.rg [0,1] ?_
 refine At.lv 2 ?_
 refine At.aV ?_
 refine At.is 74 (v':=.bool false) rfl (congrArg Value.bool (by rw [decide_eq_false_iff_not]; omega)) ?_
 refine At.eU rfl rfl ?_
 refine At.skip ?_
 refine At.seq ?_
 refine At.seq ?_
 refine At.rg [0,1,2,3,4,5,6,7,8,9,10,11] ?_
 refine At.lv 3 ?_
 refine At.is 78 (v':=.bool false) rfl rfl ?_
 refine At.lv 9 ?_
 refine At.aV ?_
 refine At.eU rfl rfl ?_
 refine At.skip ?_
 refine At.seq ?_
 refine At.seq ?_
 refine At.rg [0,1,2,3,4,5] ?_
 refine At.lv 3 ?_
 refine At.is 91 (v':=.bool true) rfl (congrArg Value.bool (by rw [decide_eq_true_iff]; omega)) ?_
 refine At.lv 3 ?_
 refine At.aV ?_
 refine At.fX rfl rfl ?_
 refine At.acY rfl λ tmps ht=>?_
 cases n with
 | zero=>exact Own.stop _ _ _ _ trivial
 | succ n=>exact Own.stop _ _ _ _ (KM.unwind (F:=FT F) rfl DU (Jd.back (ab:=gF F n (.go r)) func169 ht rfl (hk n)))
theorem aND(r n:Nat):lC prog ((gF F n (.ka r)).J R H) (AdK F r R H) 169 [pw F,.int .i64 1]:=lC.oZ func169 rfl rfl rfl λ fr cs hk=>by
 have hN:=F.hN
 refine At.seq ?_
 refine At.fX rfl rfl ?_
 refine At.seq ?_
 refine At.seq ?_
 refine At.rg [0,1] ?_
 refine At.lv 2 ?_
 refine At.aV ?_
 refine At.eU rfl (by decide) ?_
 refine At.skip ?_
 refine At.seq ?_
 refine At.rg [0] ?_
 refine sM λ m hm=>KM.ext rfl rfl rfl rfl KP rfl rfl (by simp) (by simp) λ w s _ br _=>.inr ⟨_,w,_,.kc r,s,r7 (by simp),.ka,rfl,cJ.refl br,λ bg bp=>(?_:At (gF F m (.kc r)) _ _ _ _ _) bg bp⟩
 refine At.aV ?_
 refine At.rg [0] ?_
 refine At.defer rfl rfl rfl rfl rfl rfl rfl (.Sp rfl) ?_
 refine At.aV ?_
 refine At.seq ?_
 refine At.rg [0] ?_
 refine At.lv 1 ?_
 refine At.aV ?_
 refine At.seq ?_
 refine At.seq ?_
 refine At.rg [0] ?_
 refine At.ext rfl rfl rfl rfl rfl aho rfl (λ w=>Wj) (.put rfl) ?_
 refine At.aV ?_
 refine At.eU rfl rfl ?_
 refine At.skip ?_
 refine At.seq ?_
 refine At.rg [0,1,2,3,4,5,6,7] ?_
 refine At.lv 6 ?_
 refine At.is 42 (v':=.int .u64 4294967296) rfl (congrArg _ (by decide +kernel)) ?_
 refine At.RH rfl rfl rfl rfl rfl func197 (by decide +kernel) rfl rfl rfl λ alG zA=>?_
 refine At.seq ?_
 refine At.rg [0] ?_
 refine At.lv 1 ?_
 refine At.aV ?_
 refine At.seq ?_
 refine At.rg [0,1,2,3,4,5] ?_
 refine At.lv 4 ?_
 refine sM λ m hm=>KM.ext rfl rfl rfl rfl ahp rfl rfl (by simp) (by simp) λ w s _ br mU=>.inr ?_
 obtain ⟨w0,v1⟩:=mU
 have v1':s.v+1≤F.N:=v1
 have ev:IntKind.u64.wrap (AR s+4294967296)=4294967296 * ((s.v+1:Nat):Int)+((0:Nat):Int):=by rw [Jp,amH (by omega) (by omega)]; omega
 obtain ⟨g1,g2,g3⟩:=adp (v:=s.v+1) (w:=0) (by omega) (by omega)
 have gs:(4294967296 * ((s.v+1:Nat):Int)+((0:Nat):Int)).fdiv (2 ^ (min (32:Int).toNat IntKind.u64.bits))=((s.v+1:Nat):Int):=by simpa [mD] using g3
 have amB:cJ (FT F) { s with v:=s.v+1 } w (w.setCell (aw F) (.int .u64 (IntKind.u64.wrap (AR s+4294967296)))):=by
  rw [ev]; have:=cJ.wg (F:=FT F) (v:=s.v+1) (u:=0) br
  rw [show ({ s with v:=s.v+1 }:Sh)={ s with v:=s.v+1,w:=0 } by rw [← w0]]; exact this
 have go:∀ (T:Mp) (hT:At (gF F m T) ⟨169,.normal,none,117,[dcall 192 #[]],fr::cs⟩ R H [(0,pw F),(1,.int .i64 1),(7,.int .i32 ((s.v+1:Nat):Int)),(8,.int .u32 0),(67,.bool (decide (s.v+1=1)))] [.code aqX,.code t22]) (st:St),
   ay st [(0,pw F),(1,.int .i64 1),(4,.bool false),(6,.int .u64 (4294967296 * ((s.v+1:Nat):Int)+((0:Nat):Int)))]→At (gF F m T) ⟨169,.normal,none,117,[dcall 192 #[]],fr::cs⟩ R H st [.code IB]:=by
  intro T hT st dc
  refine At.sub dc ?_
  refine At.seq ?_
  refine At.seq ?_
  refine At.rg [0,1,2,3,4,5,6] ?_
  refine At.lv 4 ?_
  refine At.is 47 (v':=.bool false) rfl (Pw g1 rfl) ?_
  refine At.lv 3 ?_
  refine At.aV ?_
  refine At.eU rfl rfl ?_
  refine At.skip ?_
  refine At.seq ?_
  refine At.rg [0,1,2,3] ?_
  refine At.lv 4 ?_
  refine At.aV ?_
  refine At.is 7 (v':=.int .i32 ((s.v+1:Nat):Int)) rfl (congrArg _ (by
   show IntKind.i32.wrap ((4294967296 * ((s.v+1:Nat):Int)+((0:Nat):Int)).fdiv (2 ^ (min (32:Int).toNat IntKind.u64.bits)))=_
   rw [gs,wrap_i32 (by omega) (by omega)])) ?_
  refine At.seq ?_
  refine At.rg [0,1,2,3] ?_
  refine At.lv 4 ?_
  refine At.aV ?_
  refine At.is 8 (v':=.int .u32 0) rfl (congrArg _ (by rw [g2,nm]; exact wrap_u32 (by omega) (by omega))) ?_
  refine At.seq ?_
  refine At.seq ?_
  refine At.rg [0,1,2,3,4,5,6,7,8,9] ?_
  refine At.lv 5 ?_
  refine At.is 62 (v':=.bool true) rfl (congrArg Value.bool (by decide)) ?_
  refine At.lv 4 ?_
  refine At.is 66 (v':=.bool (decide (s.v+1=1))) rfl (congrArg Value.bool (afh (by rw [wrap_i32 (by omega) (by omega)]; omega))) ?_
  refine At.lv 1 ?_
  refine At.aV ?_
  refine At.sub ?_ hT
  exact cx.sub ⟨rfl,rfl,rfl,rfl,rfl,trivial⟩
 by_cases hv:s.v=0
 ·refine ⟨_,_,_,.kv r,{ s with v:=1 },Bz br.cg (br.zg 0),.kc1 hv,qZ (.inr rfl),by have:=amB; simp only [hv] at this; exact this,λ bg bp=>(?_:At (gF F m (.kv r)) _ _ _ _ _) bg bp⟩
  refine At.lv 1 ?_
  refine At.is 4 (v':=.int .u64 (4294967296 * ((s.v+1:Nat):Int)+((0:Nat):Int))) rfl (congrArg _ ev) ?_
  refine At.aV ?_
  refine At.FD func197 rfl rfl zA rfl (.put rfl) ?_
  refine At.lv 1 ?_
  refine At.aV ?_
  refine go _ ?_ _ ?_
  ·refine At.fX rfl (by rw [decide_eq_true_iff]; omega) ?_
   refine At.rg [0,1,2,3,4] ?_
   refine At.lv 3 ?_
   refine sM λ m hm=>KM.conv rfl rfl rfl rfl rfl alK rfl ae0 (by simp) (by simp) qY (λ _=>.kv) λ bg bp=>(?_:At (gF F m (.kd r)) _ _ _ _ _) bg bp
   refine sM λ m hm=>KM.ext rfl rfl rfl rfl at6 rfl rfl (by simp) (by simp) λ w s1 _ Ep _=>.inr ⟨_,w,_,.ke r,s1,DN (λ _ _=>by simp) rfl,.kd,rfl,cJ.refl Ep,λ bg bp=>(?_:At (gF F m (.ke r)) _ _ _ _ _) bg bp⟩
   refine At.aV ?_
   refine aj5 hk (v:=s.v+1) (by omega) (by omega) ?_ m
   exact cx.sub ⟨rfl,rfl,rfl,rfl,trivial⟩
  ·exact cx.sub ⟨rfl,rfl,rfl,rfl,trivial⟩
 ·refine ⟨_,_,_,.ke r,_,Bz br.cg (br.zg 0),.kcn hv,qZ (.inr rfl),amB,λ bg bp=>(?_:At (gF F m (.ke r)) _ _ _ _ _) bg bp⟩
  refine At.lv 1 ?_
  refine At.is 4 (v':=.int .u64 (4294967296 * ((s.v+1:Nat):Int)+((0:Nat):Int))) rfl (congrArg _ ev) ?_
  refine At.aV ?_
  refine At.FD func197 rfl rfl zA rfl (.put rfl) ?_
  refine At.lv 1 ?_
  refine At.aV ?_
  refine go _ ?_ _ ?_
  ·refine At.eU rfl (by rw [decide_eq_false_iff_not]; omega) ?_
   refine At.skip ?_
   refine aj5 hk (v:=s.v+1) (by omega) (by omega) ?_ m
   exact cx.sub ⟨rfl,rfl,rfl,rfl,trivial⟩
  ·exact cx.sub ⟨rfl,rfl,rfl,rfl,trivial⟩
end
section
variable {F:Fx} {R:az} {H:ah} {Post:Value→World→Prop}
def WtK(F:Fx)(R:az)(H:ah)(g:Goroutine):Prop:=∀ js,(∀ k,k < F.N→js k=F.J)→F.mj R ((F.bo,F.cont js)::H) g
noncomputable def ajc:Code:=(yi (Tryz.f175.body.getD .skip)).getD .skip
abbrev aRG(fr:Frame)(cs:List Frame):Ctx:=⟨175,.normal,none,84,[],fr::cs⟩
theorem aRH(tW:F.mj=jr prog F.B Post){fr:Frame}{cs:List Frame}{todo:List Item}(hk:WtK F R H (bc (fr.finish (iO [])) cs))(n:Nat):At (gF F n .w1) (aRG fr cs) R H [(0,pw F)] (.code ajc :: .inLoop ajc::todo):=by
 have hN:=F.hN
 refine At.head (X:=Unit) (Jn:=λ n _=>gF F n .w1) (S:=λ _=>[(0,pw F)]) (ok:=λ _=>True) (λ n ih _ _=>?_) n () trivial
 refine At.aZ ?_
 refine At.seq ?_
 refine At.rg [0,1,2,3,4] ?_
 refine At.lv 3 ?_
 refine At.RH rfl rfl rfl rfl rfl func199 (by decide +kernel) rfl rfl rfl λ alG zA=>?_
 refine At.seq ?_
 refine At.rg [0] ?_
 refine At.lv 1 ?_
 refine At.aV ?_
 refine At.seq ?_
 refine At.rg [0,1,2,3,4] ?_
 refine At.lv 3 ?_
 refine sM λ m hm=>KM.ext rfl rfl rfl rfl Wv rfl rfl (by simp) (by simp) λ w s _ br mU=>.inr ?_
 obtain ⟨w0,v1⟩:=mU
 have v1':s.v≤F.N:=v1
 have ev:AR s=4294967296 * (s.v:Int)+((0:Nat):Int):=by rw [Jp,w0]
 obtain ⟨g1,g2,g3⟩:=adp (v:=s.v) (w:=0) (by omega) (by omega)
 have gs:(4294967296 * (s.v:Int)+((0:Nat):Int)).fdiv (2 ^ (min (32:Int).toNat IntKind.u64.bits))=(s.v:Int):=by simpa [mD] using g3
 by_cases hv:s.v=0
 ·refine ⟨_,_,_,.we,s,P5 br.cg,.w1z hv,za (.inr rfl),cJ.refl br,λ bg bp=>(?_:At (gF F m .we) _ _ _ _ _) bg bp⟩
  refine At.lv 1 ?_
  refine At.is 2 (v':=.int .u64 (4294967296 * (s.v:Int)+((0:Nat):Int))) rfl (congrArg _ ev) ?_
  refine At.aV ?_
  refine At.FD func199 rfl rfl zA rfl (.put rfl) ?_
  refine At.lv 1 ?_
  refine At.aV ?_
  refine At.seq ?_
  refine At.rg [0,1,2,3] ?_
  refine At.lv 4 ?_
  refine At.aV ?_
  refine At.is 3 (v':=.int .i32 (s.v:Int)) rfl (congrArg _ (by
   show IntKind.i32.wrap ((4294967296 * (s.v:Int)+((0:Nat):Int)).fdiv (2 ^ (min (32:Int).toNat IntKind.u64.bits)))=_
   rw [gs,wrap_i32 (by omega) (by omega)])) ?_
  refine At.seq ?_
  refine At.rg [0,1,2,3] ?_
  refine At.lv 4 ?_
  refine At.aV ?_
  refine At.is 4 (v':=.int .u32 0) rfl (congrArg _ (by rw [g2,nm]; exact wrap_u32 (by omega) (by omega))) ?_
  refine At.seq ?_
  refine At.seq ?_
  refine At.rg [0,1] ?_
  refine At.lv 2 ?_
  refine At.aV ?_
  refine At.is 19 (v':=.bool true) rfl (congrArg Value.bool (by rw [hv]; rfl)) ?_
  refine At.fX rfl rfl ?_
  refine At.seq ?_
  refine At.fX rfl rfl ?_
  refine At.seq ?_
  refine At.rg [0] ?_
  refine sM λ m hm=>KM.ext rfl rfl rfl rfl DU rfl rfl (by simp) (by simp) λ w s1 _ Ep _=>.inr ⟨_,w,_,.qv,s1,r7 (by simp),.we,rfl,cJ.refl Ep,λ bg bp=>(?_:At (gF F m .qv) _ _ _ _ _) bg bp⟩
  refine At.aV ?_
  refine At.rg [0,1,2] ?_
  refine At.lv 1 ?_
  refine sM λ m hm=>KM.conv rfl rfl rfl rfl rfl ac0 rfl U7 (by simp) (by simp) qY (λ _=>.qv) λ bg bp=>(?_:At (gF F m .wq) _ _ _ _ _) bg bp
  refine sM λ m hm=>KM.acq rfl rfl rfl rfl Qa rfl rfl rfl λ js iK bg bp=>?_
  have dP:=hk js iK
  show F.mj _ _ _
  rw [tW] at dP ⊢
  refine (?_:At (Fu prog F.B Post) _ _ _ _ _) bg bp
  refine At.aV ?_
  refine At.seq ?_
  refine At.seq ?_
  refine At.rg [0,1,2,3,4,5,6,7,8,9,10] ?_
  refine At.lv 2 ?_
  refine At.is 25 (v':=.bool true) rfl rfl ?_
  refine At.lv 4 ?_
  refine At.is 29 (v':=.bool false) rfl (Pw g1 rfl) ?_
  refine At.lv 5 ?_
  refine At.aV ?_
  refine At.eU rfl rfl ?_
  refine At.skip ?_
  exact At.q8 func175 rfl dP (.inr ⟨_,rfl⟩)
 ·refine ⟨_,_,_,.w2 s.v,s,P5 br.cg,.w1n hv,za (.inr rfl),cJ.refl br,λ bg bp=>(?_:At (gF F m (.w2 s.v)) _ _ _ _ _) bg bp⟩
  refine At.lv 1 ?_
  refine At.is 2 (v':=.int .u64 (4294967296 * (s.v:Int)+((0:Nat):Int))) rfl (congrArg _ ev) ?_
  refine At.aV ?_
  refine At.FD func199 rfl rfl zA rfl (.put rfl) ?_
  refine At.sub (st':=[(0,pw F),(11,.int .u64 (4294967296 * (s.v:Int)+((0:Nat):Int)))]) (cx.sub ⟨rfl,rfl,trivial⟩) ?_
  clear ev br bp zA
  generalize s.v=u at hv v1' g1 g2 g3 gs v1 ⊢
  refine At.lv 1 ?_
  refine At.aV ?_
  refine At.seq ?_
  refine At.rg [0,1,2,3] ?_
  refine At.lv 4 ?_
  refine At.aV ?_
  refine At.is 3 (v':=.int .i32 (u:Int)) rfl (congrArg _ (by
   show IntKind.i32.wrap ((4294967296 * (u:Int)+((0:Nat):Int)).fdiv (2 ^ (min (32:Int).toNat IntKind.u64.bits)))=_
   rw [gs,wrap_i32 (by omega) (by omega)])) ?_
  refine At.seq ?_
  refine At.rg [0,1,2,3] ?_
  refine At.lv 4 ?_
  refine At.aV ?_
  refine At.is 4 (v':=.int .u32 0) rfl (congrArg _ (by rw [g2,nm]; exact wrap_u32 (by omega) (by omega))) ?_
  refine At.seq ?_
  refine At.seq ?_
  refine At.rg [0,1] ?_
  refine At.lv 2 ?_
  refine At.aV ?_
  refine At.is 19 (v':=.bool false) rfl (congrArg Value.bool (by rw [beq_eq_false_iff_ne]; omega)) ?_
  refine At.eU rfl rfl ?_
  refine At.skip ?_
  refine At.seq ?_
  refine At.rg [0,1,2,3,4,5,6] ?_
  refine At.lv 6 ?_
  refine At.is 47 (v':=.int .u64 (4294967296 * (u:Int)+((1:Nat):Int))) rfl (congrArg _ (by rw [amH (by omega) (by omega)]; omega)) ?_
  refine At.RH rfl rfl rfl rfl rfl func207 (by decide +kernel) rfl rfl rfl λ aQI Rm=>?_
  refine At.seq ?_
  refine At.rg [0] ?_
  refine At.lv 1 ?_
  refine At.aV ?_
  refine At.seq ?_
  refine At.rg [0,1,2,3,4,5,6] ?_
  refine At.lv 5 ?_
  refine sM λ p hp=>KM.ext rfl rfl rfl rfl aud rfl rfl (by simp) (by simp) λ w s2 _ L4 mU=>.inr ?_
  obtain ⟨y0,y1,y2⟩:=mU
  have ev2:AR s2=4294967296 * (s2.v:Int)+((0:Nat):Int):=by rw [Jp,y0]
  have Xk:=L4.cg
  rw [ev2] at Xk
  by_cases he:s2.v=u
  ·subst he
   refine ⟨.bool true,_,_,.wV,{ s2 with w:=1 },Hb Xk (L4.zg 0),.amw,qZ (.inr rfl),cJ.wg (v:=s2.v) (u:=1) L4,λ bg bp=>(?_:At (gF F p .wV) _ _ _ _ _) bg bp⟩
   refine At.lv 1 ?_
   refine At.aV ?_
   refine At.FD func207 rfl rfl Rm rfl (.put rfl) ?_
   refine At.aV ?_
   refine At.fX rfl rfl ?_
   refine At.seq ?_
   refine At.seq ?_
   refine At.rg [0,1,2,3] ?_
   refine At.lv 3 ?_
   refine At.is 51 (v':=.bool true) rfl rfl ?_
   refine At.lv 1 ?_
   refine At.aV ?_
   refine At.fX rfl rfl ?_
   refine At.rg [0,1,2,3,4] ?_
   refine At.lv 3 ?_
   refine sM λ m hm=>KM.conv rfl rfl rfl rfl rfl alK rfl ae0 (by simp) (by simp) qY (λ _=>.wV) λ bg bp=>(?_:At (gF F m .wW) _ _ _ _ _) bg bp
   refine sM λ m hm=>KM.ext rfl rfl rfl rfl aua rfl rfl (by simp) (by simp) λ w s1 _ Ep _=>.inr ⟨_,w,_,.w3,s1,DN (λ _ _=>by simp) rfl,.wW,rfl,cJ.refl Ep,λ bg bp=>(?_:At (gF F m .w3) _ _ _ _ _) bg bp⟩
   refine At.aV ?_
   refine At.seq ?_
   refine At.rg [0] ?_
   refine At.lv 1 ?_
   refine At.aV ?_
   refine At.seq ?_
   refine At.seq ?_
   refine At.rg [0,1,2,3,4,5] ?_
   refine At.lv 3 ?_
   refine At.is 60 (v':=.bool false) rfl (Pw g1 rfl) ?_
   refine At.lv 3 ?_
   refine At.aV ?_
   refine At.eU rfl rfl ?_
   refine At.skip ?_
   refine At.seq ?_
   refine At.rg [0,1,2,3,4] ?_
   refine At.lv 4 ?_
   refine sM λ m hm=>KM.ext rfl rfl rfl rfl aub rfl rfl (by simp) (by simp) λ w s3 _ sB _=>?_
   cases kW:s3.ws with
   | zero=>exact .inl ⟨rfl,rfl,aeB rfl (by have e:=sB.PI; rw [kW] at e; exact e)⟩
   | succ z =>
    have ea:((z+1:Nat):Int) - 1=(z:Int):=by omega
    refine .inr ⟨_,_,_,.w4,_,agN (n:=((z+1:Nat):Int)) rfl (by have e:=sB.PI; rw [kW] at e; exact e) (by omega) (sB.zg 1),.w3 kW,Kh (.inr rfl),by rw [ea]; exact cJ.ws sB,λ bg bp=>(?_:At (gF F m .w4) _ _ _ _ _) bg bp⟩
    refine At.aV ?_
    refine At.seq ?_
    refine At.rg [0,1,2,3,4,5] ?_
    refine At.lv 3 ?_
    refine At.RH rfl rfl rfl rfl rfl func199 (by decide +kernel) rfl rfl rfl λ aQJ htC=>?_
    refine At.seq ?_
    refine At.rg [0] ?_
    refine At.lv 1 ?_
    refine At.aV ?_
    refine At.seq ?_
    refine At.rg [0,1,2,3,4] ?_
    refine At.lv 3 ?_
    refine sM λ m hm=>KM.ext rfl rfl rfl rfl Wv rfl rfl (by simp) (by simp) λ w s4 _ aip mU=>.inr ⟨_,_,_,.we,s4,P5 aip.cg,.w4,za (.inr rfl),cJ.refl aip,λ bg bp=>(?_:At (gF F m .we) _ _ _ _ _) bg bp⟩
    obtain ⟨z1,z2⟩:=mU
    refine At.lv 1 ?_
    refine At.is 2 (v':=.int .u64 0) rfl (congrArg _ (by rw [Jp,z1,z2]; rfl)) ?_
    refine At.aV ?_
    refine At.FD func199 rfl rfl htC rfl (.put rfl) ?_
    refine At.lv 2 ?_
    refine At.aV ?_
    refine At.is 6 (v':=.bool false) rfl rfl ?_
    refine At.seq ?_
    refine At.fX rfl rfl ?_
    refine At.seq ?_
    refine At.rg [0] ?_
    refine sM λ m hm=>KM.ext rfl rfl rfl rfl DU rfl rfl (by simp) (by simp) λ w s1 _ Ep _=>.inr ⟨_,w,_,.qv,s1,r7 (by simp),.we,rfl,cJ.refl Ep,λ bg bp=>(?_:At (gF F m .qv) _ _ _ _ _) bg bp⟩
    refine At.aV ?_
    refine At.rg [0,1,2] ?_
    refine At.lv 1 ?_
    refine sM λ m hm=>KM.conv rfl rfl rfl rfl rfl ac0 rfl U7 (by simp) (by simp) qY (λ _=>.qv) λ bg bp=>(?_:At (gF F m .wq) _ _ _ _ _) bg bp
    refine sM λ m hm=>KM.acq rfl rfl rfl rfl Qa rfl rfl rfl λ js iK bg bp=>?_
    have dP:=hk js iK
    show F.mj _ _ _
    rw [tW] at dP ⊢
    refine (?_:At (Fu prog F.B Post) _ _ _ _ _) bg bp
    refine At.aV ?_
    refine At.seq ?_
    refine At.seq ?_
    refine At.rg [0] ?_
    refine At.lv 1 ?_
    refine At.aV ?_
    refine At.eU rfl rfl ?_
    refine At.skip ?_
    exact At.q8 func175 rfl dP (.inr ⟨_,rfl⟩)
  ·refine ⟨.bool false,w,_,.w1,s2,KE Xk (L4.zg 0) (λ e=>he (by omega)),.amv he,za (.inr rfl),cJ.refl L4,λ bg bp=>(?_:At (gF F p .w1) _ _ _ _ _) bg bp⟩
   refine At.lv 1 ?_
   refine At.aV ?_
   refine At.FD func207 rfl rfl Rm rfl (.put rfl) ?_
   refine At.aV ?_
   refine At.eU rfl rfl ?_
   refine At.skip ?_
   refine At.bI ?_
   refine At.inLoop ?_
   refine At.sub ?_ (ih p (Nat.lt_trans hp hm) () trivial)
   exact cx.sub ⟨rfl,trivial⟩
theorem aRI(tW:F.mj=jr prog F.B Post)(n:Nat):lC prog ((gF F n .wa).J R H) (WtK F R H) 175 [pw F]:=lC.oZ func175 rfl rfl rfl λ fr cs hk=>by
 refine At.seq ?_
 refine At.fX rfl rfl ?_
 refine At.rg [0] ?_
 refine sM λ m hm=>KM.ext rfl rfl rfl rfl KP rfl rfl (by simp) (by simp) λ w s _ br _=>.inr ⟨_,w,_,.w1,s,r7 (by simp),.wa,rfl,cJ.refl br,λ bg bp=>(?_:At (gF F m .w1) _ _ _ _ _) bg bp⟩
 refine At.aV ?_
 refine At.aZ ?_
 refine At.enterLoop ?_
 refine At.sub ?_ (aRH tW hk m)
 exact cx.sub ⟨rfl,trivial⟩
end
end Go.Proofs.YtihapemckcdicaaGreatDoor
namespace Go.Lg
open Go.Conc Go.ConcN
def nN(a:Nat→Nat→Bool)(js:Nat→Nat):List Value:=(List.range 16).map λ p=>.bool (decide (p / 4 < js (p % 4)) && a (p / 4) (p % 4))
theorem aOp(a:Nat→Nat→Bool):nN a (λ _=>0)=List.replicate 16 (.bool false):=by
 simp [nN,List.range,List.range.loop,List.replicate]
theorem aco{a:Nat→Nat→Bool}{js:Nat→Nat}{p:Nat}(hp:p < 16):(nN a js)[p]? = some (.bool (decide (p / 4 < js (p % 4)) && a (p / 4) (p % 4))):=by
 simp [nN,hp]
theorem aOo{a:Nat→Nat→Bool}{js:Nat→Nat}{k j:Nat}(hk:k < 4)(_:j < 4)(iK:js k=j):nN a (gJ js k (j+1))=(nN a js).set (4 * j+k) (.bool (a j k)):=by
 have hl:∀ js,(nN a js).length=16:=λ js=>by simp [nN]
 apply List.ext_getElem?
 intro p
 rcases Nat.lt_or_ge p 16 with hp | hp
 ·rw [aco hp,List.getElem?_set,aco hp]
  by_cases e:4 * j+k=p
  ·subst e
   rw [if_pos rfl,if_pos (by rw [hl]; omega)]
   have e1:(4 * j+k) / 4=j:=by omega
   have e2:(4 * j+k) % 4=k:=by omega
   rw [e1,e2,uN]
   simp
  ·rw [if_neg e]
   by_cases e2:p % 4=k
   ·have e3:p / 4≠j:=by omega
    rw [e2,uN,iK]
    have:decide (p / 4 < j+1)=decide (p / 4 < j):=by
     by_cases h:p / 4 < j
     ·simp [h]; omega
     ·simp [h]; omega
    rw [this]
   ·rw [uM e2]
 ·rw [List.getElem?_eq_none (by rw [hl]; exact hp),List.getElem?_eq_none (by rw [List.length_set,hl]; exact hp)]
end Go.Lg
