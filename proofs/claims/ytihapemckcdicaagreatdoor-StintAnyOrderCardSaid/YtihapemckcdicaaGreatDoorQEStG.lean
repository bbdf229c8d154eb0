/- What sync does, walked for the machine. Conditions: none. -/
import Derived.Test.YtihapemckcdicaaGreatDoorQELgE
import Derived.Test.YtihapemckcdicaaGreatDoorQEStF
namespace Go.Proofs.YtihapemckcdicaaGreatDoor
open Go.Lg Go.Proofs Go.Conc Tryz
set_option maxRecDepth 100000
theorem acH:gx prog 190 (Extern.Race.marked .releaseMerge):=⟨⟨Tryz.f190,func190,by kernel_rfl,by kernel_rfl,by kernel_rfl,by kernel_rfl⟩⟩
theorem IJ:gx prog 191 (λ _=>do mark .disable; pure Extern.Race.none_):=⟨⟨Tryz.f191,func191,by kernel_rfl,by kernel_rfl,by kernel_rfl,by kernel_rfl⟩⟩
theorem BX:gx prog 192 (λ _=>do mark .enable; pure Extern.Race.none_):=⟨⟨Tryz.f192,func192,by kernel_rfl,by kernel_rfl,by kernel_rfl,by kernel_rfl⟩⟩
theorem acI:gx prog 193 (λ _=>pure (.bool false)):=⟨⟨Tryz.f193,func193,by kernel_rfl,by kernel_rfl,by kernel_rfl,by kernel_rfl⟩⟩
theorem ao3:gx prog 198 (Extern.Race.marked .read):=⟨⟨Tryz.f198,func198,by kernel_rfl,by kernel_rfl,by kernel_rfl,by kernel_rfl⟩⟩
theorem ao4:gx prog 202 Extern.Sync.semrelease:=⟨⟨Tryz.f202,func202,by kernel_rfl,by kernel_rfl,by kernel_rfl,by kernel_rfl⟩⟩
theorem Nc:gx prog 205 (Extern.Race.marked .acquire):=⟨⟨Tryz.f205,func205,by kernel_rfl,by kernel_rfl,by kernel_rfl,by kernel_rfl⟩⟩
theorem ao5:gx prog 208 (Extern.Race.marked .write):=⟨⟨Tryz.f208,func208,by kernel_rfl,by kernel_rfl,by kernel_rfl,by kernel_rfl⟩⟩
theorem ao6:gx prog 209 Extern.Sync.semacquire:=⟨⟨Tryz.f209,func209,by kernel_rfl,by kernel_rfl,by kernel_rfl,by kernel_rfl⟩⟩
theorem acJ:gx prog 227 (Extern.Atomic.update (Op.intArith .add) .u64 true):=⟨⟨Tryz.f227,func227,by kernel_rfl,by kernel_rfl,by kernel_rfl,by kernel_rfl⟩⟩
theorem Tc:gx prog 228 (Extern.Atomic.loadT (.int .u64)):=⟨⟨Tryz.f228,func228,by kernel_rfl,by kernel_rfl,by kernel_rfl,by kernel_rfl⟩⟩
theorem ao7:gx prog 229 Extern.Atomic.storeT:=⟨⟨Tryz.f229,func229,by kernel_rfl,by kernel_rfl,by kernel_rfl,by kernel_rfl⟩⟩
theorem Nd:gx prog 230 (Extern.Atomic.casT (.int .i32)):=⟨⟨Tryz.f230,func230,by kernel_rfl,by kernel_rfl,by kernel_rfl,by kernel_rfl⟩⟩
theorem acK:gx prog 232 (Extern.Atomic.update (Op.intArith .add) .i32 true):=⟨⟨Tryz.f232,func232,by kernel_rfl,by kernel_rfl,by kernel_rfl,by kernel_rfl⟩⟩
theorem ao8:gx prog 234 (Extern.Atomic.casT (.int .u64)):=⟨⟨Tryz.f234,func234,by kernel_rfl,by kernel_rfl,by kernel_rfl,by kernel_rfl⟩⟩
theorem ao9:gx prog 241 Extern.Sync.canSpin:=⟨⟨Tryz.f241,func241,by kernel_rfl,by kernel_rfl,by kernel_rfl,by kernel_rfl⟩⟩
theorem apa:gx prog 242 Extern.Sync.nothing:=⟨⟨Tryz.f242,func242,by kernel_rfl,by kernel_rfl,by kernel_rfl,by kernel_rfl⟩⟩
theorem acL:gx prog 244 Extern.OsHooks.nano:=⟨⟨Tryz.f244,func244,by kernel_rfl,by kernel_rfl,by kernel_rfl,by kernel_rfl⟩⟩
theorem apb:gx prog 245 Extern.Sync.semacquire:=⟨⟨Tryz.f245,func245,by kernel_rfl,by kernel_rfl,by kernel_rfl,by kernel_rfl⟩⟩
theorem acM:gx prog 247 Extern.Sync.semrelease:=⟨⟨Tryz.f247,func247,by kernel_rfl,by kernel_rfl,by kernel_rfl,by kernel_rfl⟩⟩
def kiT:Nat→Option IntKind
 | 2 | 3=>some .i64
 | 21=>some .i32
 | 190=>some .u32
 | 197=>some .u64
 | _=>none
instance:tT prog:=⟨kiT,λ t k h=>by
 unfold kiT at h
 split at h
 ·cases h; exact underlying2
 ·cases h; exact underlying3
 ·cases h; exact underlying21
 ·cases h; exact underlying190
 ·cases h; exact underlying197
 ·cases h⟩
theorem X3:EG prog 255 223:=⟨192,underlying255,underlying223,by kernel_rfl⟩
theorem X2:EG prog 221 223:=⟨201,underlying221,underlying223,by kernel_rfl⟩
theorem afD:EG prog 228 223:=⟨190,underlying228,underlying223,by kernel_rfl⟩
end Go.Proofs.YtihapemckcdicaaGreatDoor
namespace Go.Proofs.YtihapemckcdicaaGreatDoor
open Go.Lg Go.Proofs Go.Conc Tryz
set_option maxRecDepth 100000
set_option maxHeartbeats 4000000
noncomputable abbrev FT (F:Fx):Fx:={ F with P:=prog }
section
variable {F:Fx} {R:az} {H:an} {k j:Nat} {fr:Frame} {cs:List Frame}
abbrev pm(F:Fx):Value:=.pointer (some (am F))
noncomputable abbrev WJ (F:Fx) (n k j:Nat) (T:Lp):=KT prog F.B false (KW (FT F) n k j T)
def zJ(F:Fx)(k j:Nat)(R:az)(H:an)(g:Goroutine):Prop:=∀ n js,js k=j→Own prog F.B false (KW (FT F) n k j (.ul js)) R ((F.bo,F.cont js)::H) g
theorem sW{c:Ctx}{st:St}{todo:List Item}{n:Nat}{T:Lp}(h:∀ m,m < n→∀ tmps,cM c.n st tmps→KW (FT F) (m+1) k j T R H (aX (aV c tmps todo) c.cs)):U (WJ F n k j T) c R H st todo:=U.aD0 (F:=FT F) h
def abg:Code→Option Code
 | .seq (.block _ _) r=>some r
 | .seq _ y=>abg y
 | _=>none
def wS:Code→Option Code
 | .loop c=>some c
 | .seq x y=>match wS x with | some c=>some c | none=>wS y
 | .block _ c=>wS c
 | .cond _ x y=>match wS x with | some c=>some c | none=>wS y
 | _=>none
noncomputable def yF:Code:=(abg (Tryz.f231.body.getD .skip)).getD .skip
noncomputable def sP:Code:=(wS (Tryz.f231.body.getD .skip)).getD .skip
theorem afg(hk:zJ F k j R H (aX (fr.finish (iE [])) cs))(n:Nat):U (WJ F n k j .le) ⟨231,.normal,none,139,[],fr::cs⟩ R H [(0,pm F)] [.code yF]:=by
 refine U.fE rfl rfl ?_
 refine U.seq ?_
 refine U.rg [0] ?_
 refine sW λ n _=>KW.ext rfl rfl rfl rfl BX rfl rfl λ _ w s _ bf _ _=>.inr ⟨_,w,_,.lc,s,rp (by simp),.le,trivial,rfl,b9.refl bf,λ aZ bc=>(?_:U (WJ F n k j .lc) _ _ _ _ _) aZ bc⟩
 refine U.aU ?_
 refine U.rg [0,1,2] ?_
 refine U.lv 1 ?_
 refine sW λ n _=>KW.conv rfl rfl rfl rfl rfl X3 rfl R5 ⟨by simp,by simp⟩ qt (λ _=>.lc) trivial λ aZ bc=>(?_:U (WJ F n k j .la) _ _ _ _ _) aZ bc
 refine sW λ n _=>KW.ext rfl rfl rfl rfl Nc rfl rfl λ _ w s _ bf _ _=>.inr ⟨_,w,_,.ul λ _=>0,s,BS (λ _ _=>by simp) rfl,.la,trivial,rfl,b9.refl bf,λ aZ bc js iC=>(?_:U (WJ F n k j (.ul js)) _ _ _ _ _) aZ bc⟩
 refine U.aU ?_
 exact U.qx func231 rfl (hk n js iC) (.inl rfl)
theorem AI{N N':Nat}{m:Wd}(h:m.ok N)(hn:N≤N'):m.ok N':=⟨h.1,h.2.1,h.2.2.1,Nat.le_trans h.2.2.2 hn⟩
def AR(F:Fx)(c:Lc)(gd:Int):St:=[(0,pm F),(2,.int .i64 gd),(3,.bool c.sv),(4,.bool c.aw),(5,.int .i64 c.it),(6,.int .i32 c.old.val)]
def O3(F:Fx)(x:Lc × Int):Prop:=x.1.old.ok F.N∧(x.1.aw=true→x.1.old.w=1)∧x.1.ws=decide (x.2≠0)∧x.1.it≤4
theorem rm{b:Option Int}{z y:Int}{p:Bool}(h:b=some z)(hp:(z == y)=p):Value.bool (b.getD 0 == y) = .bool p:=by rw [h]; exact congrArg _ hp
noncomputable def KO:Code:=match sP with | .block _ (.seq _ y)=>y | _=>.skip
noncomputable def aDD:Code:=match sP with | .block _ (.seq (.seq _ (.cond _ (.seq _ z) _)) _)=>z | _=>.skip
abbrev AQ(fr:Frame)(cs:List Frame):Ctx:=⟨231,.normal,none,139,[],fr::cs⟩
def vM(F:Fx)(k j:Nat)(R:az)(H:an)(fr:Frame)(cs:List Frame)(m:Nat):Prop:=∀ x,O3 F x→U (WJ F m k j (hd x.1)) (AQ fr cs) R H (AR F x.1 x.2) [.code sP,.inLoop sP,.inBlock 0,.code yF]
theorem K4{n:Nat}(ih:∀ m,m < n→vM F k j R H fr cs m){old:Wd}{aw sv:Bool}{it:Nat}{ws:Bool}{gd:Int}(kK:ws=decide (gd≠0)){st:St}(cG:aI st [(0,pm F),(2,.int .i64 gd),(3,.bool sv),(4,.bool aw),(5,.int .i64 it)]) :
  U (WJ F n k j (.r1 ⟨old,aw,sv,it,ws⟩)) (AQ fr cs) R H st [.code aDD,.code KO,.inBlock 1,.inLoop sP,.inBlock 0,.code yF]:=by
 refine U.sub cG ?_
 refine U.seq ?_
 refine U.rg [0] ?_
 refine U.ext rfl rfl rfl rfl rfl apa rfl (λ w=>S4) (.put rfl) ?_
 refine U.aU ?_
 refine U.seq ?_
 refine U.rg [0,1,2] ?_
 refine U.lv 3 ?_
 refine U.aU ?_
 refine U.seq ?_
 refine U.rg [0,1,2,3,4] ?_
 refine U.lv 3 ?_
 refine sW λ m hm=>KW.look rfl rfl rfl rfl rfl Gd (by kernel_rfl) rfl ⟨by simp,by simp⟩ (λ _ h=>h) λ ot s hs=>⟨_,.r1,pd (by simp),λ aZ bc=>Oy ((?_:U (WJ F m k j (hd ⟨s.mu,aw,sv,it+1,ws⟩)) _ _ _ _ _) aZ bc)⟩
 obtain ⟨t1,t2,t3⟩:=ot
 dsimp only at t2
 refine U.lv 1 ?_
 refine U.aU ?_
 refine U.exit rfl ?_
 refine U.inLoop ?_
 refine U.is 5 (v':=.int .i64 ((it+1:Nat):Int)) rfl (by rw [show ((it+1:Nat):Int)=(it:Int)+1 by omega]; exact congrArg _ (agr (by constructor <;> omega))) ?_
 exact U.sub (st':=AR F ⟨s.mu,aw,sv,it+1,ws⟩ gd) (bR.sub ⟨rfl,rfl,rfl,rfl,rfl,rfl,trivial⟩) (ih m hm (⟨s.mu,aw,sv,it+1,ws⟩,gd) ⟨hs.1,hs.2,kK,by dsimp only; omega⟩)
theorem aDz{n:Nat}(ih:∀ m,m < n→vM F k j R H fr cs m){old:Wd}{aw sv:Bool}{it:Nat}{ws:Bool}{gd:Int}(hx:O3 F (⟨old,aw,sv,it,ws⟩,gd))
  (afA:∀ m,m≤n→∀ st,aI st (AR F ⟨old,aw,sv,it,ws⟩ gd)→U (WJ F m k j (.c2 ⟨old,aw,sv,it,ws⟩)) (AQ fr cs) R H st [.code KO,.inBlock 1,.inLoop sP,.inBlock 0,.code yF]) :
  U (WJ F n k j (hd ⟨old,aw,sv,it,ws⟩)) (AQ fr cs) R H (AR F ⟨old,aw,sv,it,ws⟩ gd) [.code sP,.inLoop sP,.inBlock 0,.code yF]:=by
 obtain ⟨gJ,wh,kK,Nt⟩:=hx
 dsimp only at gJ wh kK Nt
 have hN:=F.hN
 have h5:=AI gJ (show F.N≤5 by omega)
 obtain ⟨b1,b2,b3,b4,b5,b7,o1,o2,o4,n2,s3⟩:=Wd.td h5
 obtain ⟨q1,q2,q3,q4⟩:=h5
 refine U.block ?_
 refine U.seq ?_
 refine U.seq ?_
 refine U.rg [0,1,2,3,4,5,6] ?_
 refine U.lv 4 ?_
 by_cases hq:old.l=1∧old.s=0
 ·have SQ:hd ⟨old,aw,sv,it,ws⟩ = .sq ⟨old,aw,sv,it,ws⟩:=if_pos hq
  rw [SQ]
  refine U.is 17 (v':=.bool true) rfl (rm b5 (by simp [hq])) ?_
  refine U.lv 1 ?_
  refine sW λ m hm=>KW.ext rfl rfl rfl rfl ao9 rfl rfl λ _ w s _ bf _ _=>.inr ?_
  have no:∀ st,aI st (AR F ⟨old,aw,sv,it,ws⟩ gd)→U (WJ F m k j (.c2 ⟨old,aw,sv,it,ws⟩)) (AQ fr cs) R H st [.code KO,.inBlock 1,.inLoop sP,.inBlock 0,.code yF]:=λ st hs=>afA m (Nat.le_of_lt hm) st hs
  by_cases h4:4≤it
  ·refine ⟨.bool false,w,#[],.c2 _,s,aoe (by dsimp only; omega),.O4,trivial,qt,b9.refl bf,λ aZ bc=>(?_:U (WJ F m k j (.c2 ⟨old,aw,sv,it,ws⟩)) _ _ _ _ _) aZ bc⟩
   refine U.lv 1 ?_
   refine U.aU ?_
   refine U.eF rfl rfl ?_
   refine U.skip ?_
   exact no _ (bR.sub ⟨rfl,rfl,rfl,rfl,rfl,rfl,trivial⟩)
  ·cases hsp:w.spins
   ·refine ⟨.bool false,w.asked,#[],.c2 _,s,hsp ▸ acm (by dsimp only; omega),.O4,trivial,qt,b9.asked bf,λ aZ bc=>(?_:U (WJ F m k j (.c2 ⟨old,aw,sv,it,ws⟩)) _ _ _ _ _) aZ bc⟩
    refine U.lv 1 ?_
    refine U.aU ?_
    refine U.eF rfl rfl ?_
    refine U.skip ?_
    exact no _ (bR.sub ⟨rfl,rfl,rfl,rfl,rfl,rfl,trivial⟩)
   ·refine ⟨.bool true,w.asked,#[],jx ⟨old,aw,sv,it,ws⟩,s,hsp ▸ acm (by dsimp only; omega),.yL (by show it < 4; omega),pd (by simp),qt,b9.asked bf,λ aZ bc=>aBC ((?_:U (WJ F m k j (jx ⟨old,aw,sv,it,ws⟩)) _ _ _ _ _) aZ bc)⟩
    refine U.lv 1 ?_
    refine U.aU ?_
    refine U.fE rfl rfl ?_
    refine U.seq ?_
    refine U.seq ?_
    refine U.rg [0,1,2,3,4,5,6,7,8,9,10,11,12,13,14,15,16,17,18,19,20] ?_
    have uS:∀ m',m' < m→vM F k j R H fr cs m':=λ m' h'=>ih m' (Nat.lt_trans h' hm)
    have quiet:¬ (aw=false∧old.w=0∧old.n≠0)→jx ⟨old,aw,sv,it,ws⟩ = .r1 ⟨old,aw,sv,it,ws⟩:=λ h=>if_neg h
    cases aw
    case true =>
     rw [quiet (by simp)]
     refine U.lv 21 ?_
     refine U.aU ?_
     refine U.eF rfl rfl ?_
     refine U.skip ?_
     refine K4 uS kK ?_
     exact bR.sub ⟨rfl,rfl,rfl,rfl,rfl,trivial⟩
    case false =>
     refine U.lv 6 ?_
     by_cases V8:old.w=0
     case neg =>
      rw [quiet (by simp [V8])]
      refine U.is 26 (v':=.bool false) rfl (rm b2 (by rw [beq_eq_false_iff_ne]; omega)) ?_
      refine U.lv 15 ?_
      refine U.aU ?_
      refine U.eF rfl rfl ?_
      refine U.skip ?_
      refine K4 uS kK ?_
      exact bR.sub ⟨rfl,rfl,rfl,rfl,rfl,trivial⟩
     refine U.is 26 (v':=.bool true) rfl (rm b2 (by simp [V8])) ?_
     refine U.lv 5 ?_
     have rC:old.val.fdiv (2 ^ (min (3:Int).toNat IntKind.i32.bits))=(old.n:Int):=by simpa [kU] using s3
     by_cases Eb:old.n=0
     case pos =>
      rw [quiet (by simp [Eb])]
      refine U.is 31 (v':=.bool false) rfl (congrArg Value.bool (by show (old.val.fdiv (2 ^ (min (3:Int).toNat IntKind.i32.bits)) != 0)=false; rw [rC,Eb]; rfl)) ?_
      refine U.lv 10 ?_
      refine U.aU ?_
      refine U.eF rfl rfl ?_
      refine U.skip ?_
      refine K4 uS kK ?_
      exact bR.sub ⟨rfl,rfl,rfl,rfl,rfl,trivial⟩
     refine U.is 31 (v':=.bool true) rfl (congrArg Value.bool (by show (old.val.fdiv (2 ^ (min (3:Int).toNat IntKind.i32.bits)) != 0)=true; rw [rC,bne_iff_ne]; omega)) ?_
     rw [show jx ⟨old,false,sv,it,ws⟩ = .c1 ⟨old,false,sv,it,ws⟩ from if_pos ⟨rfl,V8,Eb⟩]
     refine U.lv 8 ?_
     refine U.is 39 (v':=.int .i32 (Wd.val { old with w:=1 })) rfl (by rw [o2]; rfl) ?_
     refine sW λ p hp=>KW.ext rfl rfl rfl rfl Nd rfl rfl λ _ w s _ bf hs _=>.inr ?_
     have hp':∀ m',m' < p→vM F k j R H fr cs m':=λ m' h'=>uS m' (Nat.lt_trans h' hp)
     by_cases dn:s.mu=old
     ·subst dn
      refine ⟨.bool true,_,_,.r1 ⟨s.mu,true,sv,it,ws⟩,_,E1 bf.cm (bf.zm 0),.Sw rfl,pd (by simp),qu (.inl rfl),b9.mu bf,λ aZ bc=>(?_:U (WJ F p k j (.r1 ⟨s.mu,true,sv,it,ws⟩)) _ _ _ _ _) aZ bc⟩
      refine U.lv 1 ?_
      refine U.aU ?_
      refine U.fE rfl rfl ?_
      refine U.rg [0] ?_
      refine U.lv 1 ?_
      refine U.aU ?_
      refine K4 hp' kK ?_
      exact bR.sub ⟨rfl,rfl,rfl,rfl,rfl,trivial⟩
     ·refine ⟨.bool false,w,_,.r1 ⟨old,false,sv,it,ws⟩,s,IF bf.cm (bf.zm 0) (λ e=>dn (Wd.val_inj hs.1 gJ e)),.Sv dn,pd (by simp),xC (.inl rfl),b9.refl bf,λ aZ bc=>(?_:U (WJ F p k j (.r1 ⟨old,false,sv,it,ws⟩)) _ _ _ _ _) aZ bc⟩
      refine U.lv 1 ?_
      refine U.aU ?_
      refine U.eF rfl rfl ?_
      refine U.skip ?_
      refine K4 hp' kK ?_
      exact bR.sub ⟨rfl,rfl,rfl,rfl,rfl,trivial⟩
 ·have SQ:hd ⟨old,aw,sv,it,ws⟩ = .c2 ⟨old,aw,sv,it,ws⟩:=if_neg hq
  rw [SQ]
  refine U.is 17 (v':=.bool false) rfl (rm b5 (by rw [beq_eq_false_iff_ne]; show ¬ ((old.l:Int)+4 * old.s=1); omega)) ?_
  refine U.lv 3 ?_
  refine U.aU ?_
  refine U.eF rfl rfl ?_
  refine U.skip ?_
  exact afA n (Nat.le_refl _) _ (bR.sub ⟨rfl,rfl,rfl,rfl,rfl,rfl,trivial⟩)
def u6(o:Wd):Wd:={ o with l:=if o.s=0 then 1 else o.l }
def wZ(o:Wd):Wd:={ u6 o with n:=if o.l=1∨o.s=1 then o.n+1 else o.n }
def Db(o:Wd)(sv:Bool):Wd:={ wZ o with s:=if sv=true∧o.l=1 then 1 else o.s }
theorem abh{a b:Int}{p:Prop}[Decidable p](h:a=b↔p):(a == b)=decide p:=by
 by_cases hp:p
 ·rw [decide_eq_true hp]; exact beq_iff_eq.2 (h.2 hp)
 ·rw [decide_eq_false hp]; exact beq_eq_false_iff_ne.2 λ e=>hp (h.1 e)
theorem abi{a b:Int}{p:Prop}[Decidable p](h:a≠b↔p):(a != b)=decide p:=by
 by_cases hp:p
 ·rw [decide_eq_true hp]; exact bne_iff_ne.2 (h.2 hp)
 ·rw [decide_eq_false hp,bne,beq_iff_eq.2 (Classical.byContradiction λ e=>hp (h.1 e))]; rfl
theorem BP{b:Option Int}{z y:Int}{p:Bool}(h:b=some z)(hp:(z != y)=p):Value.bool (b.getD 0 != y) = .bool p:=by rw [h]; exact congrArg _ hp
theorem N2{b:Option Int}{z y:Int}(h:b=some z)(hp:z=y):Value.int .i32 (b.getD 0) = .int .i32 y:=by rw [h,← hp]; rfl
theorem U.mid{P:Program}{B:Base}{main:Bool}{af:Jd P B main}{c:Ctx}{R:az}{H:an}{st:St}{todo K:List Item}(S':St)(h1:(∀ st,aI st S'→U af c R H st K)→U af c R H st todo)(h2:U af c R H S' K):U af c R H st todo:=h1 λ _ hs=>U.sub hs h2
abbrev KP(F:Fx)(c:Lc)(gd:Int)(m:Wd):St:=(7,.int .i32 m.val)::AR F c gd
noncomputable def ayF:Code:=match KO with | .seq _ (.seq _ (.seq _ (.seq _ (.seq _ (.seq _ (.cond _ x _))))))=>x | _=>.skip
noncomputable def acR:Code:=match ayF with | .seq _ (.seq _ (.seq _ x))=>x | _=>.skip
noncomputable def apQ:Code:=match acR with | .seq _ (.seq _ x)=>x | _=>.skip
theorem aE6{m:Wd}(h:m.ok 5)(hl:m.l=0)(hw:m.w=0)(hs:m.s=1)(hn:m.n≠0)(b:Bool):IntKind.i32.wrap (m.val+(if b then -7 else -11))=Wd.val ⟨1,m.w,if b then m.s else 0,m.n - 1⟩:=by
 obtain ⟨l,w,s,n⟩:=m
 dsimp only at hl hw hs hn
 subst hl hw hs
 have:=h.2.2.2
 dsimp only at this
 cases b
 ·rw [wrap_i32 (by simp only [Wd.val]; split <;> omega) (by simp only [Wd.val]; split <;> omega)]
  simp only [Wd.val]; simp; omega
 ·rw [wrap_i32 (by simp only [Wd.val]; split <;> omega) (by simp only [Wd.val]; split <;> omega)]
  simp only [Wd.val]; simp; omega
theorem aff(hk:zJ F k j R H (aX (fr.finish (iE [])) cs)){n:Nat}(ih:∀ m,m < n→vM F k j R H fr cs m){old:Wd}{aw sv:Bool}{it:Nat}{ws:Bool}{gd:Int}(kK:ws=decide (gd≠0)){st:St}(cG:aI st [(0,pm F),(2,.int .i64 gd),(3,.bool sv)]) :
  U (WJ F n k j (.r2 ⟨old,aw,sv,it,ws⟩)) (AQ fr cs) R H st [.code apQ,.inBlock 1,.inLoop sP,.inBlock 0,.code yF]:=by
 have hN:=F.hN
 refine U.sub cG ?_
 refine U.seq ?_
 refine U.rg [0,1,2,3,4] ?_
 refine U.lv 3 ?_
 refine sW λ m hm=>KW.look rfl rfl rfl rfl rfl Gd (by kernel_rfl) rfl ⟨by simp,by simp⟩ (λ _ h=>h) λ _ s hs=>?_
 have h5:=AI hs.1 (show (FT F).N≤5 from Nat.le_trans hN (by omega))
 obtain ⟨b1,b2,b3,b4,b5,b7,o1,o2,o4,n2,s3⟩:=Wd.td h5
 have rC:s.mu.val.fdiv (2 ^ (min (3:Int).toNat IntKind.i32.bits))=(s.mu.n:Int):=by simpa [kU] using s3
 rcases hs.2 with ⟨e1,e2,e3,e4⟩ | ⟨e1,e2⟩
 ·refine ⟨_,.K0 e1,pd (by simp),λ aZ bc=>(?_:U (WJ F m k j (.a1 (sv && s.mu.n != 1))) _ _ _ _ _) aZ bc⟩
  refine U.lv 1 ?_
  refine U.aU ?_
  refine U.seq ?_
  refine U.seq ?_
  refine U.rg [0,1,2] ?_
  refine U.lv 3 ?_
  refine U.aU ?_
  refine U.is 107 (v':=.bool true) rfl (BP b4 (by rw [e1]; rfl)) ?_
  refine U.fE rfl rfl ?_
  refine U.seq ?_
  refine U.seq ?_
  refine U.rg [0,1,2,3,4,5,6,7] ?_
  refine U.lv 3 ?_
  refine U.is 110 (v':=.bool false) rfl (BP b3 (by rw [e2,e3]; rfl)) ?_
  refine U.lv 4 ?_
  refine U.is 114 (v':=.bool false) rfl (congrArg Value.bool (by show (s.mu.val.fdiv (2 ^ (min (3:Int).toNat IntKind.i32.bits)) == 0)=false; rw [rC,beq_eq_false_iff_ne]; omega)) ?_
  refine U.lv 1 ?_
  refine U.aU ?_
  refine U.eF rfl rfl ?_
  refine U.skip ?_
  refine U.seq ?_
  refine U.rg [0] ?_
  refine U.lv 1 ?_
  refine U.aU ?_
  refine U.seq ?_
  refine U.seq ?_
  refine U.rg [0,1,2,3,4,5,6] ?_
  refine U.mid (K:=?K) [(0,pm F),(9,.int .i32 (-7)),(123,.bool (!(sv && s.mu.n != 1)))] ?h1 ?h2
  case h1 =>
   intro h
   cases sv
   ·refine U.lv 7 ?_
    refine U.aU ?_
    refine h _ ?_
    exact bR.sub ⟨rfl,rfl,rfl,trivial⟩
   ·refine U.lv 6 ?_
    refine U.is 122 (v':=.bool (!(true && s.mu.n != 1))) rfl (congrArg Value.bool (by
     show (s.mu.val.fdiv (2 ^ (min (3:Int).toNat IntKind.i32.bits)) == 1)=_
     rw [rC]
     by_cases e:s.mu.n=1
     ·rw [e]; rfl
     ·rw [beq_eq_false_iff_ne.2 (by omega)]; simp [e])) ?_
    refine U.lv 1 ?_
    refine U.aU ?_
    refine h _ ?_
    exact bR.sub ⟨rfl,rfl,rfl,trivial⟩
  generalize (sv && s.mu.n != 1)=b
  refine U.join (st':=[(0,pm F),(9,.int .i32 (if b then -7 else -11))]) rfl (λ hb h=>?_) (λ hb h=>?_) ?_
  ·cases b
   ·refine U.rg [0,1,2] ?_
    refine U.lv 3 ?_
    refine U.aU ?_
    refine U.sub ?_ h
    exact bR.sub ⟨rfl,rfl,trivial⟩
   ·cases hb
  ·cases b
   ·cases hb
   ·refine U.skip ?_
    refine U.sub ?_ h
    exact bR.sub ⟨rfl,rfl,trivial⟩
  refine U.seq ?_
  refine U.rg [0,1,2,3,4] ?_
  refine U.lv 4 ?_
  refine sW λ p hp=>KW.ext rfl rfl rfl rfl acK rfl rfl λ _ w s _ bf hs _=>.inr ?_
  obtain ⟨rB,g1,g2,g3,g4,g5⟩:=hs
  have e:=aE6 (AI rB (show (FT F).N≤5 from Nat.le_trans hN (by omega))) g2 g3 g1 g4 b
  refine ⟨_,_,_,.le,_,zW bf.cm (bf.zm 0),.a1,trivial,qu (.inl rfl),by rw [e]; exact b9.mu bf,λ aZ bc=>(?_:U (WJ F p k j .le) _ _ _ _ _) aZ bc⟩
  refine U.aU ?_
  refine U.exit rfl ?_
  refine U.sub ?_ (afg hk p)
  exact bR.sub ⟨rfl,trivial⟩
 ·refine ⟨_,.yC e1,pd (by simp),λ aZ bc=>Oy ((?_:U (WJ F m k j (hd ⟨s.mu,true,sv,0,ws⟩)) _ _ _ _ _) aZ bc)⟩
  refine U.lv 1 ?_
  refine U.aU ?_
  refine U.seq ?_
  refine U.seq ?_
  refine U.rg [0,1,2] ?_
  refine U.lv 3 ?_
  refine U.aU ?_
  refine U.is 107 (v':=.bool false) rfl (BP b4 (by rw [e1]; rfl)) ?_
  refine U.eF rfl rfl ?_
  refine U.skip ?_
  refine U.seq ?_
  refine U.rg [0] ?_
  refine U.lv 1 ?_
  refine U.aU ?_
  refine U.rg [0] ?_
  refine U.lv 1 ?_
  refine U.aU ?_
  refine U.inBlock ?_
  refine U.inLoop ?_
  refine U.sub ?_ (ih m hm (⟨s.mu,true,sv,0,ws⟩,gd) ⟨hs.1,λ _=>e2,kK,Nat.zero_le _⟩)
  exact bR.sub ⟨rfl,rfl,rfl,rfl,rfl,rfl,trivial⟩
theorem afe(hB:∀ w:World,F.B.os w.os→F.B.os w.later.os)(hk:zJ F k j R H (aX (fr.finish (iE [])) cs)){n:Nat}(ih:∀ m,m < n→vM F k j R H fr cs m){old:Wd}{aw sv:Bool}{it:Nat}{ws q:Bool}{gd:Int}(kK:ws=decide (gd≠0)){st:St}(cG:aI st [(0,pm F),(2,.int .i64 gd),(3,.bool sv),(8,.bool q)]) :
  U (WJ F n k j (.s1 ⟨old,aw,sv,it,ws⟩)) (AQ fr cs) R H st [.code acR,.inBlock 1,.inLoop sP,.inBlock 0,.code yF]:=by
 refine U.sub cG ?_
 refine U.seq ?_
 refine U.rg [0,1,2,3,4] ?_
 refine U.lv 4 ?_
 refine sW λ m hm=>KW.ext rfl rfl rfl rfl apb rfl rfl λ _ w s _ bf _ _=>?_
 have uS:∀ m',m' < m→vM F k j R H fr cs m':=λ m' h'=>ih m' (Nat.lt_trans h' hm)
 cases Ff:s.ms with
 | zero=>exact .inl ⟨⟨_,rfl⟩,rfl,aaJ rfl (by rw [bf.MP,Ff]; rfl)⟩
 | succ u =>
  have ea:((u+1:Nat):Int) - 1=(u:Int):=by omega
  refine .inr ⟨_,_,_,if sv then .r2 ⟨old,aw,sv,it,ws⟩ else .t2 ⟨old,aw,sv,it,ws⟩,_,ack (n:=((u+1:Nat):Int)) rfl (by rw [← Ff]; exact bf.MP) (by omega) (bf.zm 1),.s1 Ff,pd (by simp),Io (.inl rfl),by rw [ea]; exact b9.ms bf,λ aZ bc=>?_⟩
  cases sv
  ·refine (?_:U (WJ F m k j (.t2 ⟨old,aw,false,it,ws⟩)) _ _ _ _ _) aZ bc
   refine U.aU ?_
   refine U.seq ?_
   refine U.rg [0,1,2,3,4,5,6,7] ?_
   refine U.lv 2 ?_
   refine sW λ p hp=>KW.nano hB rfl rfl rfl rfl acL (by kernel_rfl) rfl rfl ⟨by simp,by simp⟩ qt λ _ z=>?_
   refine ⟨.r2 ⟨old,aw,decide (IntKind.wrap .i64 (z - gd) > 1000000),it,ws⟩,λ s=>.t2 _,pd (by simp),λ aZ bc=>(?_:U (WJ F p k j (.r2 ⟨old,aw,decide (IntKind.wrap .i64 (z - gd) > 1000000),it,ws⟩)) _ _ _ _ _) aZ bc⟩
   refine U.lv 5 ?_
   refine U.aU ?_
   refine aff hk (λ m' h'=>uS m' (Nat.lt_trans h' hp)) kK ?_
   exact bR.sub ⟨rfl,rfl,rfl,trivial⟩
  ·refine (?_:U (WJ F m k j (.r2 ⟨old,aw,true,it,ws⟩)) _ _ _ _ _) aZ bc
   refine U.aU ?_
   refine U.seq ?_
   refine U.rg [0,1,2,3,4,5,6,7] ?_
   refine U.lv 8 ?_
   refine U.aU ?_
   refine aff hk uS kK ?_
   exact bR.sub ⟨rfl,rfl,rfl,trivial⟩
theorem aDw(hB:∀ w:World,F.B.os w.os→F.B.os w.later.os)(hk:zJ F k j R H (aX (fr.finish (iE [])) cs)){n:Nat}(ih:∀ m,m < n→vM F k j R H fr cs m){old:Wd}{aw sv:Bool}{it:Nat}{ws:Bool}{gd:Int}(hx:O3 F (⟨old,aw,sv,it,ws⟩,gd)){st:St}(cG:aI st (AR F ⟨old,aw,sv,it,ws⟩ gd)) :
  U (WJ F n k j (.c2 ⟨old,aw,sv,it,ws⟩)) (AQ fr cs) R H st [.code KO,.inBlock 1,.inLoop sP,.inBlock 0,.code yF]:=by
 obtain ⟨gJ,wh,kK,Nt⟩:=hx
 dsimp only at gJ wh kK Nt
 have hN:=F.hN
 have h5:old.ok 5:=AI gJ (by omega)
 have h4:old.ok 4:=AI gJ (by omega)
 obtain ⟨b1,b2,b3,b4,b5,b7,o1,o2,o4,n2,s3⟩:=Wd.td h5
 obtain ⟨q1,q2,q3,q4⟩:=h4
 have k1:(u6 old).ok 5:=⟨by simp only [u6]; split <;> omega,q2,q3,by simp only [u6]; omega⟩
 have k2:(wZ old).ok 5:=⟨k1.1,q2,q3,by simp only [wZ]; split <;> omega⟩
 have k3:(Db old sv).ok 5:=⟨k1.1,q2,by simp only [Db]; split <;> omega,k2.2.2.2⟩
 refine U.sub cG ?_
 refine U.seq ?_
 refine U.rg [0,1] ?_
 refine U.lv 2 ?_
 refine U.aU ?_
 refine U.seq ?_
 refine U.seq ?_
 refine U.rg [0,1,2] ?_
 refine U.lv 3 ?_
 refine U.aU ?_
 refine U.is 52 (v':=.bool (decide (old.s=0))) rfl (rm b4 (abh (by omega))) ?_
 refine U.join (st':=KP F ⟨old,aw,sv,it,ws⟩ gd (u6 old)) rfl (λ hb h=>?_) (λ hb h=>?_) ?_
 ·refine U.rg [0,1,2] ?_
  refine U.lv 3 ?_
  refine U.aU ?_
  refine U.is 7 (v':=.int .i32 (u6 old).val) rfl (N2 o1 (by simp [u6,of_decide_eq_true hb])) ?_
  refine U.sub ?_ h
  exact bR.sub ⟨rfl,rfl,rfl,rfl,rfl,rfl,rfl,trivial⟩
 ·refine U.skip ?_
  refine U.is 7 (v':=.int .i32 (u6 old).val) rfl (by simp [u6,of_decide_eq_false hb]) ?_
  refine U.sub ?_ h
  exact bR.sub ⟨rfl,rfl,rfl,rfl,rfl,rfl,rfl,trivial⟩
 refine U.seq ?_
 refine U.seq ?_
 refine U.rg [0,1,2] ?_
 refine U.lv 3 ?_
 refine U.aU ?_
 refine U.is 57 (v':=.bool (decide (old.l=1∨old.s=1))) rfl (BP b5 (abi (by omega))) ?_
 refine U.join (st':=KP F ⟨old,aw,sv,it,ws⟩ gd (wZ old)) rfl (λ hb h=>?_) (λ hb h=>?_) ?_
 ·refine U.rg [0,1,2] ?_
  refine U.lv 3 ?_
  refine U.aU ?_
  have e:(u6 old).val+8=(wZ old).val:=by simp only [wZ,u6,Wd.val,of_decide_eq_true hb,if_true]; omega
  have f:=Wd.fit k1
  refine U.is 7 (v':=.int .i32 (wZ old).val) rfl (by rw [← e]; exact congrArg _ (wrap_i32 (by omega) (by omega))) ?_
  refine U.sub ?_ h
  exact bR.sub ⟨rfl,rfl,rfl,rfl,rfl,rfl,rfl,trivial⟩
 ·refine U.skip ?_
  refine U.is 7 (v':=.int .i32 (wZ old).val) rfl (by simp only [wZ,of_decide_eq_false hb,if_false]; rfl) ?_
  refine U.sub ?_ h
  exact bR.sub ⟨rfl,rfl,rfl,rfl,rfl,rfl,rfl,trivial⟩
 refine U.seq ?_
 refine U.seq ?_
 refine U.rg [0,1,2,3,4,5] ?_
 refine U.mid (K:=?K) ((65,.bool (decide (sv=true∧old.l=1)))::KP F ⟨old,aw,sv,it,ws⟩ gd (wZ old)) ?h1 ?h2
 case h1 =>
  intro h
  cases sv
  ·refine U.lv 6 ?_
   refine U.aU ?_
   refine h _ ?_
   exact bR.sub ⟨rfl,rfl,rfl,rfl,rfl,rfl,rfl,rfl,trivial⟩
  ·refine U.lv 5 ?_
   refine U.is 64 (v':=.bool (decide (true=true∧old.l=1))) rfl (BP b1 (abi (by simp; omega))) ?_
   refine U.lv 1 ?_
   refine U.aU ?_
   refine h _ ?_
   exact bR.sub ⟨rfl,rfl,rfl,rfl,rfl,rfl,rfl,rfl,trivial⟩
 refine U.join (st':=KP F ⟨old,aw,sv,it,ws⟩ gd (Db old sv)) rfl (λ hb h=>?_) (λ hb h=>?_) ?_
 ·refine U.rg [0,1,2] ?_
  refine U.lv 3 ?_
  refine U.aU ?_
  have o:=(Wd.td k2).2.2.2.2.2.2.2.2.1
  refine U.is 7 (v':=.int .i32 (Db old sv).val) rfl (N2 o (by simp only [Db,of_decide_eq_true hb,and_self,if_true])) ?_
  refine U.sub ?_ h
  exact bR.sub ⟨rfl,rfl,rfl,rfl,rfl,rfl,rfl,trivial⟩
 ·refine U.skip ?_
  refine U.is 7 (v':=.int .i32 (Db old sv).val) rfl (by simp only [Db,of_decide_eq_false hb,if_false]; rfl) ?_
  refine U.sub ?_ h
  exact bR.sub ⟨rfl,rfl,rfl,rfl,rfl,rfl,rfl,trivial⟩
 refine U.seq ?_
 refine U.seq ?_
 refine U.rg [0] ?_
 refine U.lv 1 ?_
 refine U.aU ?_
 refine U.join (st':=KP F ⟨old,aw,sv,it,ws⟩ gd (nw ⟨old,aw,sv,it,ws⟩)) rfl (λ hb h=>?_) (λ hb h=>?_) ?_
 ·dsimp only at hb
  subst hb
  obtain ⟨_,a2,_,_,_,_,_,_,_,mS,_⟩:=Wd.td k3
  refine U.seq ?_
  refine U.seq ?_
  refine U.rg [0,1,2] ?_
  refine U.lv 3 ?_
  refine U.aU ?_
  have hw1:=wh rfl
  refine U.is 71 (v':=.bool false) rfl (rm a2 (by rw [beq_eq_false_iff_ne]; show ¬ (2 * (old.w:Int)=0); omega)) ?_
  refine U.eF rfl rfl ?_
  refine U.skip ?_
  refine U.rg [0,1,2] ?_
  refine U.lv 3 ?_
  refine U.aU ?_
  refine U.is 7 (v':=.int .i32 (nw ⟨old,true,sv,it,ws⟩).val) rfl (N2 mS rfl) ?_
  refine U.sub ?_ h
  exact bR.sub ⟨rfl,rfl,rfl,rfl,rfl,rfl,rfl,trivial⟩
 ·dsimp only at hb
  subst hb
  refine U.skip ?_
  refine U.is 7 (v':=.int .i32 (nw ⟨old,false,sv,it,ws⟩).val) rfl rfl ?_
  refine U.sub ?_ h
  exact bR.sub ⟨rfl,rfl,rfl,rfl,rfl,rfl,rfl,trivial⟩
 refine U.seq ?_
 refine U.rg [0,1,2,3,4,5] ?_
 refine U.lv 5 ?_
 refine sW λ m hm=>KW.ext rfl rfl rfl rfl Nd rfl rfl λ _ w s _ bf hs _=>.inr ?_
 have uS:∀ m',m' < m→vM F k j R H fr cs m':=λ m' h'=>ih m' (Nat.lt_trans h' hm)
 by_cases dn:s.mu=old
 ·subst dn
  by_cases hf:s.mu.l=0∧s.mu.s=0
  ·
   refine ⟨.bool true,_,_,.le,_,E1 bf.cm (bf.zm 0),.SA rfl hf.1 hf.2,trivial,qu (.inl rfl),b9.mu bf,λ aZ bc=>(?_:U (WJ F m k j .le) _ _ _ _ _) aZ bc⟩
   refine U.aU ?_
   refine U.fE rfl rfl ?_
   refine U.seq ?_
   refine U.seq ?_
   refine U.rg [0,1,2] ?_
   refine U.lv 3 ?_
   refine U.aU ?_
   refine U.is 83 (v':=.bool true) rfl (rm b5 (by rw [hf.1,hf.2]; rfl)) ?_
   refine U.fE rfl rfl ?_
   refine U.exit rfl ?_
   refine U.sub ?_ (afg hk m)
   exact bR.sub ⟨rfl,trivial⟩
  ·
   have hq:s.mu.l=1∨s.mu.s=1:=by omega
   refine ⟨.bool true,_,_,if ws then .s1 ⟨s.mu,aw,sv,it,ws⟩ else .t1 ⟨s.mu,aw,sv,it,ws⟩,_,E1 bf.cm (bf.zm 0),.xF rfl hq,pd (by simp),qu (.inl rfl),b9.mu bf,λ aZ bc=>?_⟩
   by_cases hw:gd=0
   ·have e0:ws=false:=by rw [kK]; simp [hw]
    subst e0
    refine (?_:U (WJ F m k j (.t1 ⟨s.mu,aw,sv,it,false⟩)) _ _ _ _ _) aZ bc
    refine U.aU ?_
    refine U.fE rfl rfl ?_
    refine U.seq ?_
    refine U.seq ?_
    refine U.rg [0,1,2] ?_
    refine U.lv 3 ?_
    refine U.aU ?_
    refine U.is 83 (v':=.bool false) rfl (rm b5 (by rw [beq_eq_false_iff_ne]; omega)) ?_
    refine U.eF rfl rfl ?_
    refine U.skip ?_
    refine U.seq ?_
    refine U.rg [0,1,2] ?_
    refine U.lv 3 ?_
    refine U.aU ?_
    refine U.seq ?_
    refine U.seq ?_
    refine U.rg [0,1] ?_
    refine U.lv 2 ?_
    refine U.aU ?_
    refine U.is 87 (v':=.bool true) rfl (congrArg Value.bool (beq_iff_eq.2 hw)) ?_
    refine U.fE rfl rfl ?_
    refine U.rg [0,1] ?_
    refine sW λ p hp=>KW.nano hB rfl rfl rfl rfl acL (by kernel_rfl) rfl rfl ⟨by simp,by simp⟩ qt λ _ z=>?_
    refine ⟨.s1 ⟨s.mu,aw,sv,it,decide (z≠0)⟩,λ s=>.t1 _,pd (by simp),λ aZ bc=>(?_:U (WJ F p k j (.s1 ⟨s.mu,aw,sv,it,decide (z≠0)⟩)) _ _ _ _ _) aZ bc⟩
    refine U.lv 1 ?_
    refine U.aU ?_
    refine afe hB hk (q:=(gd != 0)) (λ m' h'=>uS m' (Nat.lt_trans h' hp)) rfl ?_
    exact bR.sub ⟨rfl,rfl,rfl,rfl,trivial⟩
   ·have e0:ws=true:=by rw [kK]; simp [hw]
    subst e0
    refine (?_:U (WJ F m k j (.s1 ⟨s.mu,aw,sv,it,true⟩)) _ _ _ _ _) aZ bc
    refine U.aU ?_
    refine U.fE rfl rfl ?_
    refine U.seq ?_
    refine U.seq ?_
    refine U.rg [0,1,2] ?_
    refine U.lv 3 ?_
    refine U.aU ?_
    refine U.is 83 (v':=.bool false) rfl (rm b5 (by rw [beq_eq_false_iff_ne]; omega)) ?_
    refine U.eF rfl rfl ?_
    refine U.skip ?_
    refine U.seq ?_
    refine U.rg [0,1,2] ?_
    refine U.lv 3 ?_
    refine U.aU ?_
    refine U.seq ?_
    refine U.seq ?_
    refine U.rg [0,1] ?_
    refine U.lv 2 ?_
    refine U.aU ?_
    refine U.is 87 (v':=.bool false) rfl (congrArg Value.bool (beq_eq_false_iff_ne.2 hw)) ?_
    refine U.eF rfl rfl ?_
    refine U.skip ?_
    refine afe hB hk (q:=(gd != 0)) uS kK ?_
    exact bR.sub ⟨rfl,rfl,rfl,rfl,trivial⟩
 ·
  refine ⟨.bool false,w,_,.r3 ⟨old,aw,sv,it,ws⟩,s,IF bf.cm (bf.zm 0) (λ e=>dn (Wd.val_inj hs.1 gJ e)),.SB dn,pd (by simp),xC (.inl rfl),b9.refl bf,λ aZ bc=>(?_:U (WJ F m k j (.r3 ⟨old,aw,sv,it,ws⟩)) _ _ _ _ _) aZ bc⟩
  refine U.aU ?_
  refine U.eF rfl rfl ?_
  refine U.rg [0,1,2,3,4] ?_
  refine U.lv 3 ?_
  refine sW λ p hp=>KW.look rfl rfl rfl rfl rfl Gd (by kernel_rfl) rfl ⟨by simp,by simp⟩ (λ _ h=>h) λ ot s hs=>⟨_,.r3,pd (by simp),λ aZ bc=>Oy ((?_:U (WJ F p k j (hd ⟨s.mu,aw,sv,it,ws⟩)) _ _ _ _ _) aZ bc)⟩
  refine U.lv 1 ?_
  refine U.aU ?_
  refine U.inBlock ?_
  refine U.inLoop ?_
  refine U.sub ?_ (uS p hp (⟨s.mu,aw,sv,it,ws⟩,gd) ⟨hs.1,hs.2,kK,Nt⟩)
  exact bR.sub ⟨rfl,rfl,rfl,rfl,rfl,rfl,trivial⟩
theorem aDx(hB:∀ w:World,F.B.os w.os→F.B.os w.later.os)(hk:zJ F k j R H (aX (fr.finish (iE [])) cs))(n:Nat):vM F k j R H fr cs n:=λ x hx =>
 U.head (Jn:=λ n (x:Lc × Int)=>WJ F n k j (hd x.1)) (S:=λ x=>AR F x.1 x.2) (ok:=O3 F) (λ n ih x hx=>by
  obtain ⟨⟨old,aw,sv,it,ws⟩,gd⟩:=x
  exact aDz ih hx λ m hm st cG=>aDw hB hk (λ m' h'=>ih m' (Nat.lt_of_lt_of_le h' hm)) hx cG) n x hx
end
end Go.Proofs.YtihapemckcdicaaGreatDoor
namespace Go.Proofs.YtihapemckcdicaaGreatDoor
open Go.Lg Go.Proofs Go.Conc Tryz
set_option maxRecDepth 100000
set_option maxHeartbeats 4000000
section
variable {F:Fx} {R:az} {H:an} {k j:Nat}
theorem aDy(hB:∀ w:World,F.B.os w.os→F.B.os w.later.os)(n:Nat):kV prog ((WJ F n k j .r0).J R H) (zJ F k j R H) 231 [pm F]:=kV.bn func231 rfl rfl rfl λ fr cs hk=>by
 refine U.seq ?_
 refine U.rg [0] ?_
 refine U.lv 1 ?_
 refine U.aU ?_
 refine U.seq ?_
 refine U.rg [0] ?_
 refine U.lv 1 ?_
 refine U.aU ?_
 refine U.seq ?_
 refine U.rg [0] ?_
 refine U.lv 1 ?_
 refine U.aU ?_
 refine U.seq ?_
 refine U.rg [0] ?_
 refine U.lv 1 ?_
 refine U.aU ?_
 refine U.seq ?_
 refine U.rg [0,1,2,3,4] ?_
 refine U.lv 3 ?_
 refine sW λ m hm=>KW.look rfl rfl rfl rfl rfl Gd (by kernel_rfl) rfl ⟨by simp,by simp⟩ (λ _ h=>h) λ ot s hs=>⟨_,.r0,pd (by simp),λ aZ bc=>Oy ((?_:U (WJ F m k j (hd ⟨s.mu,false,false,0,false⟩)) _ _ _ _ _) aZ bc)⟩
 refine U.lv 1 ?_
 refine U.aU ?_
 refine U.seq ?_
 refine U.block ?_
 refine U.enterLoop ?_
 refine U.sub ?_ (aDx hB hk m (⟨s.mu,false,false,0,false⟩,0) ⟨hs.1,by simp,by simp,Nat.zero_le _⟩)
 exact bR.sub ⟨rfl,rfl,rfl,rfl,rfl,rfl,trivial⟩
theorem ayG(hB:∀ w:World,F.B.os w.os→F.B.os w.later.os)(n:Nat):kV prog ((WJ F n k j .ld).J R H) (zJ F k j R H) 203 [pm F]:=kV.bn func203 rfl rfl rfl λ fr cs hk=>by
 refine U.seq ?_
 refine U.rg [0] ?_
 refine sW λ m hm=>KW.ext rfl rfl rfl rfl IJ rfl rfl λ _ w s _ bf _ _=>.inr ⟨_,w,_,.l0,s,rp (by simp),.ld,trivial,rfl,b9.refl bf,λ aZ bc=>(?_:U (WJ F m k j .l0) _ _ _ _ _) aZ bc⟩
 refine U.aU ?_
 refine U.seq ?_
 refine U.seq ?_
 refine U.rg [0,1,2,3] ?_
 refine U.lv 3 ?_
 refine sW λ p hp=>KW.ext rfl rfl rfl rfl Nd rfl rfl λ _ w s _ bf hs _=>.inr ?_
 by_cases hz:s.mu = .zero
 ·refine ⟨.bool true,_,_,.le,_,E1 (v:=0) (by have e:=bf.cm; rw [hz] at e; exact e) (bf.zm 0),.adF hz,trivial,qu (.inl rfl),b9.mu (m:=⟨1,0,0,0⟩) bf,λ aZ bc=>(?_:U (WJ F p k j .le) _ _ _ _ _) aZ bc⟩
  refine U.aU ?_
  refine U.fE rfl rfl ?_
  refine U.seq ?_
  refine U.fE rfl rfl ?_
  refine U.seq ?_
  refine U.rg [0] ?_
  refine sW λ n _=>KW.ext rfl rfl rfl rfl BX rfl rfl λ _ w s _ bf _ _=>.inr ⟨_,w,_,.lc,s,rp (by simp),.le,trivial,rfl,b9.refl bf,λ aZ bc=>(?_:U (WJ F n k j .lc) _ _ _ _ _) aZ bc⟩
  refine U.aU ?_
  refine U.rg [0,1,2] ?_
  refine U.lv 1 ?_
  refine sW λ n _=>KW.conv rfl rfl rfl rfl rfl X3 rfl R5 ⟨by simp,by simp⟩ qt (λ _=>.lc) trivial λ aZ bc=>(?_:U (WJ F n k j .la) _ _ _ _ _) aZ bc
  refine sW λ n _=>KW.ext rfl rfl rfl rfl Nc rfl rfl λ _ w s _ bf _ _=>.inr ⟨_,w,_,.ul λ _=>0,s,BS (λ _ _=>by simp) rfl,.la,trivial,rfl,b9.refl bf,λ aZ bc js iC=>(?_:U (WJ F n k j (.ul js)) _ _ _ _ _) aZ bc⟩
  refine U.aU ?_
  exact U.qx func203 rfl (hk n js iC) (.inr ⟨_,rfl⟩)
 ·refine ⟨.bool false,w,_,.r0,s,IF bf.cm (bf.zm 0) (λ e=>hz (Wd.val_inj hs.1 (N':=0) ⟨Nat.zero_le _,Nat.zero_le _,Nat.zero_le _,Nat.le_refl _⟩ e)),.adE hz,trivial,xC (.inl rfl),b9.refl bf,λ aZ bc=>(?_:U (WJ F p k j .r0) _ _ _ _ _) aZ bc⟩
  refine U.aU ?_
  refine U.eF rfl rfl ?_
  refine U.skip ?_
  refine U.rg [0,1] ?_
  refine U.lv 1 ?_
  refine U.wT rfl rfl rfl rfl rfl anR rfl (aDy hB p) λ aZ bc n js iC=>(?_:U (WJ F n k j (.ul js)) _ _ _ _ _) aZ bc
  refine U.aU ?_
  exact U.qx func203 rfl (hk n js iC) (.inl rfl)
theorem azE(hB:∀ w:World,F.B.os w.os→F.B.os w.later.os)(n:Nat):kV prog ((WJ F n k j .ld).J R H) (zJ F k j R H) 173 [pm F]:=kV.bn func173 rfl rfl rfl λ fr cs hk=>by
 refine U.rg [0,1,2,3] ?_
 refine U.lv 3 ?_
 refine U.wT rfl rfl rfl rfl rfl anJ rfl (ayG hB n) λ aZ bc n js iC=>(?_:U (WJ F n k j (.ul js)) _ _ _ _ _) aZ bc
 refine U.aU ?_
 exact U.qx func173 rfl (hk n js iC) (.inl rfl)
def RX(F:Fx)(k j:Nat)(R:az)(H:an)(g:Goroutine):Prop:=∀ n,Own prog F.B false (KW (FT F) n k j .ue) R H g
def RY(F:Fx)(k j:Nat)(R:az)(H:an)(g:Goroutine):Prop:=(j < F.J→∀ n,Own prog F.B false (KW (FT F) n k j .ld) R H g)∧(j=F.J→∀ n,Own prog F.B false (KW (FT F) n k j .wv) R H g)
theorem agn{m:Wd}(h:m.ok 5)(hl:m.l=0):IntKind.i32.wrap (m.val+1)=Wd.val { m with l:=1 }:=by
 have:=Wd.fit h
 rw [wrap_i32 (by omega) (by omega)]; simp only [Wd.val,hl]; omega
theorem aE7{m:Wd}(h:m.ok 5)(_:m.w=0)(hn:m.n≠0):IntKind.i32.wrap (m.val - 8)=Wd.val { m with n:=m.n - 1 }∧Wd.ok 5 { m with n:=m.n - 1 }:=by
 have:=Wd.fit h
 obtain ⟨h1,h2,h3,h4⟩:=h
 refine ⟨?_,h1,h2,h3,by simp only; omega⟩
 rw [wrap_i32 (by omega) (by omega)]; simp only [Wd.val]; omega
theorem aE5{m:Wd}(h:m.ok 5)(hl:m.l=1):IntKind.i32.wrap (m.val + -1)=Wd.val { m with l:=0 }:=by
 have:=Wd.fit h
 rw [wrap_i32 (by omega) (by omega)]; simp only [Wd.val,hl]; omega
theorem afE{s:Sh}{w:World}(bf:fA (FT F) s w)(h0:s.ms=0):b9 (FT F) { s with ms:=s.ms+1 } w (w.setCell ⟨F.bm,1,none⟩ (.int .u32 (IntKind.u32.wrap ((s.ms:Int)+1)))):=by
 rw [wrap_u32 (by omega) (by omega)]
 exact b9.ms bf
theorem aEi{m:Wd}(h5:m.ok 5)(hl:m.l=0)(rB:m.s=1)(n:Nat):kV prog ((WJ F n k j .us).J R H) (RX F k j R H) 233 [pm F,.int .i32 m.val]:=kV.bn func233 rfl rfl rfl λ fr cs hk=>by
 have e1:=agn h5 hl
 have d5:Wd.ok 5 { m with l:=1 }:=⟨Nat.le_refl _,h5.2.1,h5.2.2.1,h5.2.2.2⟩
 refine U.seq ?_
 refine U.seq ?_
 refine U.rg [0,1,2,3] ?_
 refine U.lv 2 ?_
 refine U.is 6 (v':=.int .i32 (Wd.val { m with l:=1 })) rfl (congrArg _ e1) ?_
 refine U.lv 2 ?_
 refine U.aU ?_
 refine U.is 8 (v':=.bool false) rfl (rm (Wd.td d5).1 rfl) ?_
 refine U.eF rfl rfl ?_
 refine U.skip ?_
 refine U.seq ?_
 refine U.rg [0,1,2] ?_
 refine U.lv 3 ?_
 refine U.aU ?_
 refine U.is 12 (v':=.bool false) rfl (rm (Wd.td h5).2.2.2.1 (by rw [rB]; rfl)) ?_
 refine U.eF rfl rfl ?_
 refine U.rg [0,1,2,3] ?_
 refine U.lv 3 ?_
 refine sW λ m hm=>KW.ext rfl rfl rfl rfl acM rfl rfl λ _ w s _ bf hs _=>.inr ⟨_,_,_,.ue,_,S5 rfl bf.MP (bf.zm 1),.us,trivial,Io (.inl rfl),afE bf hs.2,λ aZ bc=>(?_:U (WJ F m k j .ue) _ _ _ _ _) aZ bc⟩
 refine U.aU ?_
 exact U.qx func233 rfl (hk m) (.inl rfl)
noncomputable def adW:Code:=(wS (Tryz.f233.body.getD .skip)).getD .skip
theorem aEj{fr:Frame}{cs:List Frame}{todo:List Item}(hk:RX F k j R H (aX (fr.finish (iE [])) cs))(n:Nat)(m:Wd)(hm:m.ok F.N) :
  U (WJ F n k j (hu m)) ⟨233,.normal,none,43,[],fr::cs⟩ R H [(0,pm F),(4,.int .i32 m.val)] (.code adW :: .inLoop adW::todo):=by
 have hN:=F.hN
 refine U.head (Jn:=λ n (m:Wd)=>WJ F n k j (hu m)) (S:=λ m=>[(0,pm F),(4,.int .i32 m.val)]) (ok:=λ m=>m.ok F.N) (λ n ih m hm=>?_) n m hm
 have h5:m.ok 5:=AI hm (by omega)
 have s3:=(Wd.td h5).2.2.2.2.2.2.2.2.2.2
 have b7:=(Wd.td h5).2.2.2.2.2.1
 have rC:m.val.fdiv (2 ^ (min (3:Int).toNat IntKind.i32.bits))=(m.n:Int):=by simpa [kU] using s3
 refine U.block ?_
 refine U.seq ?_
 refine U.seq ?_
 refine U.rg [0,1,2,3,4,5,6,7] ?_
 refine U.lv 4 ?_
 by_cases hn:m.n=0
 ·rw [show hu m = .ue from if_pos (.inl hn)]
  refine U.is 17 (v':=.bool true) rfl (congrArg Value.bool (by show (m.val.fdiv (2 ^ (min (3:Int).toNat IntKind.i32.bits)) == 0)=true; rw [rC,hn]; rfl)) ?_
  refine U.lv 4 ?_
  refine U.aU ?_
  refine U.fE rfl rfl ?_
  exact U.qx func233 rfl (hk n) (.inr ⟨_,rfl⟩)
 refine U.is 17 (v':=.bool false) rfl (congrArg Value.bool (by show (m.val.fdiv (2 ^ (min (3:Int).toNat IntKind.i32.bits)) == 0)=false; rw [rC,beq_eq_false_iff_ne]; omega)) ?_
 refine U.lv 3 ?_
 obtain ⟨q1,q2,q3,q4⟩:=h5
 by_cases hx:m.l=1∨m.w=1∨m.s=1
 ·rw [show hu m = .ue from if_pos (.inr hx)]
  refine U.is 20 (v':=.bool true) rfl (BP b7 (by rw [bne_iff_ne]; omega)) ?_
  refine U.lv 1 ?_
  refine U.aU ?_
  refine U.fE rfl rfl ?_
  exact U.qx func233 rfl (hk n) (.inr ⟨_,rfl⟩)
 rw [show hu m = .uc m from if_neg (by simp only [hn,false_or]; exact hx)]
 obtain ⟨e8,k8⟩:=aE7 ⟨q1,q2,q3,q4⟩ (by omega) hn
 refine U.is 20 (v':=.bool false) rfl (BP b7 (by rw [bne_eq_false_iff_eq]; omega)) ?_
 refine U.lv 1 ?_
 refine U.aU ?_
 refine U.eF rfl rfl ?_
 refine U.skip ?_
 refine U.seq ?_
 refine U.rg [0,1,2,3] ?_
 refine U.lv 2 ?_
 refine U.is 23 (v':=.int .i32 (Wd.val { m with n:=m.n - 1 })) rfl (congrArg _ e8) ?_
 refine U.lv 2 ?_
 refine U.aU ?_
 refine U.is 1 (v':=.int .i32 (Wd.val { m with w:=1,n:=m.n - 1 })) rfl (N2 (Wd.td k8).2.2.2.2.2.2.2.1 rfl) ?_
 refine U.seq ?_
 refine U.seq ?_
 refine U.rg [0,1,2,3,4,5] ?_
 refine U.lv 5 ?_
 refine sW λ p hp=>KW.ext rfl rfl rfl rfl Nd rfl rfl λ _ w s _ bf hs _=>.inr ?_
 by_cases dn:s.mu=m
 ·subst dn
  refine ⟨.bool true,_,_,.us,_,E1 bf.cm (bf.zm 0),.afC rfl,trivial,qu (.inl rfl),b9.mu bf,λ aZ bc=>(?_:U (WJ F p k j .us) _ _ _ _ _) aZ bc⟩
  refine U.aU ?_
  refine U.fE rfl rfl ?_
  refine U.seq ?_
  refine U.rg [0,1,2,3] ?_
  refine U.lv 3 ?_
  refine sW λ q hq=>KW.ext rfl rfl rfl rfl acM rfl rfl λ _ w s _ bf hs _=>.inr ⟨_,_,_,.ue,_,S5 rfl bf.MP (bf.zm 1),.us,trivial,Io (.inl rfl),afE bf hs.2,λ aZ bc=>(?_:U (WJ F q k j .ue) _ _ _ _ _) aZ bc⟩
  refine U.aU ?_
  exact U.qx func233 rfl (hk q) (.inr ⟨_,rfl⟩)
 ·refine ⟨.bool false,w,_,.ux,s,IF bf.cm (bf.zm 0) (λ e=>dn (Wd.val_inj hs.1 hm e)),.X1 dn,trivial,xC (.inl rfl),b9.refl bf,λ aZ bc=>(?_:U (WJ F p k j .ux) _ _ _ _ _) aZ bc⟩
  refine U.aU ?_
  refine U.eF rfl rfl ?_
  refine U.skip ?_
  refine U.rg [0,1,2,3,4] ?_
  refine U.lv 3 ?_
  refine sW λ q hq=>KW.look rfl rfl rfl rfl rfl Gd (by kernel_rfl) rfl ⟨by simp,by simp⟩ (λ _ h=>h) λ ot s hs=>⟨_,.ux,pd (by simp),λ aZ bc=>aes ((?_:U (WJ F q k j (hu s.mu)) _ _ _ _ _) aZ bc)⟩
  refine U.lv 1 ?_
  refine U.aU ?_
  refine U.inBlock ?_
  refine U.inLoop ?_
  refine U.sub ?_ (ih q (Nat.lt_trans hq hp) s.mu hs.1)
  exact bR.sub ⟨rfl,rfl,trivial⟩
theorem aEk{m:Wd}(hm:m.ok F.N)(hl:m.l=0)(Fj:m.s=0)(n:Nat):kV prog ((WJ F n k j (hu m)).J R H) (RX F k j R H) 233 [pm F,.int .i32 m.val]:=kV.bn func233 rfl rfl rfl λ fr cs hk=>by
 have hN:=F.hN
 have h5:m.ok 5:=AI hm (by omega)
 have e1:=agn h5 hl
 have d5:Wd.ok 5 { m with l:=1 }:=⟨Nat.le_refl _,h5.2.1,h5.2.2.1,h5.2.2.2⟩
 refine U.seq ?_
 refine U.seq ?_
 refine U.rg [0,1,2,3] ?_
 refine U.lv 2 ?_
 refine U.is 6 (v':=.int .i32 (Wd.val { m with l:=1 })) rfl (congrArg _ e1) ?_
 refine U.lv 2 ?_
 refine U.aU ?_
 refine U.is 8 (v':=.bool false) rfl (rm (Wd.td d5).1 rfl) ?_
 refine U.eF rfl rfl ?_
 refine U.skip ?_
 refine U.seq ?_
 refine U.rg [0,1,2] ?_
 refine U.lv 3 ?_
 refine U.aU ?_
 refine U.is 12 (v':=.bool true) rfl (rm (Wd.td h5).2.2.2.1 (by rw [Fj]; rfl)) ?_
 refine U.fE rfl rfl ?_
 refine U.seq ?_
 refine U.rg [0,1] ?_
 refine U.lv 2 ?_
 refine U.aU ?_
 refine U.block ?_
 refine U.enterLoop ?_
 refine U.sub ?_ (aEj hk n m hm)
 exact bR.sub ⟨rfl,rfl,trivial⟩
end
end Go.Proofs.YtihapemckcdicaaGreatDoor
namespace Go.Proofs.YtihapemckcdicaaGreatDoor
open Go.Lg Go.Proofs Go.Conc Tryz
set_option maxRecDepth 100000
set_option maxHeartbeats 4000000
section
variable {F:Fx} {R:az} {H:an} {k j:Nat}
noncomputable def am0:Code:=match Tryz.f204.body with | some (.seq _ (.seq _ (.seq _ z)))=>z | _=>.skip
theorem WN{fr:Frame}{cs:List Frame}{st:St}(hj:j≤F.J)(hk:RY F k j R H (aX (fr.finish (iE [])) cs))(n:Nat):U (WJ F n k j .ue) ⟨204,.normal,none,21,[],fr::cs⟩ R H st [.code am0]:=by
 refine U.rg [0] ?_
 refine sW λ m hm=>KW.ext rfl rfl rfl rfl BX rfl rfl λ _ w s _ bf _ _=>.inr ?_
 by_cases h:j < F.J
 ·refine ⟨_,w,_,.ld,s,rp (by simp),.Pb,h,rfl,b9.refl bf,λ aZ bc=>(?_:U (WJ F m k j .ld) _ _ _ _ _) aZ bc⟩
  refine U.aU ?_
  exact U.qx func204 rfl (hk.1 h m) (.inl rfl)
 ·have h':j=F.J:=by omega
  refine ⟨_,w,_,.wv,s,rp (by simp),.Pd,h',rfl,b9.refl bf,λ aZ bc=>(?_:U (WJ F m k j .wv) _ _ _ _ _) aZ bc⟩
  refine U.aU ?_
  exact U.qx func204 rfl (hk.2 h' m) (.inl rfl)
theorem ayK{js:Nat→Nat}(hj:j+1≤F.J)(n:Nat):kV prog ((WJ F n k j (.ul js)).J R ((F.bo,F.cont (gn js k (j+1)))::H)) (RY F k (j+1) R H) 204 [pm F]:=kV.bn func204 rfl rfl rfl λ fr cs hk=>by
 have hN:=F.hN
 refine U.seq ?_
 refine U.fE rfl rfl ?_
 refine U.seq ?_
 refine U.rg [0,1,2,3] ?_
 refine U.lv 3 ?_
 refine sW λ m hm=>KW.look rfl rfl rfl rfl rfl Gd (by kernel_rfl) rfl ⟨by simp,by simp⟩ (λ _ h=>h) λ ot s hs=>⟨.uv js,.ul,pd (by simp),λ aZ bc=>(?_:U (WJ F m k j (.uv js)) _ _ _ _ _) aZ bc⟩
 refine U.aU ?_
 refine U.seq ?_
 refine U.rg [0,1,2] ?_
 refine U.lv 1 ?_
 refine sW λ m hm=>KW.conv rfl rfl rfl rfl rfl X3 rfl R5 ⟨by simp,by simp⟩ qt (λ _=>.uv) trivial λ aZ bc=>(?_:U (WJ F m k j (.ur js)) _ _ _ _ _) aZ bc
 refine sW λ m hm=>KW.ext rfl rfl rfl rfl acH rfl rfl λ _ w s _ bf _ _=>.inr ⟨_,w,_,.ud,s,BS (λ _ _=>by simp) rfl,.ur,trivial,rfl,b9.refl bf,λ aZ bc=>⟨js,H,rfl,rfl,(?_:U (WJ F m k (j+1) .ud) _ _ _ _ _) aZ bc⟩⟩
 refine U.aU ?_
 refine U.rg [0] ?_
 refine sW λ m hm=>KW.ext rfl rfl rfl rfl IJ rfl rfl λ _ w s _ bf _ _=>.inr ⟨_,w,_,.u0,s,rp (by simp),.ud,trivial,rfl,b9.refl bf,λ aZ bc=>(?_:U (WJ F m k (j+1) .u0) _ _ _ _ _) aZ bc⟩
 refine U.aU ?_
 refine U.seq ?_
 refine U.rg [0,1,2,3,4] ?_
 refine U.lv 3 ?_
 refine sW λ m hm=>KW.ext rfl rfl rfl rfl acK rfl rfl λ _ w s _ bf hs _=>.inr ?_
 obtain ⟨gJ,hl⟩:=hs
 have h5:s.mu.ok 5:=AI gJ (show (FT F).N≤5 from Nat.le_trans hN (by omega))
 have e:=aE5 h5 hl
 have k5:Wd.ok F.N { s.mu with l:=0 }:=⟨Nat.zero_le _,gJ.2.1,gJ.2.2.1,gJ.2.2.2⟩
 by_cases rB:s.mu.s=1
 ·refine ⟨_,_,_,.us,_,zW bf.cm (bf.zm 0),.u0h rB,trivial,qu (.inl rfl),by rw [e]; exact b9.mu bf,λ aZ bc=>(?_:U (WJ F m k (j+1) .us) _ _ _ _ _) aZ bc⟩
  refine U.lv 1 ?_
  refine U.aU ?_
  refine U.is 2 (v':=.int .i32 (Wd.val { s.mu with l:=0 })) rfl (congrArg _ e) ?_
  refine U.seq ?_
  refine U.seq ?_
  refine U.rg [0,1] ?_
  refine U.lv 2 ?_
  refine U.aU ?_
  refine U.is 16 (v':=.bool true) rfl (congrArg Value.bool (by rw [bne_iff_ne]; simp only [Wd.val]; omega)) ?_
  refine U.fE rfl rfl ?_
  refine U.rg [0,1,2] ?_
  refine U.lv 2 ?_
  refine U.wT rfl rfl rfl rfl rfl acf rfl (aEi (m:={ s.mu with l:=0 }) ⟨Nat.zero_le _,h5.2.1,h5.2.2.1,h5.2.2.2⟩ rfl rB m) λ aZ bc n=>(?_:U (WJ F n k (j+1) .ue) _ _ _ _ _) aZ bc
  refine U.aU ?_
  exact WN hj hk n
 have Fj:s.mu.s=0:=by have:=gJ.2.2.1; omega
 by_cases hz:s.mu.w=0∧s.mu.s=0∧s.mu.n=0
 ·refine ⟨_,_,_,.ue,_,zW bf.cm (bf.zm 0),.u0z hz.1 hz.2.1 hz.2.2,trivial,qu (.inl rfl),by rw [e]; exact b9.mu bf,λ aZ bc=>(?_:U (WJ F m k (j+1) .ue) _ _ _ _ _) aZ bc⟩
  refine U.lv 1 ?_
  refine U.aU ?_
  refine U.is 2 (v':=.int .i32 (Wd.val { s.mu with l:=0 })) rfl (congrArg _ e) ?_
  refine U.seq ?_
  refine U.seq ?_
  refine U.rg [0,1] ?_
  refine U.lv 2 ?_
  refine U.aU ?_
  refine U.is 16 (v':=.bool false) rfl (congrArg Value.bool (by rw [bne_eq_false_iff_eq]; simp only [Wd.val]; omega)) ?_
  refine U.eF rfl rfl ?_
  refine U.skip ?_
  exact WN hj hk m
 ·refine ⟨_,_,_,hu { s.mu with l:=0 },_,zW bf.cm (bf.zm 0),.yM hz Fj,pd (by simp),qu (.inl rfl),by rw [e]; exact b9.mu bf,λ aZ bc=>aes ((?_:U (WJ F m k (j+1) (hu { s.mu with l:=0 })) _ _ _ _ _) aZ bc)⟩
  refine U.lv 1 ?_
  refine U.aU ?_
  refine U.is 2 (v':=.int .i32 (Wd.val { s.mu with l:=0 })) rfl (congrArg _ e) ?_
  refine U.seq ?_
  refine U.seq ?_
  refine U.rg [0,1] ?_
  refine U.lv 2 ?_
  refine U.aU ?_
  refine U.is 16 (v':=.bool true) rfl (congrArg Value.bool (by rw [bne_iff_ne]; simp only [Wd.val]; omega)) ?_
  refine U.fE rfl rfl ?_
  refine U.rg [0,1,2] ?_
  refine U.lv 2 ?_
  refine U.wT rfl rfl rfl rfl rfl acf rfl (aEk k5 rfl Fj m) λ aZ bc n=>(?_:U (WJ F n k (j+1) .ue) _ _ _ _ _) aZ bc
  refine U.aU ?_
  exact WN hj hk n
theorem aEe{js:Nat→Nat}(hj:j+1≤F.J)(n:Nat):kV prog ((WJ F n k j (.ul js)).J R ((F.bo,F.cont (gn js k (j+1)))::H)) (RY F k (j+1) R H) 174 [pm F]:=kV.bn func174 rfl rfl rfl λ fr cs hk=>by
 refine U.rg [0,1,2,3] ?_
 refine U.lv 3 ?_
 refine U.wT rfl rfl rfl rfl rfl anK rfl (ayK hj n) λ aZ bc=>⟨λ h n=>(?_:U (WJ F n k (j+1) .ld) _ _ _ _ _) aZ bc,λ h n=>(?_:U (WJ F n k (j+1) .wv) _ _ _ _ _) aZ bc⟩
 ·refine U.aU ?_
  exact U.qx func174 rfl (hk.1 h n) (.inl rfl)
 ·refine U.aU ?_
  exact U.qx func174 rfl (hk.2 h n) (.inl rfl)
end
end Go.Proofs.YtihapemckcdicaaGreatDoor
namespace Go.Proofs.YtihapemckcdicaaGreatDoor
open Go.Lg Go.Proofs Go.Conc Go.ConcN Tryz
set_option maxRecDepth 100000
set_option maxHeartbeats 4000000
section
variable {F:Fx} {R:az} {H:an} {k j:Nat}
abbrev pw(F:Fx):Value:=.pointer (some (aw F))
noncomputable abbrev TQ (F:Fx) (n k j:Nat) (T:Lp) (R:az) (H:an):=toJ prog (KW (FT F) n k j T R H)
theorem sQ{c:Ctx}{st:St}{todo:List Item}{n:Nat}{T:Lp}(h:∀ m,m < n→∀ tmps,cM c.n st tmps→KW (FT F) (m+1) k j T R H (aX (aV c tmps todo) c.cs)):aH (TQ F n k j T R H) c st todo:=λ tmps ht=>by
 cases n with
 | zero=>exact ⟨0,trivial⟩
 | succ n=>exact ⟨0,h n (Nat.lt_succ_self n) tmps ht⟩
def Gone(g:Goroutine):Prop:=∃ q,QuitsD prog q 0 g
theorem GG(s:Sh):y5 s=4294967296 * (s.v:Int)+s.w:=rfl
theorem amU{s:Sh}{w:World}(bf:fA (FT F) s w)(h0:s.ws=0):b9 (FT F) { s with ws:=s.ws+1 } w (w.setCell (rh F) (.int .u32 (IntKind.u32.wrap ((s.ws:Int)+1)))):=by
 rw [wrap_u32 (by omega) (by omega)]
 exact b9.ws bf
theorem aaK{n:Nat}{st:St}{fr:Frame}{cs:List Frame}{todo:List Item}{args:Array Value}(hk:Gone (aX (fr.finish (iE [])) cs))(hm:todo=[]∨∃ k,todo = .code .ret::k):aH (yB prog 1) ⟨169,.normal,none,n,[dcall 192 args],fr::cs⟩ st todo:=by
 have key:∀ tmps todo,cM n st tmps→(yB prog 1).Q (aX (jv ⟨169,.normal,none,n,[dcall 192 args],fr::cs⟩ tmps todo) (fr::cs)):=λ tmps todo ht =>
  aCE rfl BX (QJ.back (J:=yB prog 0) func169 ht rfl hk)
 rcases hm with rfl | ⟨k,rfl⟩
 ·exact aH.SS rfl λ tmps ht=>key tmps _ ht
 ·exact aH.ret rfl λ tmps ht=>key tmps _ ht
noncomputable def F8:Code:=match Tryz.f169.body with | some (.seq _ (.seq _ (.seq _ (.seq _ z))))=>z | _=>.skip
noncomputable def amH:Code:=match F8 with | .seq _ (.seq _ (.seq _ (.seq _ (.seq _ (.seq _ (.seq (.seq _ x) _))))))=>x | _=>.skip
noncomputable def r27:Code:=match F8 with | .seq _ (.seq _ (.seq _ (.seq _ (.seq _ (.seq _ (.seq _ y))))))=>y | _=>.skip
theorem MB{b:Option Int}{z y:Int}{p:Bool}(h:b=some z)(hp:(z != y)=p):Value.bool (b.getD 0 != y) = .bool p:=by rw [h]; exact congrArg _ hp
theorem aaL{J:QJ prog}{c:Ctx}{st:St}{kk:List Item}{v w:Nat}(hc:c.kind = .normal)(hn:c.n=117)(hv:v≤5)(hw:w≤1)(cG:aI st [(0,pw F),(1,.int .i64 (-1)),(4,.bool false),(6,.int .u64 (4294967296 * (v:Int)+w))])
  (h:aH J c [(0,pw F),(4,.bool false),(6,.int .u64 (4294967296 * (v:Int)+w)),(8,.int .u32 w),(94,.bool (decide (0 < v∨w=0)))] (.code amH :: .code r27::kk)):aH J c st (.code F8::kk):=by
 obtain ⟨f,kind,ro,n,ds,cs⟩:=c
 dsimp only at hc hn
 subst hc hn
 obtain ⟨g1,g2,g3⟩:=Yn hv hw
 have gs:(4294967296 * (v:Int)+w).fdiv (2 ^ (min (32:Int).toNat IntKind.u64.bits))=(v:Int):=by simpa [kU] using g3
 refine aH.sub cG ?_
 refine aH.seq ?_
 refine aH.seq ?_
 refine aH.rg [0,1,2,3,4,5,6] ?_
 refine aH.lv 4 ?_
 refine aH.is 47 (v':=.bool false) rfl (MB g1 rfl) ?_
 refine aH.lv 3 ?_
 refine aH.aU ?_
 refine aH.eF rfl ?_
 refine aH.skip ?_
 refine aH.seq ?_
 refine aH.rg [0,1,2,3] ?_
 refine aH.lv 4 ?_
 refine aH.aU ?_
 refine aH.is 7 (v':=.int .i32 (v:Int)) rfl (congrArg _ (by
  show IntKind.i32.wrap ((4294967296 * (v:Int)+w).fdiv (2 ^ (min (32:Int).toNat IntKind.u64.bits)))=_
  rw [gs,wrap_i32 (by omega) (by omega)])) ?_
 refine aH.seq ?_
 refine aH.rg [0,1,2,3] ?_
 refine aH.lv 4 ?_
 refine aH.aU ?_
 refine aH.is 8 (v':=.int .u32 (w:Int)) rfl (congrArg _ (by rw [g2,Option.getD_some]; exact wrap_u32 (by omega) (by omega))) ?_
 refine aH.seq ?_
 refine aH.seq ?_
 refine aH.rg [0,1,2,3,4,5,6,7,8,9] ?_
 refine aH.lv 5 ?_
 refine aH.is 62 (v':=.bool false) rfl (congrArg Value.bool (by decide)) ?_
 refine aH.lv 5 ?_
 refine aH.aU ?_
 refine aH.eF rfl ?_
 refine aH.skip ?_
 refine aH.seq ?_
 refine aH.seq ?_
 refine aH.rg [0,1] ?_
 refine aH.lv 2 ?_
 refine aH.aU ?_
 refine aH.is 74 (v':=.bool false) rfl (congrArg Value.bool (by rw [decide_eq_false_iff_not]; omega)) ?_
 refine aH.eF rfl ?_
 refine aH.skip ?_
 refine aH.seq ?_
 refine aH.seq ?_
 refine aH.rg [0,1,2,3,4,5,6,7,8,9,10,11] ?_
 refine aH.lv 3 ?_
 rcases (show w=0∨w=1 by omega) with rfl | rfl
 ·refine aH.is 78 (v':=.bool false) rfl rfl ?_
  refine aH.lv 9 ?_
  refine aH.aU ?_
  refine aH.eF rfl ?_
  refine aH.skip ?_
  refine aH.seq ?_
  refine aH.seq ?_
  refine aH.rg [0,1,2,3,4,5] ?_
  refine aH.lv 3 ?_
  by_cases h0:0 < v
  ·refine aH.is 91 (v':=.bool true) rfl (congrArg Value.bool (by rw [decide_eq_true_iff]; omega)) ?_
   refine aH.lv 3 ?_
   refine aH.aU ?_
   refine aH.is 94 (v':=.bool (decide (0 < v∨0=0))) rfl (congrArg Value.bool (by simp [h0])) ?_
   refine aH.sub ?_ h
   exact bR.sub ⟨rfl,rfl,rfl,rfl,rfl,trivial⟩
  ·refine aH.is 91 (v':=.bool false) rfl (congrArg Value.bool (by rw [decide_eq_false_iff_not]; omega)) ?_
   refine aH.lv 3 ?_
   refine aH.aU ?_
   refine aH.is 94 (v':=.bool (decide (0 < v∨0=0))) rfl (congrArg Value.bool (by simp [h0])) ?_
   refine aH.sub ?_ h
   exact bR.sub ⟨rfl,rfl,rfl,rfl,rfl,trivial⟩
 ·refine aH.is 78 (v':=.bool true) rfl rfl ?_
  refine aH.lv 3 ?_
  refine aH.is 81 (v':=.bool false) rfl (congrArg Value.bool (by decide)) ?_
  refine aH.lv 6 ?_
  refine aH.aU ?_
  refine aH.eF rfl ?_
  refine aH.skip ?_
  refine aH.seq ?_
  refine aH.seq ?_
  refine aH.rg [0,1,2,3,4,5] ?_
  refine aH.lv 3 ?_
  by_cases h0:0 < v
  ·refine aH.is 91 (v':=.bool true) rfl (congrArg Value.bool (by rw [decide_eq_true_iff]; omega)) ?_
   refine aH.lv 3 ?_
   refine aH.aU ?_
   refine aH.is 94 (v':=.bool (decide (0 < v∨1=0))) rfl (congrArg Value.bool (by simp [h0])) ?_
   refine aH.sub ?_ h
   exact bR.sub ⟨rfl,rfl,rfl,rfl,rfl,trivial⟩
  ·refine aH.is 91 (v':=.bool false) rfl (congrArg Value.bool (by rw [decide_eq_false_iff_not]; omega)) ?_
   refine aH.lv 3 ?_
   refine aH.aU ?_
   refine aH.is 94 (v':=.bool (decide (0 < v∨1=0))) rfl (congrArg Value.bool (by simp [h0])) ?_
   refine aH.sub ?_ h
   exact bR.sub ⟨rfl,rfl,rfl,rfl,rfl,trivial⟩
theorem aEZ(n:Nat):kV prog ((WJ F n k j .wv).J R H) Gone 169 [pw F,.int .i64 (-1)]:=kV.bn func169 rfl rfl rfl λ fr cs hk=>by
 have hN:=F.hN
 refine U.seq ?_
 refine U.fE rfl rfl ?_
 refine U.seq ?_
 refine U.seq ?_
 refine U.rg [0,1] ?_
 refine U.lv 2 ?_
 refine U.aU ?_
 refine U.fE rfl (by decide) ?_
 refine U.rg [0,1,2] ?_
 refine U.lv 1 ?_
 refine sW λ m hm=>KW.conv rfl rfl rfl rfl rfl X2 rfl R6 ⟨by simp,by simp⟩ qt (λ _=>.wv) trivial λ aZ bc=>(?_:U (WJ F m k j .wr) _ _ _ _ _) aZ bc
 refine sW λ m hm=>KW.ext rfl rfl rfl rfl acH rfl rfl λ _ w s _ bf _ _=>.inr ⟨_,w,_,.wk,s,BS (λ _ _=>by simp) rfl,.wr,trivial,rfl,b9.refl bf,λ aZ bc=>(?_:aH (TQ F m k j .wk R H) _ _ _) aZ bc⟩
 refine aH.aU ?_
 refine aH.seq ?_
 refine aH.rg [0] ?_
 refine sQ λ m hm=>KW.ext rfl rfl rfl rfl IJ rfl rfl λ _ w s _ bf _ _=>.inr ⟨_,w,_,.d1,s,rp (by simp),.wk,trivial,rfl,b9.refl bf,λ aZ bc=>(?_:aH (TQ F m k j .d1 R H) _ _ _) aZ bc⟩
 refine aH.aU ?_
 refine aH.rg [0] ?_
 refine aH.defer rfl rfl rfl rfl rfl rfl rfl (.Oz rfl) ?_
 refine aH.aU ?_
 refine aH.seq ?_
 refine aH.rg [0] ?_
 refine aH.lv 1 ?_
 refine aH.aU ?_
 refine aH.seq ?_
 refine aH.seq ?_
 refine aH.rg [0] ?_
 refine aH.ext rfl rfl rfl rfl rfl acI rfl (λ w=>S4) (.put rfl) ?_
 refine aH.aU ?_
 refine aH.eF rfl ?_
 refine aH.skip ?_
 refine aH.seq ?_
 refine aH.rg [0,1,2,3,4,5,6,7] ?_
 refine aH.lv 6 ?_
 refine aH.is 42 (v':=.int .u64 18446744069414584320) rfl (congrArg _ (by decide +kernel)) ?_
 refine aH.enter rfl rfl rfl rfl rfl func197 (by decide +kernel) rfl rfl rfl λ afz ye=>?_
 refine aH.seq ?_
 refine aH.rg [0] ?_
 refine aH.lv 1 ?_
 refine aH.aU ?_
 refine aH.seq ?_
 refine aH.rg [0,1,2,3,4,5] ?_
 refine aH.lv 4 ?_
 refine sQ λ m hm=>KW.ext rfl rfl rfl rfl acJ rfl rfl λ _ w s _ bf _ mG=>.inr ?_
 obtain ⟨v1,v2,w1⟩:=mG
 have v2':s.v≤F.N:=v2
 have ev:IntKind.u64.wrap (y5 s+18446744069414584320)=4294967296 * ((s.v - 1:Nat):Int)+s.w:=by rw [GG,aFd (by omega) (by omega)]; omega
 by_cases hq:s.v≠1∨s.w=0
 ·refine ⟨_,_,_,.quit,_,zW bf.cg (bf.zg 0),.ID hq,trivial,qu (.inr rfl),by rw [ev]; exact b9.wg bf,λ aZ bc=>(?_:aH (yB prog 1) _ _ _) aZ bc⟩
  refine aH.lv 1 ?_
  refine aH.is 4 (v':=.int .u64 (4294967296 * ((s.v - 1:Nat):Int)+s.w)) rfl (congrArg _ ev) ?_
  refine aH.aU ?_
  refine aH.ret rfl λ tmps ht=>QJ.back (J:=yB prog 1) (vs:=[.int .u64 (4294967296 * ((s.v - 1:Nat):Int)+s.w)]) func197 ht rfl (aH.resume (c':=⟨0,.normal,none,0,[],_⟩) rfl ye rfl (.put rfl) ?_ rfl)
  refine aH.lv 1 ?_
  refine aH.aU ?_
  refine aaL (F:=F) (v:=s.v - 1) (w:=s.w) rfl rfl (by omega) w1 ?_ ?_
  ·exact bR.sub ⟨rfl,rfl,rfl,rfl,trivial⟩
  ·refine aH.is 94 (v':=.bool true) rfl (congrArg Value.bool (by rw [decide_eq_true_iff]; omega)) ?_
   refine aH.fE rfl ?_
   exact aaK hk (.inr ⟨_,rfl⟩)
 ·have h1:s.v=1:=by omega
  have h2:s.w=1:=by omega
  refine ⟨_,_,_,.d2,_,zW bf.cg (bf.zg 0),.SP h1 h2,trivial,qu (.inr rfl),by rw [ev,h1]; exact b9.wg bf,λ aZ bc=>(?_:aH (TQ F m k j .d2 R H) _ _ _) aZ bc⟩
  refine aH.lv 1 ?_
  refine aH.is 4 (v':=.int .u64 (4294967296 * ((0:Nat):Int)+((1:Nat):Int))) rfl (congrArg _ (by rw [ev,h1,h2])) ?_
  refine aH.aU ?_
  refine aH.ret rfl λ tmps ht=>QJ.back (J:=TQ F m k j .d2 R H) (vs:=[.int .u64 (4294967296 * ((0:Nat):Int)+((1:Nat):Int))]) func197 ht rfl (aH.resume (c':=⟨0,.normal,none,0,[],_⟩) rfl ye rfl (.put rfl) ?_ rfl)
  refine aH.lv 1 ?_
  refine aH.aU ?_
  refine aaL (F:=F) (v:=0) (w:=1) rfl rfl (by omega) (by omega) ?_ ?_
  ·exact bR.sub ⟨rfl,rfl,rfl,rfl,trivial⟩
  refine aH.is 94 (v':=.bool false) rfl rfl ?_
  refine aH.eF rfl ?_
  refine aH.skip ?_
  refine aH.seq ?_
  refine aH.seq ?_
  refine aH.rg [0,1,2,3,4,5] ?_
  refine aH.lv 3 ?_
  refine aH.enter rfl rfl rfl rfl rfl func199 (by decide +kernel) rfl rfl rfl λ aD9 NL=>?_
  refine aH.seq ?_
  refine aH.rg [0] ?_
  refine aH.lv 1 ?_
  refine aH.aU ?_
  refine aH.seq ?_
  refine aH.rg [0,1,2,3,4] ?_
  refine aH.lv 3 ?_
  refine sQ λ m hm=>KW.ext rfl rfl rfl rfl Tc rfl rfl λ _ w s _ bf _ mG=>.inr ⟨_,_,_,.d3,_,M6 bf.cg,.d2,trivial,xC (.inr rfl),b9.refl bf,λ aZ bc=>(?_:aH (TQ F m k j .d3 R H) _ _ _) aZ bc⟩
  obtain ⟨g1,g2⟩:=mG
  refine aH.lv 1 ?_
  refine aH.is 2 (v':=.int .u64 (4294967296 * ((0:Nat):Int)+((1:Nat):Int))) rfl (congrArg _ (by rw [GG,g1,g2])) ?_
  refine aH.aU ?_
  refine aH.ret rfl λ tmps ht=>QJ.back (J:=TQ F m k j .d3 R H) (vs:=[.int .u64 (4294967296 * ((0:Nat):Int)+((1:Nat):Int))]) func199 ht rfl (aH.resume (c':=⟨0,.normal,none,0,[],_⟩) rfl NL rfl (.put rfl) ?_ rfl)
  refine aH.lv 2 ?_
  refine aH.aU ?_
  refine aH.is 100 (v':=.bool false) rfl rfl ?_
  refine aH.eF rfl ?_
  refine aH.skip ?_
  refine aH.seq ?_
  refine aH.rg [0,1,2,3] ?_
  refine aH.lv 3 ?_
  refine aH.enter rfl rfl rfl rfl rfl func200 (by decide +kernel) rfl rfl rfl λ aEa V3=>?_
  refine aH.rg [0,1,2,3,4] ?_
  refine aH.lv 4 ?_
  refine sQ λ m hm=>KW.ext rfl rfl rfl rfl ao7 rfl rfl λ _ w s _ bf _ mG=>.inr ⟨_,_,_,.d4,_,aof bf.cg (bf.zg 0),.d3,trivial,al3 (.inr rfl),b9.wg (v:=0) (u:=0) bf,λ aZ bc=>(?_:aH (TQ F m k j .d4 R H) _ _ _) aZ bc⟩
  refine aH.aU ?_
  refine aH.SS rfl λ tmps ht=>QJ.back (J:=TQ F m k j .d4 R H) (vs:=[]) func200 ht rfl (aH.resume (c':=⟨0,.normal,none,0,[],_⟩) rfl V3 rfl (.put rfl) ?_ rfl)
  refine aH.aU ?_
  refine aH.seq ?_
  refine aH.seq ?_
  refine aH.rg [0] ?_
  refine aH.lv 1 ?_
  refine aH.aU ?_
  refine aH.eF rfl ?_
  refine aH.skip ?_
  refine aH.block ?_
  refine aH.enterLoop ?_
  refine aH.seq ?_
  refine aH.seq ?_
  refine aH.rg [0,1] ?_
  refine aH.lv 2 ?_
  refine aH.aU ?_
  refine aH.is 110 (v':=.bool true) rfl rfl ?_
  refine aH.fE rfl ?_
  refine aH.skip ?_
  refine aH.seq ?_
  refine aH.block ?_
  refine aH.rg [0,1,2,3] ?_
  refine aH.lv 3 ?_
  refine sQ λ m hm=>KW.ext rfl rfl rfl rfl ao4 rfl rfl λ _ w s _ bf _ mG=>.inr ⟨_,_,_,.quit,_,S5 rfl bf.MN (bf.zg 1),.d4,trivial,Io (.inr rfl),amU bf mG,λ aZ bc=>(?_:aH (yB prog 1) _ _ _) aZ bc⟩
  refine aH.aU ?_
  refine aH.inBlock ?_
  refine aH.rg [0,1,2] ?_
  refine aH.lv 3 ?_
  refine aH.aU ?_
  refine aH.is 8 (v':=.int .u32 0) rfl rfl ?_
  refine aH.inLoop ?_
  refine aH.seq ?_
  refine aH.seq ?_
  refine aH.rg [0,1] ?_
  refine aH.lv 2 ?_
  refine aH.aU ?_
  refine aH.is 110 (v':=.bool false) rfl rfl ?_
  refine aH.eF rfl ?_
  refine aH.exit rfl ?_
  exact aaK hk (.inl rfl)
theorem amR{fr:Frame}{cs:List Frame}(sf:fr.mode = .returning∨fr.mode = .panicking [goexitEntry])(hk:Gone (aX fr cs))(n:Nat):(WJ F n k j .wv).J R H (aX (Frame.enter prog 171 #[pw F] .deferred) (fr::cs)):=by
 refine Jd.enter (args:=[pw F]) func171 rfl rfl rfl ?_
 refine U.rg [0,1] ?_
 refine U.lv 1 ?_
 refine U.wT rfl rfl rfl rfl rfl acd rfl (aEZ n) λ aZ bc=>(?_:aH (yB prog 0) _ _ _) aZ bc
 refine aH.aU ?_
 exact aH.SS rfl λ tmps ht=>QJ.abe (J:=yB prog 0) func171 ht rfl sf hk
end
section
variable {P:Program} {B:Base} {main:Bool} {af:Jd P B main} {c:Ctx} {R:az} {H:an} {st st':St} {k:List Item} {ops:Array Oper} {i:Nat} {rest:List Nat} {o:Oper} {v:Value}
theorem U.N3{f:FuncId}{fn:Func}{body:Code}{xs:Array Operand}{iQ:Array TypeId}{vs:List Value}{n:Nat}(ho:ops[i]? = some o)(hw:cE ops st o=some true)(hk:(c.kind == CallKind.early)=false)(au:o.op = .call ⟨.value (.func f),xs,iQ⟩)(ha:ji st xs.toList=some vs)
  (hf:P.funcs[f]? = some fn) (Jq:(fn.name == "runtime.NumGoroutine")=false) (hb:fn.body=some body) (rA:fn.ntmps=n) (hn:Nat.ble vs.length n=true)
  (h:∀ tmps,cM c.n st tmps→U af ⟨f,.normal,none,n,[],aV c tmps (.inRegion ops (i::rest)::k)::c.cs⟩ R H (vR 0 vs) [.code body]):U af c R H st (.inRegion ops (i::rest)::k):=λ tmps ht=>by
 have hv:ai P (execOp (aV c tmps (.inRegion ops (i::rest)::k)).eval o) (.enter f vs.toArray):=by
  rw [E5 au ht ha]
  exact DC hf Jq (by rw [hb]; rfl)
 refine Jd.ctl rfl (λ w=>?_) (Jd.enter hf hb rA hn (h tmps ht))
 rw [qc ho (kO ht hw) (by rw [au]; rfl),Il rfl (by simpa [aV] using hk) (hv w).1,(hv w).2]
 rfl
theorem U.Dh{tmps:Array Value}{f:FuncId}{fn:Func}{n:Nat}{vs:List Value}{stf:St}{kf:List Item}(hf:P.funcs[f]? = some fn)(hr:yE stf fn.results.toList=some vs)(ho:ops[i]? = some o)(ht:cM c.n st tmps)(hd:bT o.dst c.n)(hs:aI (bU o.dst (iE vs) st) st')(h:U af c R H st' (.inRegion ops rest::k)) :
  U af ⟨f,.normal,none,n,[],aV c tmps (.inRegion ops (i::rest)::k)::c.cs⟩ R H stf (.code .ret::kf) :=
 U.X0 rfl λ aZ bc=>Jd.back hf bc hr (by rw [qz ho]; exact h _ ((ht.put _ hd).sub hs))
end
end Go.Proofs.YtihapemckcdicaaGreatDoor
namespace Go.Proofs.YtihapemckcdicaaGreatDoor
open Go.Lg Go.Proofs Go.Conc Go.ConcN Tryz
set_option maxRecDepth 100000
set_option maxHeartbeats 4000000
section
variable {F:Fx} {R:az} {H:an}
noncomputable abbrev gk (F:Fx) (n:Nat) (T:Mp):=KT prog F.B true (KM (FT F) n T)
theorem sM{c:Ctx}{st:St}{todo:List Item}{n:Nat}{T:Mp}(h:∀ m,m < n→∀ tmps,cM c.n st tmps→KM (FT F) (m+1) T R H (aX (aV c tmps todo) c.cs)):U (gk F n T) c R H st todo:=U.aDZ (F:=FT F) h
def AdK(F:Fx)(r:Nat)(R:az)(H:an)(g:Goroutine):Prop:=∀ n,Own prog F.B true (KM (FT F) n (.go r)) R H g
noncomputable def t22:Code:=match F8 with | .seq _ (.seq _ (.seq _ (.seq _ y)))=>y | _=>.skip
noncomputable def amG:Code:=match F8 with | .seq _ (.seq _ (.seq _ (.seq (.seq _ x) _)))=>x | _=>.skip
theorem aek{r:Nat}{fr:Frame}{cs:List Frame}{args:Array Value}{st:St}{v:Nat}(hk:AdK F r R H (aX (fr.finish (iE [])) cs))(h1:1≤v)(h5:v≤5)(cG:aI st [(0,pw F),(1,.int .i64 1),(7,.int .i32 (v:Int)),(8,.int .u32 0)])(n:Nat) :
  U (gk F n (.ke r)) ⟨169,.normal,none,117,[dcall 192 args],fr::cs⟩ R H st [.code t22]:=by
 refine U.sub cG ?_
 refine U.seq ?_
 refine U.seq ?_
 refine U.rg [0,1] ?_
 refine U.lv 2 ?_
 refine U.aU ?_
 refine U.is 74 (v':=.bool false) rfl (congrArg Value.bool (by rw [decide_eq_false_iff_not]; omega)) ?_
 refine U.eF rfl rfl ?_
 refine U.skip ?_
 refine U.seq ?_
 refine U.seq ?_
 refine U.rg [0,1,2,3,4,5,6,7,8,9,10,11] ?_
 refine U.lv 3 ?_
 refine U.is 78 (v':=.bool false) rfl rfl ?_
 refine U.lv 9 ?_
 refine U.aU ?_
 refine U.eF rfl rfl ?_
 refine U.skip ?_
 refine U.seq ?_
 refine U.seq ?_
 refine U.rg [0,1,2,3,4,5] ?_
 refine U.lv 3 ?_
 refine U.is 91 (v':=.bool true) rfl (congrArg Value.bool (by rw [decide_eq_true_iff]; omega)) ?_
 refine U.lv 3 ?_
 refine U.aU ?_
 refine U.fE rfl rfl ?_
 refine U.X0 rfl λ tmps ht=>?_
 cases n with
 | zero=>exact Own.stop _ _ _ _ trivial
 | succ n=>exact Own.stop _ _ _ _ (KM.unwind (F:=FT F) rfl BX (Jd.back (af:=gk F n (.go r)) func169 ht rfl (hk n)))
theorem aBl(r n:Nat):kV prog ((gk F n (.ka r)).J R H) (AdK F r R H) 169 [pw F,.int .i64 1]:=kV.bn func169 rfl rfl rfl λ fr cs hk=>by
 have hN:=F.hN
 refine U.seq ?_
 refine U.fE rfl rfl ?_
 refine U.seq ?_
 refine U.seq ?_
 refine U.rg [0,1] ?_
 refine U.lv 2 ?_
 refine U.aU ?_
 refine U.eF rfl (by decide) ?_
 refine U.skip ?_
 refine U.seq ?_
 refine U.rg [0] ?_
 refine sM λ m hm=>KM.ext rfl rfl rfl rfl IJ rfl rfl (by simp) (by simp) λ w s _ bf _=>.inr ⟨_,w,_,.kc r,s,rp (by simp),.ka,rfl,b9.refl bf,λ aZ bc=>(?_:U (gk F m (.kc r)) _ _ _ _ _) aZ bc⟩
 refine U.aU ?_
 refine U.rg [0] ?_
 refine U.defer rfl rfl rfl rfl rfl rfl rfl (.Oz rfl) ?_
 refine U.aU ?_
 refine U.seq ?_
 refine U.rg [0] ?_
 refine U.lv 1 ?_
 refine U.aU ?_
 refine U.seq ?_
 refine U.seq ?_
 refine U.rg [0] ?_
 refine U.ext rfl rfl rfl rfl rfl acI rfl (λ w=>S4) (.put rfl) ?_
 refine U.aU ?_
 refine U.eF rfl rfl ?_
 refine U.skip ?_
 refine U.seq ?_
 refine U.rg [0,1,2,3,4,5,6,7] ?_
 refine U.lv 6 ?_
 refine U.is 42 (v':=.int .u64 4294967296) rfl (congrArg _ (by decide +kernel)) ?_
 refine U.N3 rfl rfl rfl rfl rfl func197 (by decide +kernel) rfl rfl rfl λ afz ye=>?_
 refine U.seq ?_
 refine U.rg [0] ?_
 refine U.lv 1 ?_
 refine U.aU ?_
 refine U.seq ?_
 refine U.rg [0,1,2,3,4,5] ?_
 refine U.lv 4 ?_
 refine sM λ m hm=>KM.ext rfl rfl rfl rfl acJ rfl rfl (by simp) (by simp) λ w s _ bf mG=>.inr ?_
 obtain ⟨w0,v1⟩:=mG
 have v1':s.v+1≤F.N:=v1
 have ev:IntKind.u64.wrap (y5 s+4294967296)=4294967296 * ((s.v+1:Nat):Int)+((0:Nat):Int):=by rw [GG,agt (by omega) (by omega)]; omega
 obtain ⟨g1,g2,g3⟩:=Yn (v:=s.v+1) (w:=0) (by omega) (by omega)
 have gs:(4294967296 * ((s.v+1:Nat):Int)+((0:Nat):Int)).fdiv (2 ^ (min (32:Int).toNat IntKind.u64.bits))=((s.v+1:Nat):Int):=by simpa [kU] using g3
 have agq:b9 (FT F) { s with v:=s.v+1 } w (w.setCell (aw F) (.int .u64 (IntKind.u64.wrap (y5 s+4294967296)))):=by
  rw [ev]; have:=b9.wg (F:=FT F) (v:=s.v+1) (u:=0) bf
  rw [show ({ s with v:=s.v+1 }:Sh)={ s with v:=s.v+1,w:=0 } by rw [← w0]]; exact this
 have go:∀ (T:Mp) (hT:U (gk F m T) ⟨169,.normal,none,117,[dcall 192 #[]],fr::cs⟩ R H [(0,pw F),(1,.int .i64 1),(7,.int .i32 ((s.v+1:Nat):Int)),(8,.int .u32 0),(67,.bool (decide (s.v+1=1)))] [.code amG,.code t22]) (st:St),
   aI st [(0,pw F),(1,.int .i64 1),(4,.bool false),(6,.int .u64 (4294967296 * ((s.v+1:Nat):Int)+((0:Nat):Int)))]→U (gk F m T) ⟨169,.normal,none,117,[dcall 192 #[]],fr::cs⟩ R H st [.code F8]:=by
  intro T hT st cG
  refine U.sub cG ?_
  refine U.seq ?_
  refine U.seq ?_
  refine U.rg [0,1,2,3,4,5,6] ?_
  refine U.lv 4 ?_
  refine U.is 47 (v':=.bool false) rfl (MB g1 rfl) ?_
  refine U.lv 3 ?_
  refine U.aU ?_
  refine U.eF rfl rfl ?_
  refine U.skip ?_
  refine U.seq ?_
  refine U.rg [0,1,2,3] ?_
  refine U.lv 4 ?_
  refine U.aU ?_
  refine U.is 7 (v':=.int .i32 ((s.v+1:Nat):Int)) rfl (congrArg _ (by
   show IntKind.i32.wrap ((4294967296 * ((s.v+1:Nat):Int)+((0:Nat):Int)).fdiv (2 ^ (min (32:Int).toNat IntKind.u64.bits)))=_
   rw [gs,wrap_i32 (by omega) (by omega)])) ?_
  refine U.seq ?_
  refine U.rg [0,1,2,3] ?_
  refine U.lv 4 ?_
  refine U.aU ?_
  refine U.is 8 (v':=.int .u32 0) rfl (congrArg _ (by rw [g2,Option.getD_some]; exact wrap_u32 (by omega) (by omega))) ?_
  refine U.seq ?_
  refine U.seq ?_
  refine U.rg [0,1,2,3,4,5,6,7,8,9] ?_
  refine U.lv 5 ?_
  refine U.is 62 (v':=.bool true) rfl (congrArg Value.bool (by decide)) ?_
  refine U.lv 4 ?_
  refine U.is 66 (v':=.bool (decide (s.v+1=1))) rfl (congrArg Value.bool (abh (by rw [wrap_i32 (by omega) (by omega)]; omega))) ?_
  refine U.lv 1 ?_
  refine U.aU ?_
  refine U.sub ?_ hT
  exact bR.sub ⟨rfl,rfl,rfl,rfl,rfl,trivial⟩
 by_cases hv:s.v=0
 ·refine ⟨_,_,_,.kv r,{ s with v:=1 },zW bf.cg (bf.zg 0),.kc1 hv,qu (.inr rfl),by have:=agq; simp only [hv] at this; exact this,λ aZ bc=>(?_:U (gk F m (.kv r)) _ _ _ _ _) aZ bc⟩
  refine U.lv 1 ?_
  refine U.is 4 (v':=.int .u64 (4294967296 * ((s.v+1:Nat):Int)+((0:Nat):Int))) rfl (congrArg _ ev) ?_
  refine U.aU ?_
  refine U.Dh func197 rfl rfl ye rfl (.put rfl) ?_
  refine U.lv 1 ?_
  refine U.aU ?_
  refine go _ ?_ _ ?_
  ·refine U.fE rfl (by rw [decide_eq_true_iff]; omega) ?_
   refine U.rg [0,1,2,3,4] ?_
   refine U.lv 3 ?_
   refine sM λ m hm=>KM.conv rfl rfl rfl rfl rfl afD rfl aa3 (by simp) (by simp) qt (λ _=>.kv) λ aZ bc=>(?_:U (gk F m (.kd r)) _ _ _ _ _) aZ bc
   refine sM λ m hm=>KM.ext rfl rfl rfl rfl ao3 rfl rfl (by simp) (by simp) λ w s1 _ Ck _=>.inr ⟨_,w,_,.ke r,s1,BS (λ _ _=>by simp) rfl,.kd,rfl,b9.refl Ck,λ aZ bc=>(?_:U (gk F m (.ke r)) _ _ _ _ _) aZ bc⟩
   refine U.aU ?_
   refine aek hk (v:=s.v+1) (by omega) (by omega) ?_ m
   exact bR.sub ⟨rfl,rfl,rfl,rfl,trivial⟩
  ·exact bR.sub ⟨rfl,rfl,rfl,rfl,trivial⟩
 ·refine ⟨_,_,_,.ke r,_,zW bf.cg (bf.zg 0),.kcn hv,qu (.inr rfl),agq,λ aZ bc=>(?_:U (gk F m (.ke r)) _ _ _ _ _) aZ bc⟩
  refine U.lv 1 ?_
  refine U.is 4 (v':=.int .u64 (4294967296 * ((s.v+1:Nat):Int)+((0:Nat):Int))) rfl (congrArg _ ev) ?_
  refine U.aU ?_
  refine U.Dh func197 rfl rfl ye rfl (.put rfl) ?_
  refine U.lv 1 ?_
  refine U.aU ?_
  refine go _ ?_ _ ?_
  ·refine U.eF rfl (by rw [decide_eq_false_iff_not]; omega) ?_
   refine U.skip ?_
   refine aek hk (v:=s.v+1) (by omega) (by omega) ?_ m
   exact bR.sub ⟨rfl,rfl,rfl,rfl,trivial⟩
  ·exact bR.sub ⟨rfl,rfl,rfl,rfl,trivial⟩
end
end Go.Proofs.YtihapemckcdicaaGreatDoor
namespace Go.Proofs.YtihapemckcdicaaGreatDoor
open Go.Lg Go.Proofs Go.Conc Go.ConcN Tryz
set_option maxRecDepth 100000
set_option maxHeartbeats 4000000
section
variable {F:Fx} {R:az} {H:an} {Post:Value→World→Prop}
def WtK(F:Fx)(R:az)(H:an)(g:Goroutine):Prop:=∀ js,(∀ k,k < F.N→js k=F.J)→F.mj R ((F.bo,F.cont js)::H) g
noncomputable def adV:Code:=(wS (Tryz.f175.body.getD .skip)).getD .skip
abbrev aE0(fr:Frame)(cs:List Frame):Ctx:=⟨175,.normal,none,84,[],fr::cs⟩
theorem aE1(og:F.mj=jg prog F.B Post){fr:Frame}{cs:List Frame}{todo:List Item}(hk:WtK F R H (aX (fr.finish (iE [])) cs))(n:Nat):U (gk F n .w1) (aE0 fr cs) R H [(0,pw F)] (.code adV :: .inLoop adV::todo):=by
 have hN:=F.hN
 refine U.head (X:=Unit) (Jn:=λ n _=>gk F n .w1) (S:=λ _=>[(0,pw F)]) (ok:=λ _=>True) (λ n ih _ _=>?_) n () trivial
 refine U.block ?_
 refine U.seq ?_
 refine U.rg [0,1,2,3,4] ?_
 refine U.lv 3 ?_
 refine U.N3 rfl rfl rfl rfl rfl func199 (by decide +kernel) rfl rfl rfl λ afz ye=>?_
 refine U.seq ?_
 refine U.rg [0] ?_
 refine U.lv 1 ?_
 refine U.aU ?_
 refine U.seq ?_
 refine U.rg [0,1,2,3,4] ?_
 refine U.lv 3 ?_
 refine sM λ m hm=>KM.ext rfl rfl rfl rfl Tc rfl rfl (by simp) (by simp) λ w s _ bf mG=>.inr ?_
 obtain ⟨w0,v1⟩:=mG
 have v1':s.v≤F.N:=v1
 have ev:y5 s=4294967296 * (s.v:Int)+((0:Nat):Int):=by rw [GG,w0]
 obtain ⟨g1,g2,g3⟩:=Yn (v:=s.v) (w:=0) (by omega) (by omega)
 have gs:(4294967296 * (s.v:Int)+((0:Nat):Int)).fdiv (2 ^ (min (32:Int).toNat IntKind.u64.bits))=(s.v:Int):=by simpa [kU] using g3
 by_cases hv:s.v=0
 ·refine ⟨_,_,_,.we,s,M6 bf.cg,.w1z hv,xC (.inr rfl),b9.refl bf,λ aZ bc=>(?_:U (gk F m .we) _ _ _ _ _) aZ bc⟩
  refine U.lv 1 ?_
  refine U.is 2 (v':=.int .u64 (4294967296 * (s.v:Int)+((0:Nat):Int))) rfl (congrArg _ ev) ?_
  refine U.aU ?_
  refine U.Dh func199 rfl rfl ye rfl (.put rfl) ?_
  refine U.lv 1 ?_
  refine U.aU ?_
  refine U.seq ?_
  refine U.rg [0,1,2,3] ?_
  refine U.lv 4 ?_
  refine U.aU ?_
  refine U.is 3 (v':=.int .i32 (s.v:Int)) rfl (congrArg _ (by
   show IntKind.i32.wrap ((4294967296 * (s.v:Int)+((0:Nat):Int)).fdiv (2 ^ (min (32:Int).toNat IntKind.u64.bits)))=_
   rw [gs,wrap_i32 (by omega) (by omega)])) ?_
  refine U.seq ?_
  refine U.rg [0,1,2,3] ?_
  refine U.lv 4 ?_
  refine U.aU ?_
  refine U.is 4 (v':=.int .u32 0) rfl (congrArg _ (by rw [g2,Option.getD_some]; exact wrap_u32 (by omega) (by omega))) ?_
  refine U.seq ?_
  refine U.seq ?_
  refine U.rg [0,1] ?_
  refine U.lv 2 ?_
  refine U.aU ?_
  refine U.is 19 (v':=.bool true) rfl (congrArg Value.bool (by rw [hv]; rfl)) ?_
  refine U.fE rfl rfl ?_
  refine U.seq ?_
  refine U.fE rfl rfl ?_
  refine U.seq ?_
  refine U.rg [0] ?_
  refine sM λ m hm=>KM.ext rfl rfl rfl rfl BX rfl rfl (by simp) (by simp) λ w s1 _ Ck _=>.inr ⟨_,w,_,.qv,s1,rp (by simp),.we,rfl,b9.refl Ck,λ aZ bc=>(?_:U (gk F m .qv) _ _ _ _ _) aZ bc⟩
  refine U.aU ?_
  refine U.rg [0,1,2] ?_
  refine U.lv 1 ?_
  refine sM λ m hm=>KM.conv rfl rfl rfl rfl rfl X2 rfl R6 (by simp) (by simp) qt (λ _=>.qv) λ aZ bc=>(?_:U (gk F m .wq) _ _ _ _ _) aZ bc
  refine sM λ m hm=>KM.acq rfl rfl rfl rfl Nc rfl rfl rfl λ js iC aZ bc=>?_
  have cR:=hk js iC
  show F.mj _ _ _
  rw [og] at cR ⊢
  refine (?_:U (Da prog F.B Post) _ _ _ _ _) aZ bc
  refine U.aU ?_
  refine U.seq ?_
  refine U.seq ?_
  refine U.rg [0,1,2,3,4,5,6,7,8,9,10] ?_
  refine U.lv 2 ?_
  refine U.is 25 (v':=.bool true) rfl rfl ?_
  refine U.lv 4 ?_
  refine U.is 29 (v':=.bool false) rfl (MB g1 rfl) ?_
  refine U.lv 5 ?_
  refine U.aU ?_
  refine U.eF rfl rfl ?_
  refine U.skip ?_
  exact U.qx func175 rfl cR (.inr ⟨_,rfl⟩)
 ·refine ⟨_,_,_,.w2 s.v,s,M6 bf.cg,.w1n hv,xC (.inr rfl),b9.refl bf,λ aZ bc=>(?_:U (gk F m (.w2 s.v)) _ _ _ _ _) aZ bc⟩
  refine U.lv 1 ?_
  refine U.is 2 (v':=.int .u64 (4294967296 * (s.v:Int)+((0:Nat):Int))) rfl (congrArg _ ev) ?_
  refine U.aU ?_
  refine U.Dh func199 rfl rfl ye rfl (.put rfl) ?_
  refine U.sub (st':=[(0,pw F),(11,.int .u64 (4294967296 * (s.v:Int)+((0:Nat):Int)))]) (bR.sub ⟨rfl,rfl,trivial⟩) ?_
  clear ev bf bc ye
  generalize s.v=u at hv v1' g1 g2 g3 gs v1 ⊢
  refine U.lv 1 ?_
  refine U.aU ?_
  refine U.seq ?_
  refine U.rg [0,1,2,3] ?_
  refine U.lv 4 ?_
  refine U.aU ?_
  refine U.is 3 (v':=.int .i32 (u:Int)) rfl (congrArg _ (by
   show IntKind.i32.wrap ((4294967296 * (u:Int)+((0:Nat):Int)).fdiv (2 ^ (min (32:Int).toNat IntKind.u64.bits)))=_
   rw [gs,wrap_i32 (by omega) (by omega)])) ?_
  refine U.seq ?_
  refine U.rg [0,1,2,3] ?_
  refine U.lv 4 ?_
  refine U.aU ?_
  refine U.is 4 (v':=.int .u32 0) rfl (congrArg _ (by rw [g2,Option.getD_some]; exact wrap_u32 (by omega) (by omega))) ?_
  refine U.seq ?_
  refine U.seq ?_
  refine U.rg [0,1] ?_
  refine U.lv 2 ?_
  refine U.aU ?_
  refine U.is 19 (v':=.bool false) rfl (congrArg Value.bool (by rw [beq_eq_false_iff_ne]; omega)) ?_
  refine U.eF rfl rfl ?_
  refine U.skip ?_
  refine U.seq ?_
  refine U.rg [0,1,2,3,4,5,6] ?_
  refine U.lv 6 ?_
  refine U.is 47 (v':=.int .u64 (4294967296 * (u:Int)+((1:Nat):Int))) rfl (congrArg _ (by rw [agt (by omega) (by omega)]; omega)) ?_
  refine U.N3 rfl rfl rfl rfl rfl func207 (by decide +kernel) rfl rfl rfl λ aD9 NL=>?_
  refine U.seq ?_
  refine U.rg [0] ?_
  refine U.lv 1 ?_
  refine U.aU ?_
  refine U.seq ?_
  refine U.rg [0,1,2,3,4,5,6] ?_
  refine U.lv 5 ?_
  refine sM λ p hp=>KM.ext rfl rfl rfl rfl ao8 rfl rfl (by simp) (by simp) λ w s2 _ Jv mG=>.inr ?_
  obtain ⟨y0,y1,y2⟩:=mG
  have ev2:y5 s2=4294967296 * (s2.v:Int)+((0:Nat):Int):=by rw [GG,y0]
  have TI:=Jv.cg
  rw [ev2] at TI
  by_cases he:s2.v=u
  ·subst he
   refine ⟨.bool true,_,_,.wV,{ s2 with w:=1 },E1 TI (Jv.zg 0),.agl,qu (.inr rfl),b9.wg (v:=s2.v) (u:=1) Jv,λ aZ bc=>(?_:U (gk F p .wV) _ _ _ _ _) aZ bc⟩
   refine U.lv 1 ?_
   refine U.aU ?_
   refine U.Dh func207 rfl rfl NL rfl (.put rfl) ?_
   refine U.aU ?_
   refine U.fE rfl rfl ?_
   refine U.seq ?_
   refine U.seq ?_
   refine U.rg [0,1,2,3] ?_
   refine U.lv 3 ?_
   refine U.is 51 (v':=.bool true) rfl rfl ?_
   refine U.lv 1 ?_
   refine U.aU ?_
   refine U.fE rfl rfl ?_
   refine U.rg [0,1,2,3,4] ?_
   refine U.lv 3 ?_
   refine sM λ m hm=>KM.conv rfl rfl rfl rfl rfl afD rfl aa3 (by simp) (by simp) qt (λ _=>.wV) λ aZ bc=>(?_:U (gk F m .wW) _ _ _ _ _) aZ bc
   refine sM λ m hm=>KM.ext rfl rfl rfl rfl ao5 rfl rfl (by simp) (by simp) λ w s1 _ Ck _=>.inr ⟨_,w,_,.w3,s1,BS (λ _ _=>by simp) rfl,.wW,rfl,b9.refl Ck,λ aZ bc=>(?_:U (gk F m .w3) _ _ _ _ _) aZ bc⟩
   refine U.aU ?_
   refine U.seq ?_
   refine U.rg [0] ?_
   refine U.lv 1 ?_
   refine U.aU ?_
   refine U.seq ?_
   refine U.seq ?_
   refine U.rg [0,1,2,3,4,5] ?_
   refine U.lv 3 ?_
   refine U.is 60 (v':=.bool false) rfl (MB g1 rfl) ?_
   refine U.lv 3 ?_
   refine U.aU ?_
   refine U.eF rfl rfl ?_
   refine U.skip ?_
   refine U.seq ?_
   refine U.rg [0,1,2,3,4] ?_
   refine U.lv 4 ?_
   refine sM λ m hm=>KM.ext rfl rfl rfl rfl ao6 rfl rfl (by simp) (by simp) λ w s3 _ rC _=>?_
   cases kK:s3.ws with
   | zero=>exact .inl ⟨rfl,rfl,aaJ rfl (by have e:=rC.MN; rw [kK] at e; exact e)⟩
   | succ z =>
    have ea:((z+1:Nat):Int) - 1=(z:Int):=by omega
    refine .inr ⟨_,_,_,.w4,_,ack (n:=((z+1:Nat):Int)) rfl (by have e:=rC.MN; rw [kK] at e; exact e) (by omega) (rC.zg 1),.w3 kK,Io (.inr rfl),by rw [ea]; exact b9.ws rC,λ aZ bc=>(?_:U (gk F m .w4) _ _ _ _ _) aZ bc⟩
    refine U.aU ?_
    refine U.seq ?_
    refine U.rg [0,1,2,3,4,5] ?_
    refine U.lv 3 ?_
    refine U.N3 rfl rfl rfl rfl rfl func199 (by decide +kernel) rfl rfl rfl λ aEa V3=>?_
    refine U.seq ?_
    refine U.rg [0] ?_
    refine U.lv 1 ?_
    refine U.aU ?_
    refine U.seq ?_
    refine U.rg [0,1,2,3,4] ?_
    refine U.lv 3 ?_
    refine sM λ m hm=>KM.ext rfl rfl rfl rfl Tc rfl rfl (by simp) (by simp) λ w s4 _ ads mG=>.inr ⟨_,_,_,.we,s4,M6 ads.cg,.w4,xC (.inr rfl),b9.refl ads,λ aZ bc=>(?_:U (gk F m .we) _ _ _ _ _) aZ bc⟩
    obtain ⟨z1,z2⟩:=mG
    refine U.lv 1 ?_
    refine U.is 2 (v':=.int .u64 0) rfl (congrArg _ (by rw [GG,z1,z2]; rfl)) ?_
    refine U.aU ?_
    refine U.Dh func199 rfl rfl V3 rfl (.put rfl) ?_
    refine U.lv 2 ?_
    refine U.aU ?_
    refine U.is 6 (v':=.bool false) rfl rfl ?_
    refine U.seq ?_
    refine U.fE rfl rfl ?_
    refine U.seq ?_
    refine U.rg [0] ?_
    refine sM λ m hm=>KM.ext rfl rfl rfl rfl BX rfl rfl (by simp) (by simp) λ w s1 _ Ck _=>.inr ⟨_,w,_,.qv,s1,rp (by simp),.we,rfl,b9.refl Ck,λ aZ bc=>(?_:U (gk F m .qv) _ _ _ _ _) aZ bc⟩
    refine U.aU ?_
    refine U.rg [0,1,2] ?_
    refine U.lv 1 ?_
    refine sM λ m hm=>KM.conv rfl rfl rfl rfl rfl X2 rfl R6 (by simp) (by simp) qt (λ _=>.qv) λ aZ bc=>(?_:U (gk F m .wq) _ _ _ _ _) aZ bc
    refine sM λ m hm=>KM.acq rfl rfl rfl rfl Nc rfl rfl rfl λ js iC aZ bc=>?_
    have cR:=hk js iC
    show F.mj _ _ _
    rw [og] at cR ⊢
    refine (?_:U (Da prog F.B Post) _ _ _ _ _) aZ bc
    refine U.aU ?_
    refine U.seq ?_
    refine U.seq ?_
    refine U.rg [0] ?_
    refine U.lv 1 ?_
    refine U.aU ?_
    refine U.eF rfl rfl ?_
    refine U.skip ?_
    exact U.qx func175 rfl cR (.inr ⟨_,rfl⟩)
  ·refine ⟨.bool false,w,_,.w1,s2,IF TI (Jv.zg 0) (λ e=>he (by omega)),.agk he,xC (.inr rfl),b9.refl Jv,λ aZ bc=>(?_:U (gk F p .w1) _ _ _ _ _) aZ bc⟩
   refine U.lv 1 ?_
   refine U.aU ?_
   refine U.Dh func207 rfl rfl NL rfl (.put rfl) ?_
   refine U.aU ?_
   refine U.eF rfl rfl ?_
   refine U.skip ?_
   refine U.inBlock ?_
   refine U.inLoop ?_
   refine U.sub ?_ (ih p (Nat.lt_trans hp hm) () trivial)
   exact bR.sub ⟨rfl,trivial⟩
theorem aE2(og:F.mj=jg prog F.B Post)(n:Nat):kV prog ((gk F n .wa).J R H) (WtK F R H) 175 [pw F]:=kV.bn func175 rfl rfl rfl λ fr cs hk=>by
 refine U.seq ?_
 refine U.fE rfl rfl ?_
 refine U.rg [0] ?_
 refine sM λ m hm=>KM.ext rfl rfl rfl rfl IJ rfl rfl (by simp) (by simp) λ w s _ bf _=>.inr ⟨_,w,_,.w1,s,rp (by simp),.wa,rfl,b9.refl bf,λ aZ bc=>(?_:U (gk F m .w1) _ _ _ _ _) aZ bc⟩
 refine U.aU ?_
 refine U.block ?_
 refine U.enterLoop ?_
 refine U.sub ?_ (aE1 og hk m)
 exact bR.sub ⟨rfl,trivial⟩
end
end Go.Proofs.YtihapemckcdicaaGreatDoor
namespace Go.Lg
open Go.Conc Go.ConcN
def jO(a:Nat→Nat→Bool)(js:Nat→Nat):List Value:=(List.range 16).map λ p=>.bool (decide (p / 4 < js (p % 4)) && a (p / 4) (p % 4))
theorem aB9(a:Nat→Nat→Bool):jO a (λ _=>0)=List.replicate 16 (.bool false):=by
 simp [jO,List.range,List.range.loop,List.replicate]
theorem Xw{a:Nat→Nat→Bool}{js:Nat→Nat}{p:Nat}(hp:p < 16):(jO a js)[p]? = some (.bool (decide (p / 4 < js (p % 4)) && a (p / 4) (p % 4))):=by
 simp [jO,hp]
theorem aB8{a:Nat→Nat→Bool}{js:Nat→Nat}{k j:Nat}(hk:k < 4)(_:j < 4)(iC:js k=j):jO a (gn js k (j+1))=(jO a js).set (4 * j+k) (.bool (a j k)):=by
 have hl:∀ js,(jO a js).length=16:=λ js=>by simp [jO]
 apply List.ext_getElem?
 intro p
 rcases Nat.lt_or_ge p 16 with hp | hp
 ·rw [Xw hp,List.getElem?_set,Xw hp]
  by_cases e:4 * j+k=p
  ·subst e
   rw [if_pos rfl,if_pos (by rw [hl]; omega)]
   have e1:(4 * j+k) / 4=j:=by omega
   have e2:(4 * j+k) % 4=k:=by omega
   rw [e1,e2,ti]
   simp
  ·rw [if_neg e]
   by_cases e2:p % 4=k
   ·have e3:p / 4≠j:=by omega
    rw [e2,ti,iC]
    have:decide (p / 4 < j+1)=decide (p / 4 < j):=by
     by_cases h:p / 4 < j
     ·simp [h]; omega
     ·simp [h]; omega
    rw [this]
   ·rw [tf e2]
 ·rw [List.getElem?_eq_none (by rw [hl]; exact hp),List.getElem?_eq_none (by rw [List.length_set,hl]; exact hp)]
end Go.Lg
