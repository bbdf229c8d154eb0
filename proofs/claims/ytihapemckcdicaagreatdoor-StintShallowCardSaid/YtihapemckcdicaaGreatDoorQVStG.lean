/- What sync does, walked for the machine. Conditions: none. -/
import Derived.Test.YtihapemckcdicaaGreatDoorQVLgE
import Derived.Test.YtihapemckcdicaaGreatDoorQVStF
namespace Go.Proofs.YtihapemckcdicaaGreatDoor
open Go.Lg Go.Proofs Go.Conc Tryz
set_option maxRecDepth 100000
theorem acg:gd prog 190 (Extern.Race.marked .releaseMerge):=⟨⟨Tryz.f190,func190,by kernel_rfl,by kernel_rfl,by kernel_rfl,by kernel_rfl⟩⟩
theorem HL:gd prog 191 (λ _=>do mark .disable; pure Extern.Race.none_):=⟨⟨Tryz.f191,func191,by kernel_rfl,by kernel_rfl,by kernel_rfl,by kernel_rfl⟩⟩
theorem Bl:gd prog 192 (λ _=>do mark .enable; pure Extern.Race.none_):=⟨⟨Tryz.f192,func192,by kernel_rfl,by kernel_rfl,by kernel_rfl,by kernel_rfl⟩⟩
theorem ach:gd prog 193 (λ _=>pure (.bool false)):=⟨⟨Tryz.f193,func193,by kernel_rfl,by kernel_rfl,by kernel_rfl,by kernel_rfl⟩⟩
theorem anf:gd prog 198 (Extern.Race.marked .read):=⟨⟨Tryz.f198,func198,by kernel_rfl,by kernel_rfl,by kernel_rfl,by kernel_rfl⟩⟩
theorem ang:gd prog 202 Extern.Sync.semrelease:=⟨⟨Tryz.f202,func202,by kernel_rfl,by kernel_rfl,by kernel_rfl,by kernel_rfl⟩⟩
theorem Mz:gd prog 205 (Extern.Race.marked .acquire):=⟨⟨Tryz.f205,func205,by kernel_rfl,by kernel_rfl,by kernel_rfl,by kernel_rfl⟩⟩
theorem anh:gd prog 208 (Extern.Race.marked .write):=⟨⟨Tryz.f208,func208,by kernel_rfl,by kernel_rfl,by kernel_rfl,by kernel_rfl⟩⟩
theorem ani:gd prog 209 Extern.Sync.semacquire:=⟨⟨Tryz.f209,func209,by kernel_rfl,by kernel_rfl,by kernel_rfl,by kernel_rfl⟩⟩
theorem aci:gd prog 227 (Extern.Atomic.update (Op.intArith .add) .u64 true):=⟨⟨Tryz.f227,func227,by kernel_rfl,by kernel_rfl,by kernel_rfl,by kernel_rfl⟩⟩
theorem RU:gd prog 228 (Extern.Atomic.loadT (.int .u64)):=⟨⟨Tryz.f228,func228,by kernel_rfl,by kernel_rfl,by kernel_rfl,by kernel_rfl⟩⟩
theorem anj:gd prog 229 Extern.Atomic.storeT:=⟨⟨Tryz.f229,func229,by kernel_rfl,by kernel_rfl,by kernel_rfl,by kernel_rfl⟩⟩
theorem MA:gd prog 230 (Extern.Atomic.casT (.int .i32)):=⟨⟨Tryz.f230,func230,by kernel_rfl,by kernel_rfl,by kernel_rfl,by kernel_rfl⟩⟩
theorem acj:gd prog 232 (Extern.Atomic.update (Op.intArith .add) .i32 true):=⟨⟨Tryz.f232,func232,by kernel_rfl,by kernel_rfl,by kernel_rfl,by kernel_rfl⟩⟩
theorem ank:gd prog 234 (Extern.Atomic.casT (.int .u64)):=⟨⟨Tryz.f234,func234,by kernel_rfl,by kernel_rfl,by kernel_rfl,by kernel_rfl⟩⟩
theorem anl:gd prog 241 Extern.Sync.canSpin:=⟨⟨Tryz.f241,func241,by kernel_rfl,by kernel_rfl,by kernel_rfl,by kernel_rfl⟩⟩
theorem anm:gd prog 242 Extern.Sync.nothing:=⟨⟨Tryz.f242,func242,by kernel_rfl,by kernel_rfl,by kernel_rfl,by kernel_rfl⟩⟩
theorem ack:gd prog 244 Extern.OsHooks.nano:=⟨⟨Tryz.f244,func244,by kernel_rfl,by kernel_rfl,by kernel_rfl,by kernel_rfl⟩⟩
theorem ann:gd prog 245 Extern.Sync.semacquire:=⟨⟨Tryz.f245,func245,by kernel_rfl,by kernel_rfl,by kernel_rfl,by kernel_rfl⟩⟩
theorem acm:gd prog 247 Extern.Sync.semrelease:=⟨⟨Tryz.f247,func247,by kernel_rfl,by kernel_rfl,by kernel_rfl,by kernel_rfl⟩⟩
def kiT:Nat→Option IntKind
 | 2 | 3=>some .i64
 | 21=>some .i32
 | 190=>some .u32
 | 197=>some .u64
 | _=>none
instance:sU prog:=⟨kiT,λ t k h=>by
 unfold kiT at h
 split at h
 ·cases h; exact underlying2
 ·cases h; exact underlying3
 ·cases h; exact underlying21
 ·cases h; exact underlying190
 ·cases h; exact underlying197
 ·cases h⟩
theorem X1:D6 prog 255 223:=⟨192,underlying255,underlying223,by kernel_rfl⟩
theorem X0:D6 prog 221 223:=⟨201,underlying221,underlying223,by kernel_rfl⟩
theorem afU:D6 prog 228 223:=⟨190,underlying228,underlying223,by kernel_rfl⟩
end Go.Proofs.YtihapemckcdicaaGreatDoor
namespace Go.Proofs.YtihapemckcdicaaGreatDoor
open Go.Lg Go.Proofs Go.Conc Tryz
set_option maxRecDepth 100000
set_option maxHeartbeats 4000000
noncomputable abbrev FT (F:Fx):Fx:={ F with P:=prog }
section
variable {F:Fx} {R:ax} {H:aj} {k j:Nat} {fr:Frame} {cs:List Frame}
abbrev pm(F:Fx):Value:=.pointer (some (am F))
noncomputable abbrev WJ (F:Fx) (n k j:Nat) (T:Lp):=Kd prog F.B false (KW (FT F) n k j T)
def yM(F:Fx)(k j:Nat)(R:ax)(H:aj)(g:Goroutine):Prop:=∀ n js,js k=j→Own prog F.B false (KW (FT F) n k j (.ul js)) R ((F.bo,F.cont js)::H) g
theorem sW{c:Ctx}{st:St}{todo:List Item}{n:Nat}{T:Lp}(h:∀ m,m < n→∀ tmps,cS c.n st tmps→KW (FT F) (m+1) k j T R H (aV (aU c tmps todo) c.cs)):At (WJ F n k j T) c R H st todo:=At.aHI (F:=FT F) h
def aai:Code→Option Code
 | .seq (.block _ _) r=>some r
 | .seq _ y=>aai y
 | _=>none
def vD:Code→Option Code
 | .loop c=>some c
 | .seq x y=>match vD x with | some c=>some c | none=>vD y
 | .block _ c=>vD c
 | .cond _ x y=>match vD x with | some c=>some c | none=>vD y
 | _=>none
noncomputable def xY:Code:=(aai (Tryz.f231.body.getD .skip)).getD .skip
noncomputable def rS:Code:=(vD (Tryz.f231.body.getD .skip)).getD .skip
theorem afz(hk:yM F k j R H (aV (fr.finish (gX [])) cs))(n:Nat):At (WJ F n k j .le) ⟨231,.normal,none,139,[],fr::cs⟩ R H [(0,pm F)] [.code xY]:=by
 refine At.fA rfl rfl ?_
 refine At.seq ?_
 refine At.rg [0] ?_
 refine sW λ n _=>KW.ext rfl rfl rfl rfl Bl rfl rfl λ _ w s _ bn _ _=>.inr ⟨_,w,_,.lc,s,qA (by simp),.le,trivial,rfl,cu.refl bn,λ aZ bf=>(?_:At (WJ F n k j .lc) _ _ _ _ _) aZ bf⟩
 refine At.aP ?_
 refine At.rg [0,1,2] ?_
 refine At.lv 1 ?_
 refine sW λ n _=>KW.conv rfl rfl rfl rfl rfl X1 rfl Qy ⟨by simp,by simp⟩ pK (λ _=>.lc) trivial λ aZ bf=>(?_:At (WJ F n k j .la) _ _ _ _ _) aZ bf
 refine sW λ n _=>KW.ext rfl rfl rfl rfl Mz rfl rfl λ _ w s _ bn _ _=>.inr ⟨_,w,_,.ul λ _=>0,s,Bf (λ _ _=>by simp) rfl,.la,trivial,rfl,cu.refl bn,λ aZ bf js gU=>(?_:At (WJ F n k j (.ul js)) _ _ _ _ _) aZ bf⟩
 refine At.aP ?_
 exact At.pO func231 rfl (hk n js gU) (.inl rfl)
theorem Aa{N N':Nat}{m:Wd}(h:m.ok N)(hn:N≤N'):m.ok N':=⟨h.1,h.2.1,h.2.2.1,Nat.le_trans h.2.2.2 hn⟩
def Au(F:Fx)(c:Lc)(fR:Int):St:=[(0,pm F),(2,.int .i64 fR),(3,.bool c.sv),(4,.bool c.aw),(5,.int .i64 c.it),(6,.int .i32 c.old.val)]
def OA(F:Fx)(x:Lc × Int):Prop:=x.1.old.ok F.N∧(x.1.aw=true→x.1.old.w=1)∧x.1.ws=decide (x.2≠0)∧x.1.it≤4
theorem qx{b:Option Int}{z y:Int}{p:Bool}(h:b=some z)(hp:(z == y)=p):Value.bool (b.getD 0 == y) = .bool p:=by rw [h]; exact congrArg _ hp
noncomputable def J8:Code:=match rS with | .block _ (.seq _ y)=>y | _=>.skip
noncomputable def aHo:Code:=match rS with | .block _ (.seq (.seq _ (.cond _ (.seq _ z) _)) _)=>z | _=>.skip
abbrev As(fr:Frame)(cs:List Frame):Ctx:=⟨231,.normal,none,139,[],fr::cs⟩
def uN(F:Fx)(k j:Nat)(R:ax)(H:aj)(fr:Frame)(cs:List Frame)(m:Nat):Prop:=∀ x,OA F x→At (WJ F m k j (hd x.1)) (As fr cs) R H (Au F x.1 x.2) [.code rS,.inLoop rS,.inBlock 0,.code xY]
theorem Ku{n:Nat}(ih:∀ m,m < n→uN F k j R H fr cs m){old:Wd}{aw sv:Bool}{it:Nat}{ws:Bool}{fR:Int}(j6:ws=decide (fR≠0)){st:St}(cQ:aA st [(0,pm F),(2,.int .i64 fR),(3,.bool sv),(4,.bool aw),(5,.int .i64 it)]) :
  At (WJ F n k j (.r1 ⟨old,aw,sv,it,ws⟩)) (As fr cs) R H st [.code aHo,.code J8,.inBlock 1,.inLoop rS,.inBlock 0,.code xY]:=by
 refine At.sub cQ ?_
 refine At.seq ?_
 refine At.rg [0] ?_
 refine At.ext rfl rfl rfl rfl rfl anm rfl (λ w=>RH) (.put rfl) ?_
 refine At.aP ?_
 refine At.seq ?_
 refine At.rg [0,1,2] ?_
 refine At.lv 3 ?_
 refine At.aP ?_
 refine At.seq ?_
 refine At.rg [0,1,2,3,4] ?_
 refine At.lv 3 ?_
 refine sW λ m hm=>KW.look rfl rfl rfl rfl rfl FO (by kernel_rfl) rfl ⟨by simp,by simp⟩ (λ _ h=>h) λ ot s hs=>⟨_,.r1,oD (by simp),λ aZ bf=>N2 ((?_:At (WJ F m k j (hd ⟨s.mu,aw,sv,it+1,ws⟩)) _ _ _ _ _) aZ bf)⟩
 obtain ⟨t1,t2,t3⟩:=ot
 dsimp only at t2
 refine At.lv 1 ?_
 refine At.aP ?_
 refine At.exit rfl ?_
 refine At.inLoop ?_
 refine At.is 5 (v':=.int .i64 ((it+1:Nat):Int)) rfl (by rw [show ((it+1:Nat):Int)=(it:Int)+1 by omega]; exact congrArg _ (agM (by constructor <;> omega))) ?_
 exact At.sub (st':=Au F ⟨s.mu,aw,sv,it+1,ws⟩ fR) (cj.sub ⟨rfl,rfl,rfl,rfl,rfl,rfl,trivial⟩) (ih m hm (⟨s.mu,aw,sv,it+1,ws⟩,fR) ⟨hs.1,hs.2,j6,by dsimp only; omega⟩)
theorem aHj{n:Nat}(ih:∀ m,m < n→uN F k j R H fr cs m){old:Wd}{aw sv:Bool}{it:Nat}{ws:Bool}{fR:Int}(hx:OA F (⟨old,aw,sv,it,ws⟩,fR))
  (afR:∀ m,m≤n→∀ st,aA st (Au F ⟨old,aw,sv,it,ws⟩ fR)→At (WJ F m k j (.c2 ⟨old,aw,sv,it,ws⟩)) (As fr cs) R H st [.code J8,.inBlock 1,.inLoop rS,.inBlock 0,.code xY]) :
  At (WJ F n k j (hd ⟨old,aw,sv,it,ws⟩)) (As fr cs) R H (Au F ⟨old,aw,sv,it,ws⟩ fR) [.code rS,.inLoop rS,.inBlock 0,.code xY]:=by
 obtain ⟨iU,ve,j6,MR⟩:=hx
 dsimp only at iU ve j6 MR
 have hN:=F.hN
 have h5:=Aa iU (show F.N≤5 by omega)
 obtain ⟨b1,b2,b3,b4,b5,b7,o1,o2,o4,n2,s3⟩:=Wd.sw h5
 obtain ⟨q1,q2,q3,q4⟩:=h5
 refine At.block ?_
 refine At.seq ?_
 refine At.seq ?_
 refine At.rg [0,1,2,3,4,5,6] ?_
 refine At.lv 4 ?_
 by_cases hq:old.l=1∧old.s=0
 ·have Rr:hd ⟨old,aw,sv,it,ws⟩ = .sq ⟨old,aw,sv,it,ws⟩:=if_pos hq
  rw [Rr]
  refine At.is 17 (v':=.bool true) rfl (qx b5 (by simp [hq])) ?_
  refine At.lv 1 ?_
  refine sW λ m hm=>KW.ext rfl rfl rfl rfl anl rfl rfl λ _ w s _ bn _ _=>.inr ?_
  have no:∀ st,aA st (Au F ⟨old,aw,sv,it,ws⟩ fR)→At (WJ F m k j (.c2 ⟨old,aw,sv,it,ws⟩)) (As fr cs) R H st [.code J8,.inBlock 1,.inLoop rS,.inBlock 0,.code xY]:=λ st hs=>afR m (Nat.le_of_lt hm) st hs
  by_cases h4:4≤it
  ·refine ⟨.bool false,w,#[],.c2 _,s,amq (by dsimp only; omega),.OB,trivial,pK,cu.refl bn,λ aZ bf=>(?_:At (WJ F m k j (.c2 ⟨old,aw,sv,it,ws⟩)) _ _ _ _ _) aZ bf⟩
   refine At.lv 1 ?_
   refine At.aP ?_
   refine At.eD rfl rfl ?_
   refine At.skip ?_
   exact no _ (cj.sub ⟨rfl,rfl,rfl,rfl,rfl,rfl,trivial⟩)
  ·cases hsp:w.spins
   ·refine ⟨.bool false,w.asked,#[],.c2 _,s,hsp ▸ abH (by dsimp only; omega),.OB,trivial,pK,cu.asked bn,λ aZ bf=>(?_:At (WJ F m k j (.c2 ⟨old,aw,sv,it,ws⟩)) _ _ _ _ _) aZ bf⟩
    refine At.lv 1 ?_
    refine At.aP ?_
    refine At.eD rfl rfl ?_
    refine At.skip ?_
    exact no _ (cj.sub ⟨rfl,rfl,rfl,rfl,rfl,rfl,trivial⟩)
   ·refine ⟨.bool true,w.asked,#[],ja ⟨old,aw,sv,it,ws⟩,s,hsp ▸ abH (by dsimp only; omega),.ye (by show it < 4; omega),oD (by simp),pK,cu.asked bn,λ aZ bf=>aFq ((?_:At (WJ F m k j (ja ⟨old,aw,sv,it,ws⟩)) _ _ _ _ _) aZ bf)⟩
    refine At.lv 1 ?_
    refine At.aP ?_
    refine At.fA rfl rfl ?_
    refine At.seq ?_
    refine At.seq ?_
    refine At.rg [0,1,2,3,4,5,6,7,8,9,10,11,12,13,14,15,16,17,18,19,20] ?_
    have tR:∀ m',m' < m→uN F k j R H fr cs m':=λ m' h'=>ih m' (Nat.lt_trans h' hm)
    have quiet:¬ (aw=false∧old.w=0∧old.n≠0)→ja ⟨old,aw,sv,it,ws⟩ = .r1 ⟨old,aw,sv,it,ws⟩:=λ h=>if_neg h
    cases aw
    case true =>
     rw [quiet (by simp)]
     refine At.lv 21 ?_
     refine At.aP ?_
     refine At.eD rfl rfl ?_
     refine At.skip ?_
     refine Ku tR j6 ?_
     exact cj.sub ⟨rfl,rfl,rfl,rfl,rfl,trivial⟩
    case false =>
     refine At.lv 6 ?_
     by_cases Vs:old.w=0
     case neg =>
      rw [quiet (by simp [Vs])]
      refine At.is 26 (v':=.bool false) rfl (qx b2 (by rw [beq_eq_false_iff_ne]; omega)) ?_
      refine At.lv 15 ?_
      refine At.aP ?_
      refine At.eD rfl rfl ?_
      refine At.skip ?_
      refine Ku tR j6 ?_
      exact cj.sub ⟨rfl,rfl,rfl,rfl,rfl,trivial⟩
     refine At.is 26 (v':=.bool true) rfl (qx b2 (by simp [Vs])) ?_
     refine At.lv 5 ?_
     have qJ:old.val.fdiv (2 ^ (min (3:Int).toNat IntKind.i32.bits))=(old.n:Int):=by simpa [lB] using s3
     by_cases BD:old.n=0
     case pos =>
      rw [quiet (by simp [BD])]
      refine At.is 31 (v':=.bool false) rfl (congrArg Value.bool (by show (old.val.fdiv (2 ^ (min (3:Int).toNat IntKind.i32.bits)) != 0)=false; rw [qJ,BD]; rfl)) ?_
      refine At.lv 10 ?_
      refine At.aP ?_
      refine At.eD rfl rfl ?_
      refine At.skip ?_
      refine Ku tR j6 ?_
      exact cj.sub ⟨rfl,rfl,rfl,rfl,rfl,trivial⟩
     refine At.is 31 (v':=.bool true) rfl (congrArg Value.bool (by show (old.val.fdiv (2 ^ (min (3:Int).toNat IntKind.i32.bits)) != 0)=true; rw [qJ,bne_iff_ne]; omega)) ?_
     rw [show ja ⟨old,false,sv,it,ws⟩ = .c1 ⟨old,false,sv,it,ws⟩ from if_pos ⟨rfl,Vs,BD⟩]
     refine At.lv 8 ?_
     refine At.is 39 (v':=.int .i32 (Wd.val { old with w:=1 })) rfl (by rw [o2]; rfl) ?_
     refine sW λ p hp=>KW.ext rfl rfl rfl rfl MA rfl rfl λ _ w s _ bn hs _=>.inr ?_
     have hp':∀ m',m' < p→uN F k j R H fr cs m':=λ m' h'=>tR m' (Nat.lt_trans h' hp)
     by_cases dp:s.mu=old
     ·subst dp
      refine ⟨.bool true,_,_,.r1 ⟨s.mu,true,sv,it,ws⟩,_,Eo bn.cm (bn.zm 0),.Q1 rfl,oD (by simp),pL (.inl rfl),cu.mu bn,λ aZ bf=>(?_:At (WJ F p k j (.r1 ⟨s.mu,true,sv,it,ws⟩)) _ _ _ _ _) aZ bf⟩
      refine At.lv 1 ?_
      refine At.aP ?_
      refine At.fA rfl rfl ?_
      refine At.rg [0] ?_
      refine At.lv 1 ?_
      refine At.aP ?_
      refine Ku hp' j6 ?_
      exact cj.sub ⟨rfl,rfl,rfl,rfl,rfl,trivial⟩
     ·refine ⟨.bool false,w,_,.r1 ⟨old,false,sv,it,ws⟩,s,HH bn.cm (bn.zm 0) (λ e=>dp (Wd.val_inj hs.1 iU e)),.Q0 dp,oD (by simp),wK (.inl rfl),cu.refl bn,λ aZ bf=>(?_:At (WJ F p k j (.r1 ⟨old,false,sv,it,ws⟩)) _ _ _ _ _) aZ bf⟩
      refine At.lv 1 ?_
      refine At.aP ?_
      refine At.eD rfl rfl ?_
      refine At.skip ?_
      refine Ku hp' j6 ?_
      exact cj.sub ⟨rfl,rfl,rfl,rfl,rfl,trivial⟩
 ·have Rr:hd ⟨old,aw,sv,it,ws⟩ = .c2 ⟨old,aw,sv,it,ws⟩:=if_neg hq
  rw [Rr]
  refine At.is 17 (v':=.bool false) rfl (qx b5 (by rw [beq_eq_false_iff_ne]; show ¬ ((old.l:Int)+4 * old.s=1); omega)) ?_
  refine At.lv 3 ?_
  refine At.aP ?_
  refine At.eD rfl rfl ?_
  refine At.skip ?_
  exact afR n (Nat.le_refl _) _ (cj.sub ⟨rfl,rfl,rfl,rfl,rfl,rfl,trivial⟩)
def ua(o:Wd):Wd:={ o with l:=if o.s=0 then 1 else o.l }
def vO(o:Wd):Wd:={ ua o with n:=if o.l=1∨o.s=1 then o.n+1 else o.n }
def CU(o:Wd)(sv:Bool):Wd:={ vO o with s:=if sv=true∧o.l=1 then 1 else o.s }
theorem aaj{a b:Int}{p:Prop}[Decidable p](h:a=b↔p):(a == b)=decide p:=by
 by_cases hp:p
 ·rw [decide_eq_true hp]; exact beq_iff_eq.2 (h.2 hp)
 ·rw [decide_eq_false hp]; exact beq_eq_false_iff_ne.2 λ e=>hp (h.1 e)
theorem aak{a b:Int}{p:Prop}[Decidable p](h:a≠b↔p):(a != b)=decide p:=by
 by_cases hp:p
 ·rw [decide_eq_true hp]; exact bne_iff_ne.2 (h.2 hp)
 ·rw [decide_eq_false hp,bne,beq_iff_eq.2 (Classical.byContradiction λ e=>hp (h.1 e))]; rfl
theorem Bc{b:Option Int}{z y:Int}{p:Bool}(h:b=some z)(hp:(z != y)=p):Value.bool (b.getD 0 != y) = .bool p:=by rw [h]; exact congrArg _ hp
theorem Nx{b:Option Int}{z y:Int}(h:b=some z)(hp:z=y):Value.int .i32 (b.getD 0) = .int .i32 y:=by rw [h,← hp]; rfl
theorem At.mid{P:Program}{B:Base}{main:Bool}{ae:Jd P B main}{c:Ctx}{R:ax}{H:aj}{st:St}{todo K:List Item}(S':St)(h1:(∀ st,aA st S'→At ae c R H st K)→At ae c R H st todo)(h2:At ae c R H S' K):At ae c R H st todo:=h1 λ _ hs=>At.sub hs h2
abbrev J9(F:Fx)(c:Lc)(fR:Int)(m:Wd):St:=(7,.int .i32 m.val)::Au F c fR
noncomputable def aBZ:Code:=match J8 with | .seq _ (.seq _ (.seq _ (.seq _ (.seq _ (.seq _ (.cond _ x _))))))=>x | _=>.skip
noncomputable def acu:Code:=match aBZ with | .seq _ (.seq _ (.seq _ x))=>x | _=>.skip
noncomputable def anZ:Code:=match acu with | .seq _ (.seq _ x)=>x | _=>.skip
theorem aIJ{m:Wd}(h:m.ok 5)(hl:m.l=0)(hw:m.w=0)(hs:m.s=1)(hn:m.n≠0)(b:Bool):IntKind.i32.wrap (m.val+(if b then -7 else -11))=Wd.val ⟨1,m.w,if b then m.s else 0,m.n - 1⟩:=by
 obtain ⟨l,w,s,n⟩:=m
 dsimp only at hl hw hs hn
 subst hl hw hs
 have:=h.2.2.2
 dsimp only at this
 cases b
 ·rw [wrap_i32 (by simp only [Wd.val]; split <;> omega) (by simp only [Wd.val]; split <;> omega)]
  simp only [Wd.val]; simp; omega
 ·rw [wrap_i32 (by simp only [Wd.val]; split <;> omega) (by simp only [Wd.val]; split <;> omega)]
  simp only [Wd.val]; simp; omega
theorem afy(hk:yM F k j R H (aV (fr.finish (gX [])) cs)){n:Nat}(ih:∀ m,m < n→uN F k j R H fr cs m){old:Wd}{aw sv:Bool}{it:Nat}{ws:Bool}{fR:Int}(j6:ws=decide (fR≠0)){st:St}(cQ:aA st [(0,pm F),(2,.int .i64 fR),(3,.bool sv)]) :
  At (WJ F n k j (.r2 ⟨old,aw,sv,it,ws⟩)) (As fr cs) R H st [.code anZ,.inBlock 1,.inLoop rS,.inBlock 0,.code xY]:=by
 have hN:=F.hN
 refine At.sub cQ ?_
 refine At.seq ?_
 refine At.rg [0,1,2,3,4] ?_
 refine At.lv 3 ?_
 refine sW λ m hm=>KW.look rfl rfl rfl rfl rfl FO (by kernel_rfl) rfl ⟨by simp,by simp⟩ (λ _ h=>h) λ _ s hs=>?_
 have h5:=Aa hs.1 (show (FT F).N≤5 from Nat.le_trans hN (by omega))
 obtain ⟨b1,b2,b3,b4,b5,b7,o1,o2,o4,n2,s3⟩:=Wd.sw h5
 have qJ:s.mu.val.fdiv (2 ^ (min (3:Int).toNat IntKind.i32.bits))=(s.mu.n:Int):=by simpa [lB] using s3
 rcases hs.2 with ⟨e1,e2,e3,e4⟩ | ⟨e1,e2⟩
 ·refine ⟨_,.Kl e1,oD (by simp),λ aZ bf=>(?_:At (WJ F m k j (.a1 (sv && s.mu.n != 1))) _ _ _ _ _) aZ bf⟩
  refine At.lv 1 ?_
  refine At.aP ?_
  refine At.seq ?_
  refine At.seq ?_
  refine At.rg [0,1,2] ?_
  refine At.lv 3 ?_
  refine At.aP ?_
  refine At.is 107 (v':=.bool true) rfl (Bc b4 (by rw [e1]; rfl)) ?_
  refine At.fA rfl rfl ?_
  refine At.seq ?_
  refine At.seq ?_
  refine At.rg [0,1,2,3,4,5,6,7] ?_
  refine At.lv 3 ?_
  refine At.is 110 (v':=.bool false) rfl (Bc b3 (by rw [e2,e3]; rfl)) ?_
  refine At.lv 4 ?_
  refine At.is 114 (v':=.bool false) rfl (congrArg Value.bool (by show (s.mu.val.fdiv (2 ^ (min (3:Int).toNat IntKind.i32.bits)) == 0)=false; rw [qJ,beq_eq_false_iff_ne]; omega)) ?_
  refine At.lv 1 ?_
  refine At.aP ?_
  refine At.eD rfl rfl ?_
  refine At.skip ?_
  refine At.seq ?_
  refine At.rg [0] ?_
  refine At.lv 1 ?_
  refine At.aP ?_
  refine At.seq ?_
  refine At.seq ?_
  refine At.rg [0,1,2,3,4,5,6] ?_
  refine At.mid (K:=?K) [(0,pm F),(9,.int .i32 (-7)),(123,.bool (!(sv && s.mu.n != 1)))] ?h1 ?h2
  case h1 =>
   intro h
   cases sv
   ·refine At.lv 7 ?_
    refine At.aP ?_
    refine h _ ?_
    exact cj.sub ⟨rfl,rfl,rfl,trivial⟩
   ·refine At.lv 6 ?_
    refine At.is 122 (v':=.bool (!(true && s.mu.n != 1))) rfl (congrArg Value.bool (by
     show (s.mu.val.fdiv (2 ^ (min (3:Int).toNat IntKind.i32.bits)) == 1)=_
     rw [qJ]
     by_cases e:s.mu.n=1
     ·rw [e]; rfl
     ·rw [beq_eq_false_iff_ne.2 (by omega)]; simp [e])) ?_
    refine At.lv 1 ?_
    refine At.aP ?_
    refine h _ ?_
    exact cj.sub ⟨rfl,rfl,rfl,trivial⟩
  generalize (sv && s.mu.n != 1)=b
  refine At.join (st':=[(0,pm F),(9,.int .i32 (if b then -7 else -11))]) rfl (λ hb h=>?_) (λ hb h=>?_) ?_
  ·cases b
   ·refine At.rg [0,1,2] ?_
    refine At.lv 3 ?_
    refine At.aP ?_
    refine At.sub ?_ h
    exact cj.sub ⟨rfl,rfl,trivial⟩
   ·cases hb
  ·cases b
   ·cases hb
   ·refine At.skip ?_
    refine At.sub ?_ h
    exact cj.sub ⟨rfl,rfl,trivial⟩
  refine At.seq ?_
  refine At.rg [0,1,2,3,4] ?_
  refine At.lv 4 ?_
  refine sW λ p hp=>KW.ext rfl rfl rfl rfl acj rfl rfl λ _ w s _ bn hs _=>.inr ?_
  obtain ⟨o8,g1,g2,g3,g4,g5⟩:=hs
  have e:=aIJ (Aa o8 (show (FT F).N≤5 from Nat.le_trans hN (by omega))) g2 g3 g1 g4 b
  refine ⟨_,_,_,.le,_,y3 bn.cm (bn.zm 0),.a1,trivial,pL (.inl rfl),by rw [e]; exact cu.mu bn,λ aZ bf=>(?_:At (WJ F p k j .le) _ _ _ _ _) aZ bf⟩
  refine At.aP ?_
  refine At.exit rfl ?_
  refine At.sub ?_ (afz hk p)
  exact cj.sub ⟨rfl,trivial⟩
 ·refine ⟨_,.xV e1,oD (by simp),λ aZ bf=>N2 ((?_:At (WJ F m k j (hd ⟨s.mu,true,sv,0,ws⟩)) _ _ _ _ _) aZ bf)⟩
  refine At.lv 1 ?_
  refine At.aP ?_
  refine At.seq ?_
  refine At.seq ?_
  refine At.rg [0,1,2] ?_
  refine At.lv 3 ?_
  refine At.aP ?_
  refine At.is 107 (v':=.bool false) rfl (Bc b4 (by rw [e1]; rfl)) ?_
  refine At.eD rfl rfl ?_
  refine At.skip ?_
  refine At.seq ?_
  refine At.rg [0] ?_
  refine At.lv 1 ?_
  refine At.aP ?_
  refine At.rg [0] ?_
  refine At.lv 1 ?_
  refine At.aP ?_
  refine At.inBlock ?_
  refine At.inLoop ?_
  refine At.sub ?_ (ih m hm (⟨s.mu,true,sv,0,ws⟩,fR) ⟨hs.1,λ _=>e2,j6,Nat.zero_le _⟩)
  exact cj.sub ⟨rfl,rfl,rfl,rfl,rfl,rfl,trivial⟩
theorem afx(hB:∀ w:World,F.B.os w.os→F.B.os w.later.os)(hk:yM F k j R H (aV (fr.finish (gX [])) cs)){n:Nat}(ih:∀ m,m < n→uN F k j R H fr cs m){old:Wd}{aw sv:Bool}{it:Nat}{ws q:Bool}{fR:Int}(j6:ws=decide (fR≠0)){st:St}(cQ:aA st [(0,pm F),(2,.int .i64 fR),(3,.bool sv),(8,.bool q)]) :
  At (WJ F n k j (.s1 ⟨old,aw,sv,it,ws⟩)) (As fr cs) R H st [.code acu,.inBlock 1,.inLoop rS,.inBlock 0,.code xY]:=by
 refine At.sub cQ ?_
 refine At.seq ?_
 refine At.rg [0,1,2,3,4] ?_
 refine At.lv 4 ?_
 refine sW λ m hm=>KW.ext rfl rfl rfl rfl ann rfl rfl λ _ w s _ bn _ _=>?_
 have tR:∀ m',m' < m→uN F k j R H fr cs m':=λ m' h'=>ih m' (Nat.lt_trans h' hm)
 cases zp:s.ms with
 | zero=>exact .inl ⟨⟨_,rfl⟩,rfl,ZI rfl (by rw [bn.L9,zp]; rfl)⟩
 | succ u =>
  have ea:((u+1:Nat):Int) - 1=(u:Int):=by omega
  refine .inr ⟨_,_,_,if sv then .r2 ⟨old,aw,sv,it,ws⟩ else .t2 ⟨old,aw,sv,it,ws⟩,_,abG (n:=((u+1:Nat):Int)) rfl (by rw [← zp]; exact bn.L9) (by omega) (bn.zm 1),.s1 zp,oD (by simp),Hn (.inl rfl),by rw [ea]; exact cu.ms bn,λ aZ bf=>?_⟩
  cases sv
  ·refine (?_:At (WJ F m k j (.t2 ⟨old,aw,false,it,ws⟩)) _ _ _ _ _) aZ bf
   refine At.aP ?_
   refine At.seq ?_
   refine At.rg [0,1,2,3,4,5,6,7] ?_
   refine At.lv 2 ?_
   refine sW λ p hp=>KW.nano hB rfl rfl rfl rfl ack (by kernel_rfl) rfl rfl ⟨by simp,by simp⟩ pK λ _ z=>?_
   refine ⟨.r2 ⟨old,aw,decide (IntKind.wrap .i64 (z - fR) > 1000000),it,ws⟩,λ s=>.t2 _,oD (by simp),λ aZ bf=>(?_:At (WJ F p k j (.r2 ⟨old,aw,decide (IntKind.wrap .i64 (z - fR) > 1000000),it,ws⟩)) _ _ _ _ _) aZ bf⟩
   refine At.lv 5 ?_
   refine At.aP ?_
   refine afy hk (λ m' h'=>tR m' (Nat.lt_trans h' hp)) j6 ?_
   exact cj.sub ⟨rfl,rfl,rfl,trivial⟩
  ·refine (?_:At (WJ F m k j (.r2 ⟨old,aw,true,it,ws⟩)) _ _ _ _ _) aZ bf
   refine At.aP ?_
   refine At.seq ?_
   refine At.rg [0,1,2,3,4,5,6,7] ?_
   refine At.lv 8 ?_
   refine At.aP ?_
   refine afy hk tR j6 ?_
   exact cj.sub ⟨rfl,rfl,rfl,trivial⟩
theorem aHg(hB:∀ w:World,F.B.os w.os→F.B.os w.later.os)(hk:yM F k j R H (aV (fr.finish (gX [])) cs)){n:Nat}(ih:∀ m,m < n→uN F k j R H fr cs m){old:Wd}{aw sv:Bool}{it:Nat}{ws:Bool}{fR:Int}(hx:OA F (⟨old,aw,sv,it,ws⟩,fR)){st:St}(cQ:aA st (Au F ⟨old,aw,sv,it,ws⟩ fR)) :
  At (WJ F n k j (.c2 ⟨old,aw,sv,it,ws⟩)) (As fr cs) R H st [.code J8,.inBlock 1,.inLoop rS,.inBlock 0,.code xY]:=by
 obtain ⟨iU,ve,j6,MR⟩:=hx
 dsimp only at iU ve j6 MR
 have hN:=F.hN
 have h5:old.ok 5:=Aa iU (by omega)
 have h4:old.ok 4:=Aa iU (by omega)
 obtain ⟨b1,b2,b3,b4,b5,b7,o1,o2,o4,n2,s3⟩:=Wd.sw h5
 obtain ⟨q1,q2,q3,q4⟩:=h4
 have k1:(ua old).ok 5:=⟨by simp only [ua]; split <;> omega,q2,q3,by simp only [ua]; omega⟩
 have k2:(vO old).ok 5:=⟨k1.1,q2,q3,by simp only [vO]; split <;> omega⟩
 have k3:(CU old sv).ok 5:=⟨k1.1,q2,by simp only [CU]; split <;> omega,k2.2.2.2⟩
 refine At.sub cQ ?_
 refine At.seq ?_
 refine At.rg [0,1] ?_
 refine At.lv 2 ?_
 refine At.aP ?_
 refine At.seq ?_
 refine At.seq ?_
 refine At.rg [0,1,2] ?_
 refine At.lv 3 ?_
 refine At.aP ?_
 refine At.is 52 (v':=.bool (decide (old.s=0))) rfl (qx b4 (aaj (by omega))) ?_
 refine At.join (st':=J9 F ⟨old,aw,sv,it,ws⟩ fR (ua old)) rfl (λ hb h=>?_) (λ hb h=>?_) ?_
 ·refine At.rg [0,1,2] ?_
  refine At.lv 3 ?_
  refine At.aP ?_
  refine At.is 7 (v':=.int .i32 (ua old).val) rfl (Nx o1 (by simp [ua,of_decide_eq_true hb])) ?_
  refine At.sub ?_ h
  exact cj.sub ⟨rfl,rfl,rfl,rfl,rfl,rfl,rfl,trivial⟩
 ·refine At.skip ?_
  refine At.is 7 (v':=.int .i32 (ua old).val) rfl (by simp [ua,of_decide_eq_false hb]) ?_
  refine At.sub ?_ h
  exact cj.sub ⟨rfl,rfl,rfl,rfl,rfl,rfl,rfl,trivial⟩
 refine At.seq ?_
 refine At.seq ?_
 refine At.rg [0,1,2] ?_
 refine At.lv 3 ?_
 refine At.aP ?_
 refine At.is 57 (v':=.bool (decide (old.l=1∨old.s=1))) rfl (Bc b5 (aak (by omega))) ?_
 refine At.join (st':=J9 F ⟨old,aw,sv,it,ws⟩ fR (vO old)) rfl (λ hb h=>?_) (λ hb h=>?_) ?_
 ·refine At.rg [0,1,2] ?_
  refine At.lv 3 ?_
  refine At.aP ?_
  have e:(ua old).val+8=(vO old).val:=by simp only [vO,ua,Wd.val,of_decide_eq_true hb,if_true]; omega
  have f:=Wd.fit k1
  refine At.is 7 (v':=.int .i32 (vO old).val) rfl (by rw [← e]; exact congrArg _ (wrap_i32 (by omega) (by omega))) ?_
  refine At.sub ?_ h
  exact cj.sub ⟨rfl,rfl,rfl,rfl,rfl,rfl,rfl,trivial⟩
 ·refine At.skip ?_
  refine At.is 7 (v':=.int .i32 (vO old).val) rfl (by simp only [vO,of_decide_eq_false hb,if_false]; rfl) ?_
  refine At.sub ?_ h
  exact cj.sub ⟨rfl,rfl,rfl,rfl,rfl,rfl,rfl,trivial⟩
 refine At.seq ?_
 refine At.seq ?_
 refine At.rg [0,1,2,3,4,5] ?_
 refine At.mid (K:=?K) ((65,.bool (decide (sv=true∧old.l=1)))::J9 F ⟨old,aw,sv,it,ws⟩ fR (vO old)) ?h1 ?h2
 case h1 =>
  intro h
  cases sv
  ·refine At.lv 6 ?_
   refine At.aP ?_
   refine h _ ?_
   exact cj.sub ⟨rfl,rfl,rfl,rfl,rfl,rfl,rfl,rfl,trivial⟩
  ·refine At.lv 5 ?_
   refine At.is 64 (v':=.bool (decide (true=true∧old.l=1))) rfl (Bc b1 (aak (by simp; omega))) ?_
   refine At.lv 1 ?_
   refine At.aP ?_
   refine h _ ?_
   exact cj.sub ⟨rfl,rfl,rfl,rfl,rfl,rfl,rfl,rfl,trivial⟩
 refine At.join (st':=J9 F ⟨old,aw,sv,it,ws⟩ fR (CU old sv)) rfl (λ hb h=>?_) (λ hb h=>?_) ?_
 ·refine At.rg [0,1,2] ?_
  refine At.lv 3 ?_
  refine At.aP ?_
  have o:=(Wd.sw k2).2.2.2.2.2.2.2.2.1
  refine At.is 7 (v':=.int .i32 (CU old sv).val) rfl (Nx o (by simp only [CU,of_decide_eq_true hb,and_self,if_true])) ?_
  refine At.sub ?_ h
  exact cj.sub ⟨rfl,rfl,rfl,rfl,rfl,rfl,rfl,trivial⟩
 ·refine At.skip ?_
  refine At.is 7 (v':=.int .i32 (CU old sv).val) rfl (by simp only [CU,of_decide_eq_false hb,if_false]; rfl) ?_
  refine At.sub ?_ h
  exact cj.sub ⟨rfl,rfl,rfl,rfl,rfl,rfl,rfl,trivial⟩
 refine At.seq ?_
 refine At.seq ?_
 refine At.rg [0] ?_
 refine At.lv 1 ?_
 refine At.aP ?_
 refine At.join (st':=J9 F ⟨old,aw,sv,it,ws⟩ fR (nw ⟨old,aw,sv,it,ws⟩)) rfl (λ hb h=>?_) (λ hb h=>?_) ?_
 ·dsimp only at hb
  subst hb
  obtain ⟨_,a2,_,_,_,_,_,_,_,mx,_⟩:=Wd.sw k3
  refine At.seq ?_
  refine At.seq ?_
  refine At.rg [0,1,2] ?_
  refine At.lv 3 ?_
  refine At.aP ?_
  have hw1:=ve rfl
  refine At.is 71 (v':=.bool false) rfl (qx a2 (by rw [beq_eq_false_iff_ne]; show ¬ (2 * (old.w:Int)=0); omega)) ?_
  refine At.eD rfl rfl ?_
  refine At.skip ?_
  refine At.rg [0,1,2] ?_
  refine At.lv 3 ?_
  refine At.aP ?_
  refine At.is 7 (v':=.int .i32 (nw ⟨old,true,sv,it,ws⟩).val) rfl (Nx mx rfl) ?_
  refine At.sub ?_ h
  exact cj.sub ⟨rfl,rfl,rfl,rfl,rfl,rfl,rfl,trivial⟩
 ·dsimp only at hb
  subst hb
  refine At.skip ?_
  refine At.is 7 (v':=.int .i32 (nw ⟨old,false,sv,it,ws⟩).val) rfl rfl ?_
  refine At.sub ?_ h
  exact cj.sub ⟨rfl,rfl,rfl,rfl,rfl,rfl,rfl,trivial⟩
 refine At.seq ?_
 refine At.rg [0,1,2,3,4,5] ?_
 refine At.lv 5 ?_
 refine sW λ m hm=>KW.ext rfl rfl rfl rfl MA rfl rfl λ _ w s _ bn hs _=>.inr ?_
 have tR:∀ m',m' < m→uN F k j R H fr cs m':=λ m' h'=>ih m' (Nat.lt_trans h' hm)
 by_cases dp:s.mu=old
 ·subst dp
  by_cases hf:s.mu.l=0∧s.mu.s=0
  ·
   refine ⟨.bool true,_,_,.le,_,Eo bn.cm (bn.zm 0),.Q6 rfl hf.1 hf.2,trivial,pL (.inl rfl),cu.mu bn,λ aZ bf=>(?_:At (WJ F m k j .le) _ _ _ _ _) aZ bf⟩
   refine At.aP ?_
   refine At.fA rfl rfl ?_
   refine At.seq ?_
   refine At.seq ?_
   refine At.rg [0,1,2] ?_
   refine At.lv 3 ?_
   refine At.aP ?_
   refine At.is 83 (v':=.bool true) rfl (qx b5 (by rw [hf.1,hf.2]; rfl)) ?_
   refine At.fA rfl rfl ?_
   refine At.exit rfl ?_
   refine At.sub ?_ (afz hk m)
   exact cj.sub ⟨rfl,trivial⟩
  ·
   have hq:s.mu.l=1∨s.mu.s=1:=by omega
   refine ⟨.bool true,_,_,if ws then .s1 ⟨s.mu,aw,sv,it,ws⟩ else .t1 ⟨s.mu,aw,sv,it,ws⟩,_,Eo bn.cm (bn.zm 0),.wO rfl hq,oD (by simp),pL (.inl rfl),cu.mu bn,λ aZ bf=>?_⟩
   by_cases hw:fR=0
   ·have e0:ws=false:=by rw [j6]; simp [hw]
    subst e0
    refine (?_:At (WJ F m k j (.t1 ⟨s.mu,aw,sv,it,false⟩)) _ _ _ _ _) aZ bf
    refine At.aP ?_
    refine At.fA rfl rfl ?_
    refine At.seq ?_
    refine At.seq ?_
    refine At.rg [0,1,2] ?_
    refine At.lv 3 ?_
    refine At.aP ?_
    refine At.is 83 (v':=.bool false) rfl (qx b5 (by rw [beq_eq_false_iff_ne]; omega)) ?_
    refine At.eD rfl rfl ?_
    refine At.skip ?_
    refine At.seq ?_
    refine At.rg [0,1,2] ?_
    refine At.lv 3 ?_
    refine At.aP ?_
    refine At.seq ?_
    refine At.seq ?_
    refine At.rg [0,1] ?_
    refine At.lv 2 ?_
    refine At.aP ?_
    refine At.is 87 (v':=.bool true) rfl (congrArg Value.bool (beq_iff_eq.2 hw)) ?_
    refine At.fA rfl rfl ?_
    refine At.rg [0,1] ?_
    refine sW λ p hp=>KW.nano hB rfl rfl rfl rfl ack (by kernel_rfl) rfl rfl ⟨by simp,by simp⟩ pK λ _ z=>?_
    refine ⟨.s1 ⟨s.mu,aw,sv,it,decide (z≠0)⟩,λ s=>.t1 _,oD (by simp),λ aZ bf=>(?_:At (WJ F p k j (.s1 ⟨s.mu,aw,sv,it,decide (z≠0)⟩)) _ _ _ _ _) aZ bf⟩
    refine At.lv 1 ?_
    refine At.aP ?_
    refine afx hB hk (q:=(fR != 0)) (λ m' h'=>tR m' (Nat.lt_trans h' hp)) rfl ?_
    exact cj.sub ⟨rfl,rfl,rfl,rfl,trivial⟩
   ·have e0:ws=true:=by rw [j6]; simp [hw]
    subst e0
    refine (?_:At (WJ F m k j (.s1 ⟨s.mu,aw,sv,it,true⟩)) _ _ _ _ _) aZ bf
    refine At.aP ?_
    refine At.fA rfl rfl ?_
    refine At.seq ?_
    refine At.seq ?_
    refine At.rg [0,1,2] ?_
    refine At.lv 3 ?_
    refine At.aP ?_
    refine At.is 83 (v':=.bool false) rfl (qx b5 (by rw [beq_eq_false_iff_ne]; omega)) ?_
    refine At.eD rfl rfl ?_
    refine At.skip ?_
    refine At.seq ?_
    refine At.rg [0,1,2] ?_
    refine At.lv 3 ?_
    refine At.aP ?_
    refine At.seq ?_
    refine At.seq ?_
    refine At.rg [0,1] ?_
    refine At.lv 2 ?_
    refine At.aP ?_
    refine At.is 87 (v':=.bool false) rfl (congrArg Value.bool (beq_eq_false_iff_ne.2 hw)) ?_
    refine At.eD rfl rfl ?_
    refine At.skip ?_
    refine afx hB hk (q:=(fR != 0)) tR j6 ?_
    exact cj.sub ⟨rfl,rfl,rfl,rfl,trivial⟩
 ·
  refine ⟨.bool false,w,_,.r3 ⟨old,aw,sv,it,ws⟩,s,HH bn.cm (bn.zm 0) (λ e=>dp (Wd.val_inj hs.1 iU e)),.Q7 dp,oD (by simp),wK (.inl rfl),cu.refl bn,λ aZ bf=>(?_:At (WJ F m k j (.r3 ⟨old,aw,sv,it,ws⟩)) _ _ _ _ _) aZ bf⟩
  refine At.aP ?_
  refine At.eD rfl rfl ?_
  refine At.rg [0,1,2,3,4] ?_
  refine At.lv 3 ?_
  refine sW λ p hp=>KW.look rfl rfl rfl rfl rfl FO (by kernel_rfl) rfl ⟨by simp,by simp⟩ (λ _ h=>h) λ ot s hs=>⟨_,.r3,oD (by simp),λ aZ bf=>N2 ((?_:At (WJ F p k j (hd ⟨s.mu,aw,sv,it,ws⟩)) _ _ _ _ _) aZ bf)⟩
  refine At.lv 1 ?_
  refine At.aP ?_
  refine At.inBlock ?_
  refine At.inLoop ?_
  refine At.sub ?_ (tR p hp (⟨s.mu,aw,sv,it,ws⟩,fR) ⟨hs.1,hs.2,j6,MR⟩)
  exact cj.sub ⟨rfl,rfl,rfl,rfl,rfl,rfl,trivial⟩
theorem aHh(hB:∀ w:World,F.B.os w.os→F.B.os w.later.os)(hk:yM F k j R H (aV (fr.finish (gX [])) cs))(n:Nat):uN F k j R H fr cs n:=λ x hx =>
 At.head (Jn:=λ n (x:Lc × Int)=>WJ F n k j (hd x.1)) (S:=λ x=>Au F x.1 x.2) (ok:=OA F) (λ n ih x hx=>by
  obtain ⟨⟨old,aw,sv,it,ws⟩,fR⟩:=x
  exact aHj ih hx λ m hm st cQ=>aHg hB hk (λ m' h'=>ih m' (Nat.lt_of_lt_of_le h' hm)) hx cQ) n x hx
end
end Go.Proofs.YtihapemckcdicaaGreatDoor
namespace Go.Proofs.YtihapemckcdicaaGreatDoor
open Go.Lg Go.Proofs Go.Conc Tryz
set_option maxRecDepth 100000
set_option maxHeartbeats 4000000
section
variable {F:Fx} {R:ax} {H:aj} {k j:Nat}
theorem aHi(hB:∀ w:World,F.B.os w.os→F.B.os w.later.os)(n:Nat):kA prog ((WJ F n k j .r0).J R H) (yM F k j R H) 231 [pm F]:=kA.bq func231 rfl rfl rfl λ fr cs hk=>by
 refine At.seq ?_
 refine At.rg [0] ?_
 refine At.lv 1 ?_
 refine At.aP ?_
 refine At.seq ?_
 refine At.rg [0] ?_
 refine At.lv 1 ?_
 refine At.aP ?_
 refine At.seq ?_
 refine At.rg [0] ?_
 refine At.lv 1 ?_
 refine At.aP ?_
 refine At.seq ?_
 refine At.rg [0] ?_
 refine At.lv 1 ?_
 refine At.aP ?_
 refine At.seq ?_
 refine At.rg [0,1,2,3,4] ?_
 refine At.lv 3 ?_
 refine sW λ m hm=>KW.look rfl rfl rfl rfl rfl FO (by kernel_rfl) rfl ⟨by simp,by simp⟩ (λ _ h=>h) λ ot s hs=>⟨_,.r0,oD (by simp),λ aZ bf=>N2 ((?_:At (WJ F m k j (hd ⟨s.mu,false,false,0,false⟩)) _ _ _ _ _) aZ bf)⟩
 refine At.lv 1 ?_
 refine At.aP ?_
 refine At.seq ?_
 refine At.block ?_
 refine At.enterLoop ?_
 refine At.sub ?_ (aHh hB hk m (⟨s.mu,false,false,0,false⟩,0) ⟨hs.1,by simp,by simp,Nat.zero_le _⟩)
 exact cj.sub ⟨rfl,rfl,rfl,rfl,rfl,rfl,trivial⟩
theorem aB0(hB:∀ w:World,F.B.os w.os→F.B.os w.later.os)(n:Nat):kA prog ((WJ F n k j .ld).J R H) (yM F k j R H) 203 [pm F]:=kA.bq func203 rfl rfl rfl λ fr cs hk=>by
 refine At.seq ?_
 refine At.rg [0] ?_
 refine sW λ m hm=>KW.ext rfl rfl rfl rfl HL rfl rfl λ _ w s _ bn _ _=>.inr ⟨_,w,_,.l0,s,qA (by simp),.ld,trivial,rfl,cu.refl bn,λ aZ bf=>(?_:At (WJ F m k j .l0) _ _ _ _ _) aZ bf⟩
 refine At.aP ?_
 refine At.seq ?_
 refine At.seq ?_
 refine At.rg [0,1,2,3] ?_
 refine At.lv 3 ?_
 refine sW λ p hp=>KW.ext rfl rfl rfl rfl MA rfl rfl λ _ w s _ bn hs _=>.inr ?_
 by_cases hz:s.mu = .zero
 ·refine ⟨.bool true,_,_,.le,_,Eo (v:=0) (by have e:=bn.cm; rw [hz] at e; exact e) (bn.zm 0),.adN hz,trivial,pL (.inl rfl),cu.mu (m:=⟨1,0,0,0⟩) bn,λ aZ bf=>(?_:At (WJ F p k j .le) _ _ _ _ _) aZ bf⟩
  refine At.aP ?_
  refine At.fA rfl rfl ?_
  refine At.seq ?_
  refine At.fA rfl rfl ?_
  refine At.seq ?_
  refine At.rg [0] ?_
  refine sW λ n _=>KW.ext rfl rfl rfl rfl Bl rfl rfl λ _ w s _ bn _ _=>.inr ⟨_,w,_,.lc,s,qA (by simp),.le,trivial,rfl,cu.refl bn,λ aZ bf=>(?_:At (WJ F n k j .lc) _ _ _ _ _) aZ bf⟩
  refine At.aP ?_
  refine At.rg [0,1,2] ?_
  refine At.lv 1 ?_
  refine sW λ n _=>KW.conv rfl rfl rfl rfl rfl X1 rfl Qy ⟨by simp,by simp⟩ pK (λ _=>.lc) trivial λ aZ bf=>(?_:At (WJ F n k j .la) _ _ _ _ _) aZ bf
  refine sW λ n _=>KW.ext rfl rfl rfl rfl Mz rfl rfl λ _ w s _ bn _ _=>.inr ⟨_,w,_,.ul λ _=>0,s,Bf (λ _ _=>by simp) rfl,.la,trivial,rfl,cu.refl bn,λ aZ bf js gU=>(?_:At (WJ F n k j (.ul js)) _ _ _ _ _) aZ bf⟩
  refine At.aP ?_
  exact At.pO func203 rfl (hk n js gU) (.inr ⟨_,rfl⟩)
 ·refine ⟨.bool false,w,_,.r0,s,HH bn.cm (bn.zm 0) (λ e=>hz (Wd.val_inj hs.1 (N':=0) ⟨Nat.zero_le _,Nat.zero_le _,Nat.zero_le _,Nat.le_refl _⟩ e)),.adM hz,trivial,wK (.inl rfl),cu.refl bn,λ aZ bf=>(?_:At (WJ F p k j .r0) _ _ _ _ _) aZ bf⟩
  refine At.aP ?_
  refine At.eD rfl rfl ?_
  refine At.skip ?_
  refine At.rg [0,1] ?_
  refine At.lv 1 ?_
  refine At.vE rfl rfl rfl rfl rfl alX rfl (aHi hB p) λ aZ bf n js gU=>(?_:At (WJ F n k j (.ul js)) _ _ _ _ _) aZ bf
  refine At.aP ?_
  exact At.pO func203 rfl (hk n js gU) (.inl rfl)
theorem aDa(hB:∀ w:World,F.B.os w.os→F.B.os w.later.os)(n:Nat):kA prog ((WJ F n k j .ld).J R H) (yM F k j R H) 173 [pm F]:=kA.bq func173 rfl rfl rfl λ fr cs hk=>by
 refine At.rg [0,1,2,3] ?_
 refine At.lv 3 ?_
 refine At.vE rfl rfl rfl rfl rfl alJ rfl (aB0 hB n) λ aZ bf n js gU=>(?_:At (WJ F n k j (.ul js)) _ _ _ _ _) aZ bf
 refine At.aP ?_
 exact At.pO func173 rfl (hk n js gU) (.inl rfl)
def Qq(F:Fx)(k j:Nat)(R:ax)(H:aj)(g:Goroutine):Prop:=∀ n,Own prog F.B false (KW (FT F) n k j .ue) R H g
def Qr(F:Fx)(k j:Nat)(R:ax)(H:aj)(g:Goroutine):Prop:=(j < F.J→∀ n,Own prog F.B false (KW (FT F) n k j .ld) R H g)∧(j=F.J→∀ n,Own prog F.B false (KW (FT F) n k j .wv) R H g)
theorem agF{m:Wd}(h:m.ok 5)(hl:m.l=0):IntKind.i32.wrap (m.val+1)=Wd.val { m with l:=1 }:=by
 have:=Wd.fit h
 rw [wrap_i32 (by omega) (by omega)]; simp only [Wd.val,hl]; omega
theorem aIK{m:Wd}(h:m.ok 5)(_:m.w=0)(hn:m.n≠0):IntKind.i32.wrap (m.val - 8)=Wd.val { m with n:=m.n - 1 }∧Wd.ok 5 { m with n:=m.n - 1 }:=by
 have:=Wd.fit h
 obtain ⟨h1,h2,h3,h4⟩:=h
 refine ⟨?_,h1,h2,h3,by simp only; omega⟩
 rw [wrap_i32 (by omega) (by omega)]; simp only [Wd.val]; omega
theorem aII{m:Wd}(h:m.ok 5)(hl:m.l=1):IntKind.i32.wrap (m.val + -1)=Wd.val { m with l:=0 }:=by
 have:=Wd.fit h
 rw [wrap_i32 (by omega) (by omega)]; simp only [Wd.val,hl]; omega
theorem afV{s:Sh}{w:World}(bn:fu (FT F) s w)(h0:s.ms=0):cu (FT F) { s with ms:=s.ms+1 } w (w.setCell ⟨F.bm,1,none⟩ (.int .u32 (IntKind.u32.wrap ((s.ms:Int)+1)))):=by
 rw [wrap_u32 (by omega) (by omega)]
 exact cu.ms bn
theorem aH1{m:Wd}(h5:m.ok 5)(hl:m.l=0)(o8:m.s=1)(n:Nat):kA prog ((WJ F n k j .us).J R H) (Qq F k j R H) 233 [pm F,.int .i32 m.val]:=kA.bq func233 rfl rfl rfl λ fr cs hk=>by
 have e1:=agF h5 hl
 have d5:Wd.ok 5 { m with l:=1 }:=⟨Nat.le_refl _,h5.2.1,h5.2.2.1,h5.2.2.2⟩
 refine At.seq ?_
 refine At.seq ?_
 refine At.rg [0,1,2,3] ?_
 refine At.lv 2 ?_
 refine At.is 6 (v':=.int .i32 (Wd.val { m with l:=1 })) rfl (congrArg _ e1) ?_
 refine At.lv 2 ?_
 refine At.aP ?_
 refine At.is 8 (v':=.bool false) rfl (qx (Wd.sw d5).1 rfl) ?_
 refine At.eD rfl rfl ?_
 refine At.skip ?_
 refine At.seq ?_
 refine At.rg [0,1,2] ?_
 refine At.lv 3 ?_
 refine At.aP ?_
 refine At.is 12 (v':=.bool false) rfl (qx (Wd.sw h5).2.2.2.1 (by rw [o8]; rfl)) ?_
 refine At.eD rfl rfl ?_
 refine At.rg [0,1,2,3] ?_
 refine At.lv 3 ?_
 refine sW λ m hm=>KW.ext rfl rfl rfl rfl acm rfl rfl λ _ w s _ bn hs _=>.inr ⟨_,_,_,.ue,_,RI rfl bn.L9 (bn.zm 1),.us,trivial,Hn (.inl rfl),afV bn hs.2,λ aZ bf=>(?_:At (WJ F m k j .ue) _ _ _ _ _) aZ bf⟩
 refine At.aP ?_
 exact At.pO func233 rfl (hk m) (.inl rfl)
noncomputable def ad2:Code:=(vD (Tryz.f233.body.getD .skip)).getD .skip
theorem aH2{fr:Frame}{cs:List Frame}{todo:List Item}(hk:Qq F k j R H (aV (fr.finish (gX [])) cs))(n:Nat)(m:Wd)(hm:m.ok F.N) :
  At (WJ F n k j (hu m)) ⟨233,.normal,none,43,[],fr::cs⟩ R H [(0,pm F),(4,.int .i32 m.val)] (.code ad2 :: .inLoop ad2::todo):=by
 have hN:=F.hN
 refine At.head (Jn:=λ n (m:Wd)=>WJ F n k j (hu m)) (S:=λ m=>[(0,pm F),(4,.int .i32 m.val)]) (ok:=λ m=>m.ok F.N) (λ n ih m hm=>?_) n m hm
 have h5:m.ok 5:=Aa hm (by omega)
 have s3:=(Wd.sw h5).2.2.2.2.2.2.2.2.2.2
 have b7:=(Wd.sw h5).2.2.2.2.2.1
 have qJ:m.val.fdiv (2 ^ (min (3:Int).toNat IntKind.i32.bits))=(m.n:Int):=by simpa [lB] using s3
 refine At.block ?_
 refine At.seq ?_
 refine At.seq ?_
 refine At.rg [0,1,2,3,4,5,6,7] ?_
 refine At.lv 4 ?_
 by_cases hn:m.n=0
 ·rw [show hu m = .ue from if_pos (.inl hn)]
  refine At.is 17 (v':=.bool true) rfl (congrArg Value.bool (by show (m.val.fdiv (2 ^ (min (3:Int).toNat IntKind.i32.bits)) == 0)=true; rw [qJ,hn]; rfl)) ?_
  refine At.lv 4 ?_
  refine At.aP ?_
  refine At.fA rfl rfl ?_
  exact At.pO func233 rfl (hk n) (.inr ⟨_,rfl⟩)
 refine At.is 17 (v':=.bool false) rfl (congrArg Value.bool (by show (m.val.fdiv (2 ^ (min (3:Int).toNat IntKind.i32.bits)) == 0)=false; rw [qJ,beq_eq_false_iff_ne]; omega)) ?_
 refine At.lv 3 ?_
 obtain ⟨q1,q2,q3,q4⟩:=h5
 by_cases hx:m.l=1∨m.w=1∨m.s=1
 ·rw [show hu m = .ue from if_pos (.inr hx)]
  refine At.is 20 (v':=.bool true) rfl (Bc b7 (by rw [bne_iff_ne]; omega)) ?_
  refine At.lv 1 ?_
  refine At.aP ?_
  refine At.fA rfl rfl ?_
  exact At.pO func233 rfl (hk n) (.inr ⟨_,rfl⟩)
 rw [show hu m = .uc m from if_neg (by simp only [hn,false_or]; exact hx)]
 obtain ⟨e8,k8⟩:=aIK ⟨q1,q2,q3,q4⟩ (by omega) hn
 refine At.is 20 (v':=.bool false) rfl (Bc b7 (by rw [bne_eq_false_iff_eq]; omega)) ?_
 refine At.lv 1 ?_
 refine At.aP ?_
 refine At.eD rfl rfl ?_
 refine At.skip ?_
 refine At.seq ?_
 refine At.rg [0,1,2,3] ?_
 refine At.lv 2 ?_
 refine At.is 23 (v':=.int .i32 (Wd.val { m with n:=m.n - 1 })) rfl (congrArg _ e8) ?_
 refine At.lv 2 ?_
 refine At.aP ?_
 refine At.is 1 (v':=.int .i32 (Wd.val { m with w:=1,n:=m.n - 1 })) rfl (Nx (Wd.sw k8).2.2.2.2.2.2.2.1 rfl) ?_
 refine At.seq ?_
 refine At.seq ?_
 refine At.rg [0,1,2,3,4,5] ?_
 refine At.lv 5 ?_
 refine sW λ p hp=>KW.ext rfl rfl rfl rfl MA rfl rfl λ _ w s _ bn hs _=>.inr ?_
 by_cases dp:s.mu=m
 ·subst dp
  refine ⟨.bool true,_,_,.us,_,Eo bn.cm (bn.zm 0),.afT rfl,trivial,pL (.inl rfl),cu.mu bn,λ aZ bf=>(?_:At (WJ F p k j .us) _ _ _ _ _) aZ bf⟩
  refine At.aP ?_
  refine At.fA rfl rfl ?_
  refine At.seq ?_
  refine At.rg [0,1,2,3] ?_
  refine At.lv 3 ?_
  refine sW λ q hq=>KW.ext rfl rfl rfl rfl acm rfl rfl λ _ w s _ bn hs _=>.inr ⟨_,_,_,.ue,_,RI rfl bn.L9 (bn.zm 1),.us,trivial,Hn (.inl rfl),afV bn hs.2,λ aZ bf=>(?_:At (WJ F q k j .ue) _ _ _ _ _) aZ bf⟩
  refine At.aP ?_
  exact At.pO func233 rfl (hk q) (.inr ⟨_,rfl⟩)
 ·refine ⟨.bool false,w,_,.ux,s,HH bn.cm (bn.zm 0) (λ e=>dp (Wd.val_inj hs.1 hm e)),.XZ dp,trivial,wK (.inl rfl),cu.refl bn,λ aZ bf=>(?_:At (WJ F p k j .ux) _ _ _ _ _) aZ bf⟩
  refine At.aP ?_
  refine At.eD rfl rfl ?_
  refine At.skip ?_
  refine At.rg [0,1,2,3,4] ?_
  refine At.lv 3 ?_
  refine sW λ q hq=>KW.look rfl rfl rfl rfl rfl FO (by kernel_rfl) rfl ⟨by simp,by simp⟩ (λ _ h=>h) λ ot s hs=>⟨_,.ux,oD (by simp),λ aZ bf=>aeJ ((?_:At (WJ F q k j (hu s.mu)) _ _ _ _ _) aZ bf)⟩
  refine At.lv 1 ?_
  refine At.aP ?_
  refine At.inBlock ?_
  refine At.inLoop ?_
  refine At.sub ?_ (ih q (Nat.lt_trans hq hp) s.mu hs.1)
  exact cj.sub ⟨rfl,rfl,trivial⟩
theorem aH3{m:Wd}(hm:m.ok F.N)(hl:m.l=0)(EL:m.s=0)(n:Nat):kA prog ((WJ F n k j (hu m)).J R H) (Qq F k j R H) 233 [pm F,.int .i32 m.val]:=kA.bq func233 rfl rfl rfl λ fr cs hk=>by
 have hN:=F.hN
 have h5:m.ok 5:=Aa hm (by omega)
 have e1:=agF h5 hl
 have d5:Wd.ok 5 { m with l:=1 }:=⟨Nat.le_refl _,h5.2.1,h5.2.2.1,h5.2.2.2⟩
 refine At.seq ?_
 refine At.seq ?_
 refine At.rg [0,1,2,3] ?_
 refine At.lv 2 ?_
 refine At.is 6 (v':=.int .i32 (Wd.val { m with l:=1 })) rfl (congrArg _ e1) ?_
 refine At.lv 2 ?_
 refine At.aP ?_
 refine At.is 8 (v':=.bool false) rfl (qx (Wd.sw d5).1 rfl) ?_
 refine At.eD rfl rfl ?_
 refine At.skip ?_
 refine At.seq ?_
 refine At.rg [0,1,2] ?_
 refine At.lv 3 ?_
 refine At.aP ?_
 refine At.is 12 (v':=.bool true) rfl (qx (Wd.sw h5).2.2.2.1 (by rw [EL]; rfl)) ?_
 refine At.fA rfl rfl ?_
 refine At.seq ?_
 refine At.rg [0,1] ?_
 refine At.lv 2 ?_
 refine At.aP ?_
 refine At.block ?_
 refine At.enterLoop ?_
 refine At.sub ?_ (aH2 hk n m hm)
 exact cj.sub ⟨rfl,rfl,trivial⟩
end
end Go.Proofs.YtihapemckcdicaaGreatDoor
namespace Go.Proofs.YtihapemckcdicaaGreatDoor
open Go.Lg Go.Proofs Go.Conc Tryz
set_option maxRecDepth 100000
set_option maxHeartbeats 4000000
section
variable {F:Fx} {R:ax} {H:aj} {k j:Nat}
noncomputable def ak2:Code:=match Tryz.f204.body with | some (.seq _ (.seq _ (.seq _ z)))=>z | _=>.skip
theorem Ww{fr:Frame}{cs:List Frame}{st:St}(hj:j≤F.J)(hk:Qr F k j R H (aV (fr.finish (gX [])) cs))(n:Nat):At (WJ F n k j .ue) ⟨204,.normal,none,21,[],fr::cs⟩ R H st [.code ak2]:=by
 refine At.rg [0] ?_
 refine sW λ m hm=>KW.ext rfl rfl rfl rfl Bl rfl rfl λ _ w s _ bn _ _=>.inr ?_
 by_cases h:j < F.J
 ·refine ⟨_,w,_,.ld,s,qA (by simp),.OK,h,rfl,cu.refl bn,λ aZ bf=>(?_:At (WJ F m k j .ld) _ _ _ _ _) aZ bf⟩
  refine At.aP ?_
  exact At.pO func204 rfl (hk.1 h m) (.inl rfl)
 ·have h':j=F.J:=by omega
  refine ⟨_,w,_,.wv,s,qA (by simp),.OL,h',rfl,cu.refl bn,λ aZ bf=>(?_:At (WJ F m k j .wv) _ _ _ _ _) aZ bf⟩
  refine At.aP ?_
  exact At.pO func204 rfl (hk.2 h' m) (.inl rfl)
theorem aB4{js:Nat→Nat}(hj:j+1≤F.J)(n:Nat):kA prog ((WJ F n k j (.ul js)).J R ((F.bo,F.cont (fY js k (j+1)))::H)) (Qr F k (j+1) R H) 204 [pm F]:=kA.bq func204 rfl rfl rfl λ fr cs hk=>by
 have hN:=F.hN
 refine At.seq ?_
 refine At.fA rfl rfl ?_
 refine At.seq ?_
 refine At.rg [0,1,2,3] ?_
 refine At.lv 3 ?_
 refine sW λ m hm=>KW.look rfl rfl rfl rfl rfl FO (by kernel_rfl) rfl ⟨by simp,by simp⟩ (λ _ h=>h) λ ot s hs=>⟨.uv js,.ul,oD (by simp),λ aZ bf=>(?_:At (WJ F m k j (.uv js)) _ _ _ _ _) aZ bf⟩
 refine At.aP ?_
 refine At.seq ?_
 refine At.rg [0,1,2] ?_
 refine At.lv 1 ?_
 refine sW λ m hm=>KW.conv rfl rfl rfl rfl rfl X1 rfl Qy ⟨by simp,by simp⟩ pK (λ _=>.uv) trivial λ aZ bf=>(?_:At (WJ F m k j (.ur js)) _ _ _ _ _) aZ bf
 refine sW λ m hm=>KW.ext rfl rfl rfl rfl acg rfl rfl λ _ w s _ bn _ _=>.inr ⟨_,w,_,.ud,s,Bf (λ _ _=>by simp) rfl,.ur,trivial,rfl,cu.refl bn,λ aZ bf=>⟨js,H,rfl,rfl,(?_:At (WJ F m k (j+1) .ud) _ _ _ _ _) aZ bf⟩⟩
 refine At.aP ?_
 refine At.rg [0] ?_
 refine sW λ m hm=>KW.ext rfl rfl rfl rfl HL rfl rfl λ _ w s _ bn _ _=>.inr ⟨_,w,_,.u0,s,qA (by simp),.ud,trivial,rfl,cu.refl bn,λ aZ bf=>(?_:At (WJ F m k (j+1) .u0) _ _ _ _ _) aZ bf⟩
 refine At.aP ?_
 refine At.seq ?_
 refine At.rg [0,1,2,3,4] ?_
 refine At.lv 3 ?_
 refine sW λ m hm=>KW.ext rfl rfl rfl rfl acj rfl rfl λ _ w s _ bn hs _=>.inr ?_
 obtain ⟨iU,hl⟩:=hs
 have h5:s.mu.ok 5:=Aa iU (show (FT F).N≤5 from Nat.le_trans hN (by omega))
 have e:=aII h5 hl
 have k5:Wd.ok F.N { s.mu with l:=0 }:=⟨Nat.zero_le _,iU.2.1,iU.2.2.1,iU.2.2.2⟩
 by_cases o8:s.mu.s=1
 ·refine ⟨_,_,_,.us,_,y3 bn.cm (bn.zm 0),.u0h o8,trivial,pL (.inl rfl),by rw [e]; exact cu.mu bn,λ aZ bf=>(?_:At (WJ F m k (j+1) .us) _ _ _ _ _) aZ bf⟩
  refine At.lv 1 ?_
  refine At.aP ?_
  refine At.is 2 (v':=.int .i32 (Wd.val { s.mu with l:=0 })) rfl (congrArg _ e) ?_
  refine At.seq ?_
  refine At.seq ?_
  refine At.rg [0,1] ?_
  refine At.lv 2 ?_
  refine At.aP ?_
  refine At.is 16 (v':=.bool true) rfl (congrArg Value.bool (by rw [bne_iff_ne]; simp only [Wd.val]; omega)) ?_
  refine At.fA rfl rfl ?_
  refine At.rg [0,1,2] ?_
  refine At.lv 2 ?_
  refine At.vE rfl rfl rfl rfl rfl abx rfl (aH1 (m:={ s.mu with l:=0 }) ⟨Nat.zero_le _,h5.2.1,h5.2.2.1,h5.2.2.2⟩ rfl o8 m) λ aZ bf n=>(?_:At (WJ F n k (j+1) .ue) _ _ _ _ _) aZ bf
  refine At.aP ?_
  exact Ww hj hk n
 have EL:s.mu.s=0:=by have:=iU.2.2.1; omega
 by_cases hz:s.mu.w=0∧s.mu.s=0∧s.mu.n=0
 ·refine ⟨_,_,_,.ue,_,y3 bn.cm (bn.zm 0),.u0z hz.1 hz.2.1 hz.2.2,trivial,pL (.inl rfl),by rw [e]; exact cu.mu bn,λ aZ bf=>(?_:At (WJ F m k (j+1) .ue) _ _ _ _ _) aZ bf⟩
  refine At.lv 1 ?_
  refine At.aP ?_
  refine At.is 2 (v':=.int .i32 (Wd.val { s.mu with l:=0 })) rfl (congrArg _ e) ?_
  refine At.seq ?_
  refine At.seq ?_
  refine At.rg [0,1] ?_
  refine At.lv 2 ?_
  refine At.aP ?_
  refine At.is 16 (v':=.bool false) rfl (congrArg Value.bool (by rw [bne_eq_false_iff_eq]; simp only [Wd.val]; omega)) ?_
  refine At.eD rfl rfl ?_
  refine At.skip ?_
  exact Ww hj hk m
 ·refine ⟨_,_,_,hu { s.mu with l:=0 },_,y3 bn.cm (bn.zm 0),.yf hz EL,oD (by simp),pL (.inl rfl),by rw [e]; exact cu.mu bn,λ aZ bf=>aeJ ((?_:At (WJ F m k (j+1) (hu { s.mu with l:=0 })) _ _ _ _ _) aZ bf)⟩
  refine At.lv 1 ?_
  refine At.aP ?_
  refine At.is 2 (v':=.int .i32 (Wd.val { s.mu with l:=0 })) rfl (congrArg _ e) ?_
  refine At.seq ?_
  refine At.seq ?_
  refine At.rg [0,1] ?_
  refine At.lv 2 ?_
  refine At.aP ?_
  refine At.is 16 (v':=.bool true) rfl (congrArg Value.bool (by rw [bne_iff_ne]; simp only [Wd.val]; omega)) ?_
  refine At.fA rfl rfl ?_
  refine At.rg [0,1,2] ?_
  refine At.lv 2 ?_
  refine At.vE rfl rfl rfl rfl rfl abx rfl (aH3 k5 rfl EL m) λ aZ bf n=>(?_:At (WJ F n k (j+1) .ue) _ _ _ _ _) aZ bf
  refine At.aP ?_
  exact Ww hj hk n
theorem aHY{js:Nat→Nat}(hj:j+1≤F.J)(n:Nat):kA prog ((WJ F n k j (.ul js)).J R ((F.bo,F.cont (fY js k (j+1)))::H)) (Qr F k (j+1) R H) 174 [pm F]:=kA.bq func174 rfl rfl rfl λ fr cs hk=>by
 refine At.rg [0,1,2,3] ?_
 refine At.lv 3 ?_
 refine At.vE rfl rfl rfl rfl rfl alK rfl (aB4 hj n) λ aZ bf=>⟨λ h n=>(?_:At (WJ F n k (j+1) .ld) _ _ _ _ _) aZ bf,λ h n=>(?_:At (WJ F n k (j+1) .wv) _ _ _ _ _) aZ bf⟩
 ·refine At.aP ?_
  exact At.pO func174 rfl (hk.1 h n) (.inl rfl)
 ·refine At.aP ?_
  exact At.pO func174 rfl (hk.2 h n) (.inl rfl)
end
end Go.Proofs.YtihapemckcdicaaGreatDoor
namespace Go.Proofs.YtihapemckcdicaaGreatDoor
open Go.Lg Go.Proofs Go.Conc Go.ConcN Tryz
set_option maxRecDepth 100000
set_option maxHeartbeats 4000000
section
variable {F:Fx} {R:ax} {H:aj} {k j:Nat}
abbrev pw(F:Fx):Value:=.pointer (some (aw F))
noncomputable abbrev TQ (F:Fx) (n k j:Nat) (T:Lp) (R:ax) (H:aj):=toJ prog (KW (FT F) n k j T R H)
theorem sQ{c:Ctx}{st:St}{todo:List Item}{n:Nat}{T:Lp}(h:∀ m,m < n→∀ tmps,cS c.n st tmps→KW (FT F) (m+1) k j T R H (aV (aU c tmps todo) c.cs)):aB (TQ F n k j T R H) c st todo:=λ tmps ht=>by
 cases n with
 | zero=>exact ⟨0,trivial⟩
 | succ n=>exact ⟨0,h n (Nat.lt_succ_self n) tmps ht⟩
def Gone(g:Goroutine):Prop:=∃ q,QuitsD prog q 0 g
theorem Gn(s:Sh):yw s=4294967296 * (s.v:Int)+s.w:=rfl
theorem akW{s:Sh}{w:World}(bn:fu (FT F) s w)(h0:s.ws=0):cu (FT F) { s with ws:=s.ws+1 } w (w.setCell (qt F) (.int .u32 (IntKind.u32.wrap ((s.ws:Int)+1)))):=by
 rw [wrap_u32 (by omega) (by omega)]
 exact cu.ws bn
theorem ZJ{n:Nat}{st:St}{fr:Frame}{cs:List Frame}{todo:List Item}{args:Array Value}(hk:Gone (aV (fr.finish (gX [])) cs))(hm:todo=[]∨∃ k,todo = .code .ret::k):aB (xU prog 1) ⟨169,.normal,none,n,[dcall 192 args],fr::cs⟩ st todo:=by
 have key:∀ tmps todo,cS n st tmps→(xU prog 1).Q (aV (iX ⟨169,.normal,none,n,[dcall 192 args],fr::cs⟩ tmps todo) (fr::cs)):=λ tmps todo ht =>
  aGr rfl Bl (QJ.back (J:=xU prog 0) func169 ht rfl hk)
 rcases hm with rfl | ⟨k,rfl⟩
 ·exact aB.Rs rfl λ tmps ht=>key tmps _ ht
 ·exact aB.ret rfl λ tmps ht=>key tmps _ ht
noncomputable def FJ:Code:=match Tryz.f169.body with | some (.seq _ (.seq _ (.seq _ (.seq _ z))))=>z | _=>.skip
noncomputable def akH:Code:=match FJ with | .seq _ (.seq _ (.seq _ (.seq _ (.seq _ (.seq _ (.seq (.seq _ x) _))))))=>x | _=>.skip
noncomputable def r27:Code:=match FJ with | .seq _ (.seq _ (.seq _ (.seq _ (.seq _ (.seq _ (.seq _ y))))))=>y | _=>.skip
theorem LW{b:Option Int}{z y:Int}{p:Bool}(h:b=some z)(hp:(z != y)=p):Value.bool (b.getD 0 != y) = .bool p:=by rw [h]; exact congrArg _ hp
theorem ZK{J:QJ prog}{c:Ctx}{st:St}{kk:List Item}{v w:Nat}(hc:c.kind = .normal)(hn:c.n=117)(hv:v≤5)(hw:w≤1)(cQ:aA st [(0,pw F),(1,.int .i64 (-1)),(4,.bool false),(6,.int .u64 (4294967296 * (v:Int)+w))])
  (h:aB J c [(0,pw F),(4,.bool false),(6,.int .u64 (4294967296 * (v:Int)+w)),(8,.int .u32 w),(94,.bool (decide (0 < v∨w=0)))] (.code akH :: .code r27::kk)):aB J c st (.code FJ::kk):=by
 obtain ⟨f,kind,ro,n,ds,cs⟩:=c
 dsimp only at hc hn
 subst hc hn
 obtain ⟨g1,g2,g3⟩:=Yk hv hw
 have gs:(4294967296 * (v:Int)+w).fdiv (2 ^ (min (32:Int).toNat IntKind.u64.bits))=(v:Int):=by simpa [lB] using g3
 refine aB.sub cQ ?_
 refine aB.seq ?_
 refine aB.seq ?_
 refine aB.rg [0,1,2,3,4,5,6] ?_
 refine aB.lv 4 ?_
 refine aB.is 47 (v':=.bool false) rfl (LW g1 rfl) ?_
 refine aB.lv 3 ?_
 refine aB.aP ?_
 refine aB.eD rfl ?_
 refine aB.skip ?_
 refine aB.seq ?_
 refine aB.rg [0,1,2,3] ?_
 refine aB.lv 4 ?_
 refine aB.aP ?_
 refine aB.is 7 (v':=.int .i32 (v:Int)) rfl (congrArg _ (by
  show IntKind.i32.wrap ((4294967296 * (v:Int)+w).fdiv (2 ^ (min (32:Int).toNat IntKind.u64.bits)))=_
  rw [gs,wrap_i32 (by omega) (by omega)])) ?_
 refine aB.seq ?_
 refine aB.rg [0,1,2,3] ?_
 refine aB.lv 4 ?_
 refine aB.aP ?_
 refine aB.is 8 (v':=.int .u32 (w:Int)) rfl (congrArg _ (by rw [g2,Option.getD_some]; exact wrap_u32 (by omega) (by omega))) ?_
 refine aB.seq ?_
 refine aB.seq ?_
 refine aB.rg [0,1,2,3,4,5,6,7,8,9] ?_
 refine aB.lv 5 ?_
 refine aB.is 62 (v':=.bool false) rfl (congrArg Value.bool (by decide)) ?_
 refine aB.lv 5 ?_
 refine aB.aP ?_
 refine aB.eD rfl ?_
 refine aB.skip ?_
 refine aB.seq ?_
 refine aB.seq ?_
 refine aB.rg [0,1] ?_
 refine aB.lv 2 ?_
 refine aB.aP ?_
 refine aB.is 74 (v':=.bool false) rfl (congrArg Value.bool (by rw [decide_eq_false_iff_not]; omega)) ?_
 refine aB.eD rfl ?_
 refine aB.skip ?_
 refine aB.seq ?_
 refine aB.seq ?_
 refine aB.rg [0,1,2,3,4,5,6,7,8,9,10,11] ?_
 refine aB.lv 3 ?_
 rcases (show w=0∨w=1 by omega) with rfl | rfl
 ·refine aB.is 78 (v':=.bool false) rfl rfl ?_
  refine aB.lv 9 ?_
  refine aB.aP ?_
  refine aB.eD rfl ?_
  refine aB.skip ?_
  refine aB.seq ?_
  refine aB.seq ?_
  refine aB.rg [0,1,2,3,4,5] ?_
  refine aB.lv 3 ?_
  by_cases h0:0 < v
  ·refine aB.is 91 (v':=.bool true) rfl (congrArg Value.bool (by rw [decide_eq_true_iff]; omega)) ?_
   refine aB.lv 3 ?_
   refine aB.aP ?_
   refine aB.is 94 (v':=.bool (decide (0 < v∨0=0))) rfl (congrArg Value.bool (by simp [h0])) ?_
   refine aB.sub ?_ h
   exact cj.sub ⟨rfl,rfl,rfl,rfl,rfl,trivial⟩
  ·refine aB.is 91 (v':=.bool false) rfl (congrArg Value.bool (by rw [decide_eq_false_iff_not]; omega)) ?_
   refine aB.lv 3 ?_
   refine aB.aP ?_
   refine aB.is 94 (v':=.bool (decide (0 < v∨0=0))) rfl (congrArg Value.bool (by simp [h0])) ?_
   refine aB.sub ?_ h
   exact cj.sub ⟨rfl,rfl,rfl,rfl,rfl,trivial⟩
 ·refine aB.is 78 (v':=.bool true) rfl rfl ?_
  refine aB.lv 3 ?_
  refine aB.is 81 (v':=.bool false) rfl (congrArg Value.bool (by decide)) ?_
  refine aB.lv 6 ?_
  refine aB.aP ?_
  refine aB.eD rfl ?_
  refine aB.skip ?_
  refine aB.seq ?_
  refine aB.seq ?_
  refine aB.rg [0,1,2,3,4,5] ?_
  refine aB.lv 3 ?_
  by_cases h0:0 < v
  ·refine aB.is 91 (v':=.bool true) rfl (congrArg Value.bool (by rw [decide_eq_true_iff]; omega)) ?_
   refine aB.lv 3 ?_
   refine aB.aP ?_
   refine aB.is 94 (v':=.bool (decide (0 < v∨1=0))) rfl (congrArg Value.bool (by simp [h0])) ?_
   refine aB.sub ?_ h
   exact cj.sub ⟨rfl,rfl,rfl,rfl,rfl,trivial⟩
  ·refine aB.is 91 (v':=.bool false) rfl (congrArg Value.bool (by rw [decide_eq_false_iff_not]; omega)) ?_
   refine aB.lv 3 ?_
   refine aB.aP ?_
   refine aB.is 94 (v':=.bool (decide (0 < v∨1=0))) rfl (congrArg Value.bool (by simp [h0])) ?_
   refine aB.sub ?_ h
   exact cj.sub ⟨rfl,rfl,rfl,rfl,rfl,trivial⟩
theorem aID(n:Nat):kA prog ((WJ F n k j .wv).J R H) Gone 169 [pw F,.int .i64 (-1)]:=kA.bq func169 rfl rfl rfl λ fr cs hk=>by
 have hN:=F.hN
 refine At.seq ?_
 refine At.fA rfl rfl ?_
 refine At.seq ?_
 refine At.seq ?_
 refine At.rg [0,1] ?_
 refine At.lv 2 ?_
 refine At.aP ?_
 refine At.fA rfl (by decide) ?_
 refine At.rg [0,1,2] ?_
 refine At.lv 1 ?_
 refine sW λ m hm=>KW.conv rfl rfl rfl rfl rfl X0 rfl Qz ⟨by simp,by simp⟩ pK (λ _=>.wv) trivial λ aZ bf=>(?_:At (WJ F m k j .wr) _ _ _ _ _) aZ bf
 refine sW λ m hm=>KW.ext rfl rfl rfl rfl acg rfl rfl λ _ w s _ bn _ _=>.inr ⟨_,w,_,.wk,s,Bf (λ _ _=>by simp) rfl,.wr,trivial,rfl,cu.refl bn,λ aZ bf=>(?_:aB (TQ F m k j .wk R H) _ _ _) aZ bf⟩
 refine aB.aP ?_
 refine aB.seq ?_
 refine aB.rg [0] ?_
 refine sQ λ m hm=>KW.ext rfl rfl rfl rfl HL rfl rfl λ _ w s _ bn _ _=>.inr ⟨_,w,_,.d1,s,qA (by simp),.wk,trivial,rfl,cu.refl bn,λ aZ bf=>(?_:aB (TQ F m k j .d1 R H) _ _ _) aZ bf⟩
 refine aB.aP ?_
 refine aB.rg [0] ?_
 refine aB.defer rfl rfl rfl rfl rfl rfl rfl (.N3 rfl) ?_
 refine aB.aP ?_
 refine aB.seq ?_
 refine aB.rg [0] ?_
 refine aB.lv 1 ?_
 refine aB.aP ?_
 refine aB.seq ?_
 refine aB.seq ?_
 refine aB.rg [0] ?_
 refine aB.ext rfl rfl rfl rfl rfl ach rfl (λ w=>RH) (.put rfl) ?_
 refine aB.aP ?_
 refine aB.eD rfl ?_
 refine aB.skip ?_
 refine aB.seq ?_
 refine aB.rg [0,1,2,3,4,5,6,7] ?_
 refine aB.lv 6 ?_
 refine aB.is 42 (v':=.int .u64 18446744069414584320) rfl (congrArg _ (by decide +kernel)) ?_
 refine aB.enter rfl rfl rfl rfl rfl func197 (by decide +kernel) rfl rfl rfl λ afQ xl=>?_
 refine aB.seq ?_
 refine aB.rg [0] ?_
 refine aB.lv 1 ?_
 refine aB.aP ?_
 refine aB.seq ?_
 refine aB.rg [0,1,2,3,4,5] ?_
 refine aB.lv 4 ?_
 refine sQ λ m hm=>KW.ext rfl rfl rfl rfl aci rfl rfl λ _ w s _ bn _ lQ=>.inr ?_
 obtain ⟨v1,v2,w1⟩:=lQ
 have v2':s.v≤F.N:=v2
 have ev:IntKind.u64.wrap (yw s+18446744069414584320)=4294967296 * ((s.v - 1:Nat):Int)+s.w:=by rw [Gn,aIP (by omega) (by omega)]; omega
 by_cases hq:s.v≠1∨s.w=0
 ·refine ⟨_,_,_,.quit,_,y3 bn.cg (bn.zg 0),.HF hq,trivial,pL (.inr rfl),by rw [ev]; exact cu.wg bn,λ aZ bf=>(?_:aB (xU prog 1) _ _ _) aZ bf⟩
  refine aB.lv 1 ?_
  refine aB.is 4 (v':=.int .u64 (4294967296 * ((s.v - 1:Nat):Int)+s.w)) rfl (congrArg _ ev) ?_
  refine aB.aP ?_
  refine aB.ret rfl λ tmps ht=>QJ.back (J:=xU prog 1) (vs:=[.int .u64 (4294967296 * ((s.v - 1:Nat):Int)+s.w)]) func197 ht rfl (aB.resume (c':=⟨0,.normal,none,0,[],_⟩) rfl xl rfl (.put rfl) ?_ rfl)
  refine aB.lv 1 ?_
  refine aB.aP ?_
  refine ZK (F:=F) (v:=s.v - 1) (w:=s.w) rfl rfl (by omega) w1 ?_ ?_
  ·exact cj.sub ⟨rfl,rfl,rfl,rfl,trivial⟩
  ·refine aB.is 94 (v':=.bool true) rfl (congrArg Value.bool (by rw [decide_eq_true_iff]; omega)) ?_
   refine aB.fA rfl ?_
   exact ZJ hk (.inr ⟨_,rfl⟩)
 ·have h1:s.v=1:=by omega
  have h2:s.w=1:=by omega
  refine ⟨_,_,_,.d2,_,y3 bn.cg (bn.zg 0),.Rl h1 h2,trivial,pL (.inr rfl),by rw [ev,h1]; exact cu.wg bn,λ aZ bf=>(?_:aB (TQ F m k j .d2 R H) _ _ _) aZ bf⟩
  refine aB.lv 1 ?_
  refine aB.is 4 (v':=.int .u64 (4294967296 * ((0:Nat):Int)+((1:Nat):Int))) rfl (congrArg _ (by rw [ev,h1,h2])) ?_
  refine aB.aP ?_
  refine aB.ret rfl λ tmps ht=>QJ.back (J:=TQ F m k j .d2 R H) (vs:=[.int .u64 (4294967296 * ((0:Nat):Int)+((1:Nat):Int))]) func197 ht rfl (aB.resume (c':=⟨0,.normal,none,0,[],_⟩) rfl xl rfl (.put rfl) ?_ rfl)
  refine aB.lv 1 ?_
  refine aB.aP ?_
  refine ZK (F:=F) (v:=0) (w:=1) rfl rfl (by omega) (by omega) ?_ ?_
  ·exact cj.sub ⟨rfl,rfl,rfl,rfl,trivial⟩
  refine aB.is 94 (v':=.bool false) rfl rfl ?_
  refine aB.eD rfl ?_
  refine aB.skip ?_
  refine aB.seq ?_
  refine aB.seq ?_
  refine aB.rg [0,1,2,3,4,5] ?_
  refine aB.lv 3 ?_
  refine aB.enter rfl rfl rfl rfl rfl func199 (by decide +kernel) rfl rfl rfl λ aHS Nc=>?_
  refine aB.seq ?_
  refine aB.rg [0] ?_
  refine aB.lv 1 ?_
  refine aB.aP ?_
  refine aB.seq ?_
  refine aB.rg [0,1,2,3,4] ?_
  refine aB.lv 3 ?_
  refine sQ λ m hm=>KW.ext rfl rfl rfl rfl RU rfl rfl λ _ w s _ bn _ lQ=>.inr ⟨_,_,_,.d3,_,Mt bn.cg,.d2,trivial,wK (.inr rfl),cu.refl bn,λ aZ bf=>(?_:aB (TQ F m k j .d3 R H) _ _ _) aZ bf⟩
  obtain ⟨g1,g2⟩:=lQ
  refine aB.lv 1 ?_
  refine aB.is 2 (v':=.int .u64 (4294967296 * ((0:Nat):Int)+((1:Nat):Int))) rfl (congrArg _ (by rw [Gn,g1,g2])) ?_
  refine aB.aP ?_
  refine aB.ret rfl λ tmps ht=>QJ.back (J:=TQ F m k j .d3 R H) (vs:=[.int .u64 (4294967296 * ((0:Nat):Int)+((1:Nat):Int))]) func199 ht rfl (aB.resume (c':=⟨0,.normal,none,0,[],_⟩) rfl Nc rfl (.put rfl) ?_ rfl)
  refine aB.lv 2 ?_
  refine aB.aP ?_
  refine aB.is 100 (v':=.bool false) rfl rfl ?_
  refine aB.eD rfl ?_
  refine aB.skip ?_
  refine aB.seq ?_
  refine aB.rg [0,1,2,3] ?_
  refine aB.lv 3 ?_
  refine aB.enter rfl rfl rfl rfl rfl func200 (by decide +kernel) rfl rfl rfl λ aHT Vo=>?_
  refine aB.rg [0,1,2,3,4] ?_
  refine aB.lv 4 ?_
  refine sQ λ m hm=>KW.ext rfl rfl rfl rfl anj rfl rfl λ _ w s _ bn _ lQ=>.inr ⟨_,_,_,.d4,_,amr bn.cg (bn.zg 0),.d3,trivial,aj0 (.inr rfl),cu.wg (v:=0) (u:=0) bn,λ aZ bf=>(?_:aB (TQ F m k j .d4 R H) _ _ _) aZ bf⟩
  refine aB.aP ?_
  refine aB.Rs rfl λ tmps ht=>QJ.back (J:=TQ F m k j .d4 R H) (vs:=[]) func200 ht rfl (aB.resume (c':=⟨0,.normal,none,0,[],_⟩) rfl Vo rfl (.put rfl) ?_ rfl)
  refine aB.aP ?_
  refine aB.seq ?_
  refine aB.seq ?_
  refine aB.rg [0] ?_
  refine aB.lv 1 ?_
  refine aB.aP ?_
  refine aB.eD rfl ?_
  refine aB.skip ?_
  refine aB.block ?_
  refine aB.enterLoop ?_
  refine aB.seq ?_
  refine aB.seq ?_
  refine aB.rg [0,1] ?_
  refine aB.lv 2 ?_
  refine aB.aP ?_
  refine aB.is 110 (v':=.bool true) rfl rfl ?_
  refine aB.fA rfl ?_
  refine aB.skip ?_
  refine aB.seq ?_
  refine aB.block ?_
  refine aB.rg [0,1,2,3] ?_
  refine aB.lv 3 ?_
  refine sQ λ m hm=>KW.ext rfl rfl rfl rfl ang rfl rfl λ _ w s _ bn _ lQ=>.inr ⟨_,_,_,.quit,_,RI rfl bn.L7 (bn.zg 1),.d4,trivial,Hn (.inr rfl),akW bn lQ,λ aZ bf=>(?_:aB (xU prog 1) _ _ _) aZ bf⟩
  refine aB.aP ?_
  refine aB.inBlock ?_
  refine aB.rg [0,1,2] ?_
  refine aB.lv 3 ?_
  refine aB.aP ?_
  refine aB.is 8 (v':=.int .u32 0) rfl rfl ?_
  refine aB.inLoop ?_
  refine aB.seq ?_
  refine aB.seq ?_
  refine aB.rg [0,1] ?_
  refine aB.lv 2 ?_
  refine aB.aP ?_
  refine aB.is 110 (v':=.bool false) rfl rfl ?_
  refine aB.eD rfl ?_
  refine aB.exit rfl ?_
  exact ZJ hk (.inl rfl)
theorem akS{fr:Frame}{cs:List Frame}(zj:fr.mode = .returning∨fr.mode = .panicking [goexitEntry])(hk:Gone (aV fr cs))(n:Nat):(WJ F n k j .wv).J R H (aV (Frame.enter prog 171 #[pw F] .deferred) (fr::cs)):=by
 refine Jd.enter (args:=[pw F]) func171 rfl rfl rfl ?_
 refine At.rg [0,1] ?_
 refine At.lv 1 ?_
 refine At.vE rfl rfl rfl rfl rfl abt rfl (aID n) λ aZ bf=>(?_:aB (xU prog 0) _ _ _) aZ bf
 refine aB.aP ?_
 exact aB.Rs rfl λ tmps ht=>QJ.aag (J:=xU prog 0) func171 ht rfl zj hk
end
section
variable {P:Program} {B:Base} {main:Bool} {ae:Jd P B main} {c:Ctx} {R:ax} {H:aj} {st st':St} {k:List Item} {ops:Array Oper} {i:Nat} {rest:List Nat} {o:Oper} {v:Value}
theorem At.Ny{f:FuncId}{fn:Func}{body:Code}{xs:Array Operand}{ic:Array TypeId}{vs:List Value}{n:Nat}(ho:ops[i]? = some o)(hw:cN ops st o=some true)(hk:(c.kind == CallKind.early)=false)(ao:o.op = .call ⟨.value (.func f),xs,ic⟩)(ha:iG st xs.toList=some vs)
  (hf:P.funcs[f]? = some fn) (Iu:(fn.name == "runtime.NumGoroutine")=false) (hb:fn.body=some body) (qI:fn.ntmps=n) (hn:Nat.ble vs.length n=true)
  (h:∀ tmps,cS c.n st tmps→At ae ⟨f,.normal,none,n,[],aU c tmps (.inRegion ops (i::rest)::k)::c.cs⟩ R H (uR 0 vs) [.code body]):At ae c R H st (.inRegion ops (i::rest)::k):=λ tmps ht=>by
 have hv:ai P (execOp (aU c tmps (.inRegion ops (i::rest)::k)).eval o) (.enter f vs.toArray):=by
  rw [Er ao ht ha]
  exact Dg hf Iu (by rw [hb]; rfl)
 refine Jd.ctl rfl (λ w=>?_) (Jd.enter hf hb qI hn (h tmps ht))
 rw [px ho (kl ht hw) (by rw [ao]; rfl),Hk rfl (by simpa [aU] using hk) (hv w).1,(hv w).2]
 rfl
theorem At.C0{tmps:Array Value}{f:FuncId}{fn:Func}{n:Nat}{vs:List Value}{stf:St}{kf:List Item}(hf:P.funcs[f]? = some fn)(hr:xW stf fn.results.toList=some vs)(ho:ops[i]? = some o)(ht:cS c.n st tmps)(hd:bT o.dst c.n)(hs:aA (bZ o.dst (gX vs) st) st')(h:At ae c R H st' (.inRegion ops rest::k)) :
  At ae ⟨f,.normal,none,n,[],aU c tmps (.inRegion ops (i::rest)::k)::c.cs⟩ R H stf (.code .ret::kf) :=
 At.XY rfl λ aZ bf=>Jd.back hf bf hr (by rw [pR ho]; exact h _ ((ht.put _ hd).sub hs))
end
end Go.Proofs.YtihapemckcdicaaGreatDoor
namespace Go.Proofs.YtihapemckcdicaaGreatDoor
open Go.Lg Go.Proofs Go.Conc Go.ConcN Tryz
set_option maxRecDepth 100000
set_option maxHeartbeats 4000000
section
variable {F:Fx} {R:ax} {H:aj}
noncomputable abbrev fU (F:Fx) (n:Nat) (T:Mp):=Kd prog F.B true (KM (FT F) n T)
theorem sM{c:Ctx}{st:St}{todo:List Item}{n:Nat}{T:Mp}(h:∀ m,m < n→∀ tmps,cS c.n st tmps→KM (FT F) (m+1) T R H (aV (aU c tmps todo) c.cs)):At (fU F n T) c R H st todo:=At.aHH (F:=FT F) h
def Zb(F:Fx)(r:Nat)(R:ax)(H:aj)(g:Goroutine):Prop:=∀ n,Own prog F.B true (KM (FT F) n (.go r)) R H g
noncomputable def t22:Code:=match FJ with | .seq _ (.seq _ (.seq _ (.seq _ y)))=>y | _=>.skip
noncomputable def akG:Code:=match FJ with | .seq _ (.seq _ (.seq _ (.seq (.seq _ x) _)))=>x | _=>.skip
theorem aeA{r:Nat}{fr:Frame}{cs:List Frame}{args:Array Value}{st:St}{v:Nat}(hk:Zb F r R H (aV (fr.finish (gX [])) cs))(h1:1≤v)(h5:v≤5)(cQ:aA st [(0,pw F),(1,.int .i64 1),(7,.int .i32 (v:Int)),(8,.int .u32 0)])(n:Nat) :
  At (fU F n (.ke r)) ⟨169,.normal,none,117,[dcall 192 args],fr::cs⟩ R H st [.code t22]:=by
 refine At.sub cQ ?_
 refine At.seq ?_
 refine At.seq ?_
 refine At.rg [0,1] ?_
 refine At.lv 2 ?_
 refine At.aP ?_
 refine At.is 74 (v':=.bool false) rfl (congrArg Value.bool (by rw [decide_eq_false_iff_not]; omega)) ?_
 refine At.eD rfl rfl ?_
 refine At.skip ?_
 refine At.seq ?_
 refine At.seq ?_
 refine At.rg [0,1,2,3,4,5,6,7,8,9,10,11] ?_
 refine At.lv 3 ?_
 refine At.is 78 (v':=.bool false) rfl rfl ?_
 refine At.lv 9 ?_
 refine At.aP ?_
 refine At.eD rfl rfl ?_
 refine At.skip ?_
 refine At.seq ?_
 refine At.seq ?_
 refine At.rg [0,1,2,3,4,5] ?_
 refine At.lv 3 ?_
 refine At.is 91 (v':=.bool true) rfl (congrArg Value.bool (by rw [decide_eq_true_iff]; omega)) ?_
 refine At.lv 3 ?_
 refine At.aP ?_
 refine At.fA rfl rfl ?_
 refine At.XY rfl λ tmps ht=>?_
 cases n with
 | zero=>exact Own.stop _ _ _ _ trivial
 | succ n=>exact Own.stop _ _ _ _ (KM.unwind (F:=FT F) rfl Bl (Jd.back (ae:=fU F n (.go r)) func169 ht rfl (hk n)))
theorem aFd(r n:Nat):kA prog ((fU F n (.ka r)).J R H) (Zb F r R H) 169 [pw F,.int .i64 1]:=kA.bq func169 rfl rfl rfl λ fr cs hk=>by
 have hN:=F.hN
 refine At.seq ?_
 refine At.fA rfl rfl ?_
 refine At.seq ?_
 refine At.seq ?_
 refine At.rg [0,1] ?_
 refine At.lv 2 ?_
 refine At.aP ?_
 refine At.eD rfl (by decide) ?_
 refine At.skip ?_
 refine At.seq ?_
 refine At.rg [0] ?_
 refine sM λ m hm=>KM.ext rfl rfl rfl rfl HL rfl rfl (by simp) (by simp) λ w s _ bn _=>.inr ⟨_,w,_,.kc r,s,qA (by simp),.ka,rfl,cu.refl bn,λ aZ bf=>(?_:At (fU F m (.kc r)) _ _ _ _ _) aZ bf⟩
 refine At.aP ?_
 refine At.rg [0] ?_
 refine At.defer rfl rfl rfl rfl rfl rfl rfl (.N3 rfl) ?_
 refine At.aP ?_
 refine At.seq ?_
 refine At.rg [0] ?_
 refine At.lv 1 ?_
 refine At.aP ?_
 refine At.seq ?_
 refine At.seq ?_
 refine At.rg [0] ?_
 refine At.ext rfl rfl rfl rfl rfl ach rfl (λ w=>RH) (.put rfl) ?_
 refine At.aP ?_
 refine At.eD rfl rfl ?_
 refine At.skip ?_
 refine At.seq ?_
 refine At.rg [0,1,2,3,4,5,6,7] ?_
 refine At.lv 6 ?_
 refine At.is 42 (v':=.int .u64 4294967296) rfl (congrArg _ (by decide +kernel)) ?_
 refine At.Ny rfl rfl rfl rfl rfl func197 (by decide +kernel) rfl rfl rfl λ afQ xl=>?_
 refine At.seq ?_
 refine At.rg [0] ?_
 refine At.lv 1 ?_
 refine At.aP ?_
 refine At.seq ?_
 refine At.rg [0,1,2,3,4,5] ?_
 refine At.lv 4 ?_
 refine sM λ m hm=>KM.ext rfl rfl rfl rfl aci rfl rfl (by simp) (by simp) λ w s _ bn lQ=>.inr ?_
 obtain ⟨w0,v1⟩:=lQ
 have v1':s.v+1≤F.N:=v1
 have ev:IntKind.u64.wrap (yw s+4294967296)=4294967296 * ((s.v+1:Nat):Int)+((0:Nat):Int):=by rw [Gn,agO (by omega) (by omega)]; omega
 obtain ⟨g1,g2,g3⟩:=Yk (v:=s.v+1) (w:=0) (by omega) (by omega)
 have gs:(4294967296 * ((s.v+1:Nat):Int)+((0:Nat):Int)).fdiv (2 ^ (min (32:Int).toNat IntKind.u64.bits))=((s.v+1:Nat):Int):=by simpa [lB] using g3
 have agI:cu (FT F) { s with v:=s.v+1 } w (w.setCell (aw F) (.int .u64 (IntKind.u64.wrap (yw s+4294967296)))):=by
  rw [ev]; have:=cu.wg (F:=FT F) (v:=s.v+1) (u:=0) bn
  rw [show ({ s with v:=s.v+1 }:Sh)={ s with v:=s.v+1,w:=0 } by rw [← w0]]; exact this
 have go:∀ (T:Mp) (hT:At (fU F m T) ⟨169,.normal,none,117,[dcall 192 #[]],fr::cs⟩ R H [(0,pw F),(1,.int .i64 1),(7,.int .i32 ((s.v+1:Nat):Int)),(8,.int .u32 0),(67,.bool (decide (s.v+1=1)))] [.code akG,.code t22]) (st:St),
   aA st [(0,pw F),(1,.int .i64 1),(4,.bool false),(6,.int .u64 (4294967296 * ((s.v+1:Nat):Int)+((0:Nat):Int)))]→At (fU F m T) ⟨169,.normal,none,117,[dcall 192 #[]],fr::cs⟩ R H st [.code FJ]:=by
  intro T hT st cQ
  refine At.sub cQ ?_
  refine At.seq ?_
  refine At.seq ?_
  refine At.rg [0,1,2,3,4,5,6] ?_
  refine At.lv 4 ?_
  refine At.is 47 (v':=.bool false) rfl (LW g1 rfl) ?_
  refine At.lv 3 ?_
  refine At.aP ?_
  refine At.eD rfl rfl ?_
  refine At.skip ?_
  refine At.seq ?_
  refine At.rg [0,1,2,3] ?_
  refine At.lv 4 ?_
  refine At.aP ?_
  refine At.is 7 (v':=.int .i32 ((s.v+1:Nat):Int)) rfl (congrArg _ (by
   show IntKind.i32.wrap ((4294967296 * ((s.v+1:Nat):Int)+((0:Nat):Int)).fdiv (2 ^ (min (32:Int).toNat IntKind.u64.bits)))=_
   rw [gs,wrap_i32 (by omega) (by omega)])) ?_
  refine At.seq ?_
  refine At.rg [0,1,2,3] ?_
  refine At.lv 4 ?_
  refine At.aP ?_
  refine At.is 8 (v':=.int .u32 0) rfl (congrArg _ (by rw [g2,Option.getD_some]; exact wrap_u32 (by omega) (by omega))) ?_
  refine At.seq ?_
  refine At.seq ?_
  refine At.rg [0,1,2,3,4,5,6,7,8,9] ?_
  refine At.lv 5 ?_
  refine At.is 62 (v':=.bool true) rfl (congrArg Value.bool (by decide)) ?_
  refine At.lv 4 ?_
  refine At.is 66 (v':=.bool (decide (s.v+1=1))) rfl (congrArg Value.bool (aaj (by rw [wrap_i32 (by omega) (by omega)]; omega))) ?_
  refine At.lv 1 ?_
  refine At.aP ?_
  refine At.sub ?_ hT
  exact cj.sub ⟨rfl,rfl,rfl,rfl,rfl,trivial⟩
 by_cases hv:s.v=0
 ·refine ⟨_,_,_,.kv r,{ s with v:=1 },y3 bn.cg (bn.zg 0),.kc1 hv,pL (.inr rfl),by have:=agI; simp only [hv] at this; exact this,λ aZ bf=>(?_:At (fU F m (.kv r)) _ _ _ _ _) aZ bf⟩
  refine At.lv 1 ?_
  refine At.is 4 (v':=.int .u64 (4294967296 * ((s.v+1:Nat):Int)+((0:Nat):Int))) rfl (congrArg _ ev) ?_
  refine At.aP ?_
  refine At.C0 func197 rfl rfl xl rfl (.put rfl) ?_
  refine At.lv 1 ?_
  refine At.aP ?_
  refine go _ ?_ _ ?_
  ·refine At.fA rfl (by rw [decide_eq_true_iff]; omega) ?_
   refine At.rg [0,1,2,3,4] ?_
   refine At.lv 3 ?_
   refine sM λ m hm=>KM.conv rfl rfl rfl rfl rfl afU rfl Z2 (by simp) (by simp) pK (λ _=>.kv) λ aZ bf=>(?_:At (fU F m (.kd r)) _ _ _ _ _) aZ bf
   refine sM λ m hm=>KM.ext rfl rfl rfl rfl anf rfl rfl (by simp) (by simp) λ w s1 _ BL _=>.inr ⟨_,w,_,.ke r,s1,Bf (λ _ _=>by simp) rfl,.kd,rfl,cu.refl BL,λ aZ bf=>(?_:At (fU F m (.ke r)) _ _ _ _ _) aZ bf⟩
   refine At.aP ?_
   refine aeA hk (v:=s.v+1) (by omega) (by omega) ?_ m
   exact cj.sub ⟨rfl,rfl,rfl,rfl,trivial⟩
  ·exact cj.sub ⟨rfl,rfl,rfl,rfl,trivial⟩
 ·refine ⟨_,_,_,.ke r,_,y3 bn.cg (bn.zg 0),.kcn hv,pL (.inr rfl),agI,λ aZ bf=>(?_:At (fU F m (.ke r)) _ _ _ _ _) aZ bf⟩
  refine At.lv 1 ?_
  refine At.is 4 (v':=.int .u64 (4294967296 * ((s.v+1:Nat):Int)+((0:Nat):Int))) rfl (congrArg _ ev) ?_
  refine At.aP ?_
  refine At.C0 func197 rfl rfl xl rfl (.put rfl) ?_
  refine At.lv 1 ?_
  refine At.aP ?_
  refine go _ ?_ _ ?_
  ·refine At.eD rfl (by rw [decide_eq_false_iff_not]; omega) ?_
   refine At.skip ?_
   refine aeA hk (v:=s.v+1) (by omega) (by omega) ?_ m
   exact cj.sub ⟨rfl,rfl,rfl,rfl,trivial⟩
  ·exact cj.sub ⟨rfl,rfl,rfl,rfl,trivial⟩
end
end Go.Proofs.YtihapemckcdicaaGreatDoor
namespace Go.Proofs.YtihapemckcdicaaGreatDoor
open Go.Lg Go.Proofs Go.Conc Go.ConcN Tryz
set_option maxRecDepth 100000
set_option maxHeartbeats 4000000
section
variable {F:Fx} {R:ax} {H:aj} {Post:Value→World→Prop}
def ZF(F:Fx)(R:ax)(H:aj)(g:Goroutine):Prop:=∀ js,(∀ k,k < F.N→js k=F.J)→F.mj R ((F.bo,F.cont js)::H) g
noncomputable def ad1:Code:=(vD (Tryz.f175.body.getD .skip)).getD .skip
abbrev aIE(fr:Frame)(cs:List Frame):Ctx:=⟨175,.normal,none,84,[],fr::cs⟩
theorem aIF(rL:F.mj=iD prog F.B Post){fr:Frame}{cs:List Frame}{todo:List Item}(hk:ZF F R H (aV (fr.finish (gX [])) cs))(n:Nat):At (fU F n .w1) (aIE fr cs) R H [(0,pw F)] (.code ad1 :: .inLoop ad1::todo):=by
 have hN:=F.hN
 refine At.head (X:=Unit) (Jn:=λ n _=>fU F n .w1) (S:=λ _=>[(0,pw F)]) (ok:=λ _=>True) (λ n ih _ _=>?_) n () trivial
 refine At.block ?_
 refine At.seq ?_
 refine At.rg [0,1,2,3,4] ?_
 refine At.lv 3 ?_
 refine At.Ny rfl rfl rfl rfl rfl func199 (by decide +kernel) rfl rfl rfl λ afQ xl=>?_
 refine At.seq ?_
 refine At.rg [0] ?_
 refine At.lv 1 ?_
 refine At.aP ?_
 refine At.seq ?_
 refine At.rg [0,1,2,3,4] ?_
 refine At.lv 3 ?_
 refine sM λ m hm=>KM.ext rfl rfl rfl rfl RU rfl rfl (by simp) (by simp) λ w s _ bn lQ=>.inr ?_
 obtain ⟨w0,v1⟩:=lQ
 have v1':s.v≤F.N:=v1
 have ev:yw s=4294967296 * (s.v:Int)+((0:Nat):Int):=by rw [Gn,w0]
 obtain ⟨g1,g2,g3⟩:=Yk (v:=s.v) (w:=0) (by omega) (by omega)
 have gs:(4294967296 * (s.v:Int)+((0:Nat):Int)).fdiv (2 ^ (min (32:Int).toNat IntKind.u64.bits))=(s.v:Int):=by simpa [lB] using g3
 by_cases hv:s.v=0
 ·refine ⟨_,_,_,.we,s,Mt bn.cg,.w1z hv,wK (.inr rfl),cu.refl bn,λ aZ bf=>(?_:At (fU F m .we) _ _ _ _ _) aZ bf⟩
  refine At.lv 1 ?_
  refine At.is 2 (v':=.int .u64 (4294967296 * (s.v:Int)+((0:Nat):Int))) rfl (congrArg _ ev) ?_
  refine At.aP ?_
  refine At.C0 func199 rfl rfl xl rfl (.put rfl) ?_
  refine At.lv 1 ?_
  refine At.aP ?_
  refine At.seq ?_
  refine At.rg [0,1,2,3] ?_
  refine At.lv 4 ?_
  refine At.aP ?_
  refine At.is 3 (v':=.int .i32 (s.v:Int)) rfl (congrArg _ (by
   show IntKind.i32.wrap ((4294967296 * (s.v:Int)+((0:Nat):Int)).fdiv (2 ^ (min (32:Int).toNat IntKind.u64.bits)))=_
   rw [gs,wrap_i32 (by omega) (by omega)])) ?_
  refine At.seq ?_
  refine At.rg [0,1,2,3] ?_
  refine At.lv 4 ?_
  refine At.aP ?_
  refine At.is 4 (v':=.int .u32 0) rfl (congrArg _ (by rw [g2,Option.getD_some]; exact wrap_u32 (by omega) (by omega))) ?_
  refine At.seq ?_
  refine At.seq ?_
  refine At.rg [0,1] ?_
  refine At.lv 2 ?_
  refine At.aP ?_
  refine At.is 19 (v':=.bool true) rfl (congrArg Value.bool (by rw [hv]; rfl)) ?_
  refine At.fA rfl rfl ?_
  refine At.seq ?_
  refine At.fA rfl rfl ?_
  refine At.seq ?_
  refine At.rg [0] ?_
  refine sM λ m hm=>KM.ext rfl rfl rfl rfl Bl rfl rfl (by simp) (by simp) λ w s1 _ BL _=>.inr ⟨_,w,_,.qv,s1,qA (by simp),.we,rfl,cu.refl BL,λ aZ bf=>(?_:At (fU F m .qv) _ _ _ _ _) aZ bf⟩
  refine At.aP ?_
  refine At.rg [0,1,2] ?_
  refine At.lv 1 ?_
  refine sM λ m hm=>KM.conv rfl rfl rfl rfl rfl X0 rfl Qz (by simp) (by simp) pK (λ _=>.qv) λ aZ bf=>(?_:At (fU F m .wq) _ _ _ _ _) aZ bf
  refine sM λ m hm=>KM.acq rfl rfl rfl rfl Mz rfl rfl rfl λ js gU aZ bf=>?_
  have dM:=hk js gU
  show F.mj _ _ _
  rw [rL] at dM ⊢
  refine (?_:At (CQ prog F.B Post) _ _ _ _ _) aZ bf
  refine At.aP ?_
  refine At.seq ?_
  refine At.seq ?_
  refine At.rg [0,1,2,3,4,5,6,7,8,9,10] ?_
  refine At.lv 2 ?_
  refine At.is 25 (v':=.bool true) rfl rfl ?_
  refine At.lv 4 ?_
  refine At.is 29 (v':=.bool false) rfl (LW g1 rfl) ?_
  refine At.lv 5 ?_
  refine At.aP ?_
  refine At.eD rfl rfl ?_
  refine At.skip ?_
  exact At.pO func175 rfl dM (.inr ⟨_,rfl⟩)
 ·refine ⟨_,_,_,.w2 s.v,s,Mt bn.cg,.w1n hv,wK (.inr rfl),cu.refl bn,λ aZ bf=>(?_:At (fU F m (.w2 s.v)) _ _ _ _ _) aZ bf⟩
  refine At.lv 1 ?_
  refine At.is 2 (v':=.int .u64 (4294967296 * (s.v:Int)+((0:Nat):Int))) rfl (congrArg _ ev) ?_
  refine At.aP ?_
  refine At.C0 func199 rfl rfl xl rfl (.put rfl) ?_
  refine At.sub (st':=[(0,pw F),(11,.int .u64 (4294967296 * (s.v:Int)+((0:Nat):Int)))]) (cj.sub ⟨rfl,rfl,trivial⟩) ?_
  clear ev bn bf xl
  generalize s.v=u at hv v1' g1 g2 g3 gs v1 ⊢
  refine At.lv 1 ?_
  refine At.aP ?_
  refine At.seq ?_
  refine At.rg [0,1,2,3] ?_
  refine At.lv 4 ?_
  refine At.aP ?_
  refine At.is 3 (v':=.int .i32 (u:Int)) rfl (congrArg _ (by
   show IntKind.i32.wrap ((4294967296 * (u:Int)+((0:Nat):Int)).fdiv (2 ^ (min (32:Int).toNat IntKind.u64.bits)))=_
   rw [gs,wrap_i32 (by omega) (by omega)])) ?_
  refine At.seq ?_
  refine At.rg [0,1,2,3] ?_
  refine At.lv 4 ?_
  refine At.aP ?_
  refine At.is 4 (v':=.int .u32 0) rfl (congrArg _ (by rw [g2,Option.getD_some]; exact wrap_u32 (by omega) (by omega))) ?_
  refine At.seq ?_
  refine At.seq ?_
  refine At.rg [0,1] ?_
  refine At.lv 2 ?_
  refine At.aP ?_
  refine At.is 19 (v':=.bool false) rfl (congrArg Value.bool (by rw [beq_eq_false_iff_ne]; omega)) ?_
  refine At.eD rfl rfl ?_
  refine At.skip ?_
  refine At.seq ?_
  refine At.rg [0,1,2,3,4,5,6] ?_
  refine At.lv 6 ?_
  refine At.is 47 (v':=.int .u64 (4294967296 * (u:Int)+((1:Nat):Int))) rfl (congrArg _ (by rw [agO (by omega) (by omega)]; omega)) ?_
  refine At.Ny rfl rfl rfl rfl rfl func207 (by decide +kernel) rfl rfl rfl λ aHS Nc=>?_
  refine At.seq ?_
  refine At.rg [0] ?_
  refine At.lv 1 ?_
  refine At.aP ?_
  refine At.seq ?_
  refine At.rg [0,1,2,3,4,5,6] ?_
  refine At.lv 5 ?_
  refine sM λ p hp=>KM.ext rfl rfl rfl rfl ank rfl rfl (by simp) (by simp) λ w s2 _ IB lQ=>.inr ?_
  obtain ⟨y0,y1,y2⟩:=lQ
  have ev2:yw s2=4294967296 * (s2.v:Int)+((0:Nat):Int):=by rw [Gn,y0]
  have SA:=IB.cg
  rw [ev2] at SA
  by_cases he:s2.v=u
  ·subst he
   refine ⟨.bool true,_,_,.wV,{ s2 with w:=1 },Eo SA (IB.zg 0),.agD,pL (.inr rfl),cu.wg (v:=s2.v) (u:=1) IB,λ aZ bf=>(?_:At (fU F p .wV) _ _ _ _ _) aZ bf⟩
   refine At.lv 1 ?_
   refine At.aP ?_
   refine At.C0 func207 rfl rfl Nc rfl (.put rfl) ?_
   refine At.aP ?_
   refine At.fA rfl rfl ?_
   refine At.seq ?_
   refine At.seq ?_
   refine At.rg [0,1,2,3] ?_
   refine At.lv 3 ?_
   refine At.is 51 (v':=.bool true) rfl rfl ?_
   refine At.lv 1 ?_
   refine At.aP ?_
   refine At.fA rfl rfl ?_
   refine At.rg [0,1,2,3,4] ?_
   refine At.lv 3 ?_
   refine sM λ m hm=>KM.conv rfl rfl rfl rfl rfl afU rfl Z2 (by simp) (by simp) pK (λ _=>.wV) λ aZ bf=>(?_:At (fU F m .wW) _ _ _ _ _) aZ bf
   refine sM λ m hm=>KM.ext rfl rfl rfl rfl anh rfl rfl (by simp) (by simp) λ w s1 _ BL _=>.inr ⟨_,w,_,.w3,s1,Bf (λ _ _=>by simp) rfl,.wW,rfl,cu.refl BL,λ aZ bf=>(?_:At (fU F m .w3) _ _ _ _ _) aZ bf⟩
   refine At.aP ?_
   refine At.seq ?_
   refine At.rg [0] ?_
   refine At.lv 1 ?_
   refine At.aP ?_
   refine At.seq ?_
   refine At.seq ?_
   refine At.rg [0,1,2,3,4,5] ?_
   refine At.lv 3 ?_
   refine At.is 60 (v':=.bool false) rfl (LW g1 rfl) ?_
   refine At.lv 3 ?_
   refine At.aP ?_
   refine At.eD rfl rfl ?_
   refine At.skip ?_
   refine At.seq ?_
   refine At.rg [0,1,2,3,4] ?_
   refine At.lv 4 ?_
   refine sM λ m hm=>KM.ext rfl rfl rfl rfl ani rfl rfl (by simp) (by simp) λ w s3 _ qJ _=>?_
   cases j6:s3.ws with
   | zero=>exact .inl ⟨rfl,rfl,ZI rfl (by have e:=qJ.L7; rw [j6] at e; exact e)⟩
   | succ z =>
    have ea:((z+1:Nat):Int) - 1=(z:Int):=by omega
    refine .inr ⟨_,_,_,.w4,_,abG (n:=((z+1:Nat):Int)) rfl (by have e:=qJ.L7; rw [j6] at e; exact e) (by omega) (qJ.zg 1),.w3 j6,Hn (.inr rfl),by rw [ea]; exact cu.ws qJ,λ aZ bf=>(?_:At (fU F m .w4) _ _ _ _ _) aZ bf⟩
    refine At.aP ?_
    refine At.seq ?_
    refine At.rg [0,1,2,3,4,5] ?_
    refine At.lv 3 ?_
    refine At.Ny rfl rfl rfl rfl rfl func199 (by decide +kernel) rfl rfl rfl λ aHT Vo=>?_
    refine At.seq ?_
    refine At.rg [0] ?_
    refine At.lv 1 ?_
    refine At.aP ?_
    refine At.seq ?_
    refine At.rg [0,1,2,3,4] ?_
    refine At.lv 3 ?_
    refine sM λ m hm=>KM.ext rfl rfl rfl rfl RU rfl rfl (by simp) (by simp) λ w s4 _ ade lQ=>.inr ⟨_,_,_,.we,s4,Mt ade.cg,.w4,wK (.inr rfl),cu.refl ade,λ aZ bf=>(?_:At (fU F m .we) _ _ _ _ _) aZ bf⟩
    obtain ⟨z1,z2⟩:=lQ
    refine At.lv 1 ?_
    refine At.is 2 (v':=.int .u64 0) rfl (congrArg _ (by rw [Gn,z1,z2]; rfl)) ?_
    refine At.aP ?_
    refine At.C0 func199 rfl rfl Vo rfl (.put rfl) ?_
    refine At.lv 2 ?_
    refine At.aP ?_
    refine At.is 6 (v':=.bool false) rfl rfl ?_
    refine At.seq ?_
    refine At.fA rfl rfl ?_
    refine At.seq ?_
    refine At.rg [0] ?_
    refine sM λ m hm=>KM.ext rfl rfl rfl rfl Bl rfl rfl (by simp) (by simp) λ w s1 _ BL _=>.inr ⟨_,w,_,.qv,s1,qA (by simp),.we,rfl,cu.refl BL,λ aZ bf=>(?_:At (fU F m .qv) _ _ _ _ _) aZ bf⟩
    refine At.aP ?_
    refine At.rg [0,1,2] ?_
    refine At.lv 1 ?_
    refine sM λ m hm=>KM.conv rfl rfl rfl rfl rfl X0 rfl Qz (by simp) (by simp) pK (λ _=>.qv) λ aZ bf=>(?_:At (fU F m .wq) _ _ _ _ _) aZ bf
    refine sM λ m hm=>KM.acq rfl rfl rfl rfl Mz rfl rfl rfl λ js gU aZ bf=>?_
    have dM:=hk js gU
    show F.mj _ _ _
    rw [rL] at dM ⊢
    refine (?_:At (CQ prog F.B Post) _ _ _ _ _) aZ bf
    refine At.aP ?_
    refine At.seq ?_
    refine At.seq ?_
    refine At.rg [0] ?_
    refine At.lv 1 ?_
    refine At.aP ?_
    refine At.eD rfl rfl ?_
    refine At.skip ?_
    exact At.pO func175 rfl dM (.inr ⟨_,rfl⟩)
  ·refine ⟨.bool false,w,_,.w1,s2,HH SA (IB.zg 0) (λ e=>he (by omega)),.agC he,wK (.inr rfl),cu.refl IB,λ aZ bf=>(?_:At (fU F p .w1) _ _ _ _ _) aZ bf⟩
   refine At.lv 1 ?_
   refine At.aP ?_
   refine At.C0 func207 rfl rfl Nc rfl (.put rfl) ?_
   refine At.aP ?_
   refine At.eD rfl rfl ?_
   refine At.skip ?_
   refine At.inBlock ?_
   refine At.inLoop ?_
   refine At.sub ?_ (ih p (Nat.lt_trans hp hm) () trivial)
   exact cj.sub ⟨rfl,trivial⟩
theorem aIG(rL:F.mj=iD prog F.B Post)(n:Nat):kA prog ((fU F n .wa).J R H) (ZF F R H) 175 [pw F]:=kA.bq func175 rfl rfl rfl λ fr cs hk=>by
 refine At.seq ?_
 refine At.fA rfl rfl ?_
 refine At.rg [0] ?_
 refine sM λ m hm=>KM.ext rfl rfl rfl rfl HL rfl rfl (by simp) (by simp) λ w s _ bn _=>.inr ⟨_,w,_,.w1,s,qA (by simp),.wa,rfl,cu.refl bn,λ aZ bf=>(?_:At (fU F m .w1) _ _ _ _ _) aZ bf⟩
 refine At.aP ?_
 refine At.block ?_
 refine At.enterLoop ?_
 refine At.sub ?_ (aIF rL hk m)
 exact cj.sub ⟨rfl,trivial⟩
end
end Go.Proofs.YtihapemckcdicaaGreatDoor
namespace Go.Lg
open Go.Conc Go.ConcN
def mM(a:Nat→Nat→Bool)(js:Nat→Nat):List Value:=(List.range 16).map λ p=>.bool (decide (p / 4 < js (p % 4)) && a (p / 4) (p % 4))
theorem aFT(a:Nat→Nat→Bool):mM a (λ _=>0)=List.replicate 16 (.bool false):=by
 simp [mM,List.range,List.range.loop,List.replicate]
theorem Xq{a:Nat→Nat→Bool}{js:Nat→Nat}{p:Nat}(hp:p < 16):(mM a js)[p]? = some (.bool (decide (p / 4 < js (p % 4)) && a (p / 4) (p % 4))):=by
 simp [mM,hp]
theorem aFS{a:Nat→Nat→Bool}{js:Nat→Nat}{k j:Nat}(hk:k < 4)(_:j < 4)(gU:js k=j):mM a (fY js k (j+1))=(mM a js).set (4 * j+k) (.bool (a j k)):=by
 have hl:∀ js,(mM a js).length=16:=λ js=>by simp [mM]
 apply List.ext_getElem?
 intro p
 rcases Nat.lt_or_ge p 16 with hp | hp
 ·rw [Xq hp,List.getElem?_set,Xq hp]
  by_cases e:4 * j+k=p
  ·subst e
   rw [if_pos rfl,if_pos (by rw [hl]; omega)]
   have e1:(4 * j+k) / 4=j:=by omega
   have e2:(4 * j+k) % 4=k:=by omega
   rw [e1,e2,sB]
   simp
  ·rw [if_neg e]
   by_cases e2:p % 4=k
   ·have e3:p / 4≠j:=by omega
    rw [e2,sB,gU]
    have:decide (p / 4 < j+1)=decide (p / 4 < j):=by
     by_cases h:p / 4 < j
     ·simp [h]; omega
     ·simp [h]; omega
    rw [this]
   ·rw [sA e2]
 ·rw [List.getElem?_eq_none (by rw [hl]; exact hp),List.getElem?_eq_none (by rw [List.length_set,hl]; exact hp)]
end Go.Lg
