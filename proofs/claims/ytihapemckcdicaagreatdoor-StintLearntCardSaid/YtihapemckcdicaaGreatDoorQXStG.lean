/- What sync does, walked for the machine. Conditions: none. -/
import Derived.Test.YtihapemckcdicaaGreatDoorQXLgE
import Derived.Test.YtihapemckcdicaaGreatDoorQXStF
namespace Go.Proofs.YtihapemckcdicaaGreatDoor
open Go.Lg Go.Proofs Go.Conc Tryz
set_option maxRecDepth 100000
theorem af3:gT prog 190 (Extern.Race.marked .releaseMerge):=⟨⟨Tryz.f190,func190,by kernel_rfl,by kernel_rfl,by kernel_rfl,by kernel_rfl⟩⟩
theorem KD:gT prog 191 (λ _=>do mark .disable; pure Extern.Race.none_):=⟨⟨Tryz.f191,func191,by kernel_rfl,by kernel_rfl,by kernel_rfl,by kernel_rfl⟩⟩
theorem DT:gT prog 192 (λ _=>do mark .enable; pure Extern.Race.none_):=⟨⟨Tryz.f192,func192,by kernel_rfl,by kernel_rfl,by kernel_rfl,by kernel_rfl⟩⟩
theorem af4:gT prog 193 (λ _=>pure (.bool false)):=⟨⟨Tryz.f193,func193,by kernel_rfl,by kernel_rfl,by kernel_rfl,by kernel_rfl⟩⟩
theorem arZ:gT prog 198 (Extern.Race.marked .read):=⟨⟨Tryz.f198,func198,by kernel_rfl,by kernel_rfl,by kernel_rfl,by kernel_rfl⟩⟩
theorem ar0:gT prog 202 Extern.Sync.semrelease:=⟨⟨Tryz.f202,func202,by kernel_rfl,by kernel_rfl,by kernel_rfl,by kernel_rfl⟩⟩
theorem Pq:gT prog 205 (Extern.Race.marked .acquire):=⟨⟨Tryz.f205,func205,by kernel_rfl,by kernel_rfl,by kernel_rfl,by kernel_rfl⟩⟩
theorem ar1:gT prog 208 (Extern.Race.marked .write):=⟨⟨Tryz.f208,func208,by kernel_rfl,by kernel_rfl,by kernel_rfl,by kernel_rfl⟩⟩
theorem ar2:gT prog 209 Extern.Sync.semacquire:=⟨⟨Tryz.f209,func209,by kernel_rfl,by kernel_rfl,by kernel_rfl,by kernel_rfl⟩⟩
theorem af5:gT prog 227 (Extern.Atomic.update (Op.intArith .add) .u64 true):=⟨⟨Tryz.f227,func227,by kernel_rfl,by kernel_rfl,by kernel_rfl,by kernel_rfl⟩⟩
theorem VS:gT prog 228 (Extern.Atomic.loadT (.int .u64)):=⟨⟨Tryz.f228,func228,by kernel_rfl,by kernel_rfl,by kernel_rfl,by kernel_rfl⟩⟩
theorem ar3:gT prog 229 Extern.Atomic.storeT:=⟨⟨Tryz.f229,func229,by kernel_rfl,by kernel_rfl,by kernel_rfl,by kernel_rfl⟩⟩
theorem Pr:gT prog 230 (Extern.Atomic.casT (.int .i32)):=⟨⟨Tryz.f230,func230,by kernel_rfl,by kernel_rfl,by kernel_rfl,by kernel_rfl⟩⟩
theorem af6:gT prog 232 (Extern.Atomic.update (Op.intArith .add) .i32 true):=⟨⟨Tryz.f232,func232,by kernel_rfl,by kernel_rfl,by kernel_rfl,by kernel_rfl⟩⟩
theorem ar4:gT prog 234 (Extern.Atomic.casT (.int .u64)):=⟨⟨Tryz.f234,func234,by kernel_rfl,by kernel_rfl,by kernel_rfl,by kernel_rfl⟩⟩
theorem ar5:gT prog 241 Extern.Sync.canSpin:=⟨⟨Tryz.f241,func241,by kernel_rfl,by kernel_rfl,by kernel_rfl,by kernel_rfl⟩⟩
theorem ar6:gT prog 242 Extern.Sync.nothing:=⟨⟨Tryz.f242,func242,by kernel_rfl,by kernel_rfl,by kernel_rfl,by kernel_rfl⟩⟩
theorem af7:gT prog 244 Extern.OsHooks.nano:=⟨⟨Tryz.f244,func244,by kernel_rfl,by kernel_rfl,by kernel_rfl,by kernel_rfl⟩⟩
theorem ar7:gT prog 245 Extern.Sync.semacquire:=⟨⟨Tryz.f245,func245,by kernel_rfl,by kernel_rfl,by kernel_rfl,by kernel_rfl⟩⟩
theorem af8:gT prog 247 Extern.Sync.semrelease:=⟨⟨Tryz.f247,func247,by kernel_rfl,by kernel_rfl,by kernel_rfl,by kernel_rfl⟩⟩
def kiT:Nat→Option IntKind
 | 2 | 3=>some .i64
 | 21=>some .i32
 | 190=>some .u32
 | 197=>some .u64
 | _=>none
instance:uY prog:=⟨kiT,λ t k h=>by
 unfold kiT at h
 split at h
 ·cases h; exact underlying2
 ·cases h; exact underlying3
 ·cases h; exact underlying21
 ·cases h; exact underlying190
 ·cases h; exact underlying197
 ·cases h⟩
theorem ab3:GV prog 255 223:=⟨192,underlying255,underlying223,by kernel_rfl⟩
theorem ab2:GV prog 221 223:=⟨201,underlying221,underlying223,by kernel_rfl⟩
theorem akq:GV prog 228 223:=⟨190,underlying228,underlying223,by kernel_rfl⟩
set_option maxHeartbeats 4000000
noncomputable abbrev FT (F:Fx):Fx:={ F with P:=prog }
section
variable {F:Fx} {R:az} {H:ah} {k j:Nat} {fr:Frame} {cs:List Frame}
abbrev pm(F:Fx):Value:=.pointer (some (am F))
noncomputable abbrev WJ (F:Fx) (n k j:Nat) (T:Lp):=M5 prog F.B false (KW (FT F) n k j T)
def AZ(F:Fx)(k j:Nat)(R:az)(H:ah)(g:Goroutine):Prop:=∀ n js,js k=j→Own prog F.B false (KW (FT F) n k j (.ul js)) R ((F.bo,F.cont js)::H) g
theorem sW{c:Ctx}{st:St}{todo:List Item}{n:Nat}{T:Lp}(h:∀ m,m < n→∀ tmps,dh c.n st tmps→KW (FT F) (m+1) k j T R H (aY (aX c tmps todo) c.cs)):At (WJ F n k j T) c R H st todo:=At.aNi (F:=FT F) h
def adY:Code→Option Code
 | .seq (.block _ _) r=>some r
 | .seq _ y=>adY y
 | _=>none
def xY:Code→Option Code
 | .loop c=>some c
 | .seq x y=>match xY x with | some c=>some c | none=>xY y
 | .block _ c=>xY c
 | .cond _ x y=>match xY x with | some c=>some c | none=>xY y
 | _=>none
noncomputable def Ah:Code:=(adY (Tryz.f231.body.getD .skip)).getD .skip
noncomputable def uj:Code:=(xY (Tryz.f231.body.getD .skip)).getD .skip
theorem aj0(hk:AZ F k j R H (aY (fr.finish (iY [])) cs))(n:Nat):At (WJ F n k j .le) ⟨231,.normal,none,139,[],fr::cs⟩ R H [(0,pm F)] [.code Ah]:=by
 refine At.gb rfl rfl ?_
 refine At.seq ?_
 refine At.rg [0] ?_
 refine sW λ n _=>KW.ext rfl rfl rfl rfl DT rfl rfl λ _ w s _ bp _ _=>.inr ⟨_,w,_,.lc,s,sb (by simp),.le,trivial,rfl,cH.refl bp,λ aZ bn=>(?_:At (WJ F n k j .lc) _ _ _ _ _) aZ bn⟩
 refine At.aV ?_
 refine At.rg [0,1,2] ?_
 refine At.lv 1 ?_
 refine sW λ n _=>KW.conv rfl rfl rfl rfl rfl ab3 rfl Uj ⟨by simp,by simp⟩ rj (λ _=>.lc) trivial λ aZ bn=>(?_:At (WJ F n k j .la) _ _ _ _ _) aZ bn
 refine sW λ n _=>KW.ext rfl rfl rfl rfl Pq rfl rfl λ _ w s _ bp _ _=>.inr ⟨_,w,_,.ul λ _=>0,s,DN (λ _ _=>by simp) rfl,.la,trivial,rfl,cH.refl bp,λ aZ bn js iT=>(?_:At (WJ F n k j (.ul js)) _ _ _ _ _) aZ bn⟩
 refine At.aV ?_
 exact At.rp func231 rfl (hk n js iT) (.inl rfl)
theorem CE{N N':Nat}{m:Wd}(h:m.ok N)(hn:N≤N'):m.ok N':=⟨h.1,h.2.1,h.2.2.1,Nat.le_trans h.2.2.2 hn⟩
def C4(F:Fx)(c:Lc)(gJ:Int):St:=[(0,pm F),(2,.int .i64 gJ),(3,.bool c.sv),(4,.bool c.aw),(5,.int .i64 c.it),(6,.int .i32 c.old.val)]
def Sw(F:Fx)(x:Lc × Int):Prop:=x.1.old.ok F.N∧(x.1.aw=true→x.1.old.w=1)∧x.1.ws=decide (x.2≠0)∧x.1.it≤4
theorem r7{b:Option Int}{z y:Int}{p:Bool}(h:b=some z)(hp:(z == y)=p):Value.bool (b.getD 0 == y) = .bool p:=by rw [h]; exact congrArg _ hp
noncomputable def M0:Code:=match uj with | .block _ (.seq _ y)=>y | _=>.skip
noncomputable def aM0:Code:=match uj with | .block _ (.seq (.seq _ (.cond _ (.seq _ z) _)) _)=>z | _=>.skip
abbrev C3(fr:Frame)(cs:List Frame):Ctx:=⟨231,.normal,none,139,[],fr::cs⟩
def w5(F:Fx)(k j:Nat)(R:az)(H:ah)(fr:Frame)(cs:List Frame)(m:Nat):Prop:=∀ x,Sw F x→At (WJ F m k j (hd x.1)) (C3 fr cs) R H (C4 F x.1 x.2) [.code uj,.inLoop uj,.inBlock 0,.code Ah]
theorem Nl{n:Nat}(ih:∀ m,m < n→w5 F k j R H fr cs m){old:Wd}{aw sv:Bool}{it:Nat}{ws:Bool}{gJ:Int}(lg:ws=decide (gJ≠0)){st:St}(de:aB st [(0,pm F),(2,.int .i64 gJ),(3,.bool sv),(4,.bool aw),(5,.int .i64 it)]) :
  At (WJ F n k j (.r1 ⟨old,aw,sv,it,ws⟩)) (C3 fr cs) R H st [.code aM0,.code M0,.inBlock 1,.inLoop uj,.inBlock 0,.code Ah]:=by
 refine At.sub de ?_
 refine At.seq ?_
 refine At.rg [0] ?_
 refine At.ext rfl rfl rfl rfl rfl ar6 rfl (λ w=>VF) (.put rfl) ?_
 refine At.aV ?_
 refine At.seq ?_
 refine At.rg [0,1,2] ?_
 refine At.lv 3 ?_
 refine At.aV ?_
 refine At.seq ?_
 refine At.rg [0,1,2,3,4] ?_
 refine At.lv 3 ?_
 refine sW λ m hm=>KW.look rfl rfl rfl rfl rfl Iz (by kernel_rfl) rfl ⟨by simp,by simp⟩ (λ _ h=>h) λ ot s hs=>⟨_,.r1,pY (by simp),λ aZ bn=>RP ((?_:At (WJ F m k j (hd ⟨s.mu,aw,sv,it+1,ws⟩)) _ _ _ _ _) aZ bn)⟩
 obtain ⟨t1,t2,t3⟩:=ot
 dsimp only at t2
 refine At.lv 1 ?_
 refine At.aV ?_
 refine At.cF rfl ?_
 refine At.inLoop ?_
 refine At.is 5 (v':=.int .i64 ((it+1:Nat):Int)) rfl (by rw [show ((it+1:Nat):Int)=(it:Int)+1 by omega]; exact congrArg _ (ali (by constructor <;> omega))) ?_
 exact At.sub (st':=C4 F ⟨s.mu,aw,sv,it+1,ws⟩ gJ) (cz.sub ⟨rfl,rfl,rfl,rfl,rfl,rfl,trivial⟩) (ih m hm (⟨s.mu,aw,sv,it+1,ws⟩,gJ) ⟨hs.1,hs.2,lg,by dsimp only; omega⟩)
theorem aMU{n:Nat}(ih:∀ m,m < n→w5 F k j R H fr cs m){old:Wd}{aw sv:Bool}{it:Nat}{ws:Bool}{gJ:Int}(hx:Sw F (⟨old,aw,sv,it,ws⟩,gJ))
  (akn:∀ m,m≤n→∀ st,aB st (C4 F ⟨old,aw,sv,it,ws⟩ gJ)→At (WJ F m k j (.c2 ⟨old,aw,sv,it,ws⟩)) (C3 fr cs) R H st [.code M0,.inBlock 1,.inLoop uj,.inBlock 0,.code Ah]) :
  At (WJ F n k j (hd ⟨old,aw,sv,it,ws⟩)) (C3 fr cs) R H (C4 F ⟨old,aw,sv,it,ws⟩ gJ) [.code uj,.inLoop uj,.inBlock 0,.code Ah]:=by
 obtain ⟨gY,xu,lg,PX⟩:=hx
 dsimp only at gY xu lg PX
 have hN:=F.hN
 have h5:=CE gY (show F.N≤5 by omega)
 obtain ⟨b1,b2,b3,b4,b5,b7,o1,o2,o4,n2,s3⟩:=Wd.uL h5
 obtain ⟨q1,q2,q3,q4⟩:=h5
 refine At.bf ?_
 refine At.seq ?_
 refine At.seq ?_
 refine At.rg [0,1,2,3,4,5,6] ?_
 refine At.lv 4 ?_
 by_cases hq:old.l=1∧old.s=0
 ·have Vk:hd ⟨old,aw,sv,it,ws⟩ = .sq ⟨old,aw,sv,it,ws⟩:=if_pos hq
  rw [Vk]
  refine At.is 17 (v':=.bool true) rfl (r7 b5 (by simp [hq])) ?_
  refine At.lv 1 ?_
  refine sW λ m hm=>KW.ext rfl rfl rfl rfl ar5 rfl rfl λ _ w s _ bp _ _=>.inr ?_
  have no:∀ st,aB st (C4 F ⟨old,aw,sv,it,ws⟩ gJ)→At (WJ F m k j (.c2 ⟨old,aw,sv,it,ws⟩)) (C3 fr cs) R H st [.code M0,.inBlock 1,.inLoop uj,.inBlock 0,.code Ah]:=λ st hs=>akn m (Nat.le_of_lt hm) st hs
  by_cases h4:4≤it
  ·refine ⟨.bool false,w,#[],.c2 _,s,aqY (by dsimp only; omega),.Sy,trivial,rj,cH.refl bp,λ aZ bn=>(?_:At (WJ F m k j (.c2 ⟨old,aw,sv,it,ws⟩)) _ _ _ _ _) aZ bn⟩
   refine At.lv 1 ?_
   refine At.aV ?_
   refine At.eX rfl rfl ?_
   refine At.skip ?_
   exact no _ (cz.sub ⟨rfl,rfl,rfl,rfl,rfl,rfl,trivial⟩)
  ·cases hsp:w.spins
   ·refine ⟨.bool false,w.asked,#[],.c2 _,s,hsp ▸ afs (by dsimp only; omega),.Sy,trivial,rj,cH.asked bp,λ aZ bn=>(?_:At (WJ F m k j (.c2 ⟨old,aw,sv,it,ws⟩)) _ _ _ _ _) aZ bn⟩
    refine At.lv 1 ?_
    refine At.aV ?_
    refine At.eX rfl rfl ?_
    refine At.skip ?_
    exact no _ (cz.sub ⟨rfl,rfl,rfl,rfl,rfl,rfl,trivial⟩)
   ·refine ⟨.bool true,w.asked,#[],j4 ⟨old,aw,sv,it,ws⟩,s,hsp ▸ afs (by dsimp only; omega),.Ao (by show it < 4; omega),pY (by simp),rj,cH.asked bp,λ aZ bn=>aKB ((?_:At (WJ F m k j (j4 ⟨old,aw,sv,it,ws⟩)) _ _ _ _ _) aZ bn)⟩
    refine At.lv 1 ?_
    refine At.aV ?_
    refine At.gb rfl rfl ?_
    refine At.seq ?_
    refine At.seq ?_
    refine At.rg [0,1,2,3,4,5,6,7,8,9,10,11,12,13,14,15,16,17,18,19,20] ?_
    have vL:∀ m',m' < m→w5 F k j R H fr cs m':=λ m' h'=>ih m' (Nat.lt_trans h' hm)
    have quiet:¬ (aw=false∧old.w=0∧old.n≠0)→j4 ⟨old,aw,sv,it,ws⟩ = .r1 ⟨old,aw,sv,it,ws⟩:=λ h=>if_neg h
    cases aw
    case true =>
     rw [quiet (by simp)]
     refine At.lv 21 ?_
     refine At.aV ?_
     refine At.eX rfl rfl ?_
     refine At.skip ?_
     refine Nl vL lg ?_
     exact cz.sub ⟨rfl,rfl,rfl,rfl,rfl,trivial⟩
    case false =>
     refine At.lv 6 ?_
     by_cases Zm:old.w=0
     case neg =>
      rw [quiet (by simp [Zm])]
      refine At.is 26 (v':=.bool false) rfl (r7 b2 (by rw [beq_eq_false_iff_ne]; omega)) ?_
      refine At.lv 15 ?_
      refine At.aV ?_
      refine At.eX rfl rfl ?_
      refine At.skip ?_
      refine Nl vL lg ?_
      exact cz.sub ⟨rfl,rfl,rfl,rfl,rfl,trivial⟩
     refine At.is 26 (v':=.bool true) rfl (r7 b2 (by simp [Zm])) ?_
     refine At.lv 5 ?_
     have sI:old.val.fdiv (2 ^ (min (3:Int).toNat IntKind.i32.bits))=(old.n:Int):=by simpa [lT] using s3
     by_cases Ei:old.n=0
     case pos =>
      rw [quiet (by simp [Ei])]
      refine At.is 31 (v':=.bool false) rfl (congrArg Value.bool (by show (old.val.fdiv (2 ^ (min (3:Int).toNat IntKind.i32.bits)) != 0)=false; rw [sI,Ei]; rfl)) ?_
      refine At.lv 10 ?_
      refine At.aV ?_
      refine At.eX rfl rfl ?_
      refine At.skip ?_
      refine Nl vL lg ?_
      exact cz.sub ⟨rfl,rfl,rfl,rfl,rfl,trivial⟩
     refine At.is 31 (v':=.bool true) rfl (congrArg Value.bool (by show (old.val.fdiv (2 ^ (min (3:Int).toNat IntKind.i32.bits)) != 0)=true; rw [sI,bne_iff_ne]; omega)) ?_
     rw [show j4 ⟨old,false,sv,it,ws⟩ = .c1 ⟨old,false,sv,it,ws⟩ from if_pos ⟨rfl,Zm,Ei⟩]
     refine At.lv 8 ?_
     refine At.is 39 (v':=.int .i32 (Wd.val { old with w:=1 })) rfl (by rw [o2]; rfl) ?_
     refine sW λ p hp=>KW.ext rfl rfl rfl rfl Pr rfl rfl λ _ w s _ bp hs _=>.inr ?_
     have hp':∀ m',m' < p→w5 F k j R H fr cs m':=λ m' h'=>vL m' (Nat.lt_trans h' hp)
     by_cases dM:s.mu=old
     ·subst dM
      refine ⟨.bool true,_,_,.r1 ⟨s.mu,true,sv,it,ws⟩,_,He bp.cm (bp.zm 0),.UQ rfl,pY (by simp),rk (.inl rfl),cH.mu bp,λ aZ bn=>(?_:At (WJ F p k j (.r1 ⟨s.mu,true,sv,it,ws⟩)) _ _ _ _ _) aZ bn⟩
      refine At.lv 1 ?_
      refine At.aV ?_
      refine At.gb rfl rfl ?_
      refine At.rg [0] ?_
      refine At.lv 1 ?_
      refine At.aV ?_
      refine Nl hp' lg ?_
      exact cz.sub ⟨rfl,rfl,rfl,rfl,rfl,trivial⟩
     ·refine ⟨.bool false,w,_,.r1 ⟨old,false,sv,it,ws⟩,s,Ky bp.cm (bp.zm 0) (λ e=>dM (Wd.val_inj hs.1 gY e)),.UP dM,pY (by simp),yQ (.inl rfl),cH.refl bp,λ aZ bn=>(?_:At (WJ F p k j (.r1 ⟨old,false,sv,it,ws⟩)) _ _ _ _ _) aZ bn⟩
      refine At.lv 1 ?_
      refine At.aV ?_
      refine At.eX rfl rfl ?_
      refine At.skip ?_
      refine Nl hp' lg ?_
      exact cz.sub ⟨rfl,rfl,rfl,rfl,rfl,trivial⟩
 ·have Vk:hd ⟨old,aw,sv,it,ws⟩ = .c2 ⟨old,aw,sv,it,ws⟩:=if_neg hq
  rw [Vk]
  refine At.is 17 (v':=.bool false) rfl (r7 b5 (by rw [beq_eq_false_iff_ne]; show ¬ ((old.l:Int)+4 * old.s=1); omega)) ?_
  refine At.lv 3 ?_
  refine At.aV ?_
  refine At.eX rfl rfl ?_
  refine At.skip ?_
  exact akn n (dr _) _ (cz.sub ⟨rfl,rfl,rfl,rfl,rfl,rfl,trivial⟩)
def wi(o:Wd):Wd:={ o with l:=if o.s=0 then 1 else o.l }
def yn(o:Wd):Wd:={ wi o with n:=if o.l=1∨o.s=1 then o.n+1 else o.n }
def FF(o:Wd)(sv:Bool):Wd:={ yn o with s:=if sv=true∧o.l=1 then 1 else o.s }
theorem adZ{a b:Int}{p:Prop}[Decidable p](h:a=b↔p):(a == b)=decide p:=by
 by_cases hp:p
 ·rw [gk hp]; exact beq_iff_eq.2 (h.2 hp)
 ·rw [jA hp]; exact beq_eq_false_iff_ne.2 λ e=>hp (h.1 e)
theorem ad1{a b:Int}{p:Prop}[Decidable p](h:a≠b↔p):(a != b)=decide p:=by
 by_cases hp:p
 ·rw [gk hp]; exact bne_iff_ne.2 (h.2 hp)
 ·rw [jA hp,bne,beq_iff_eq.2 (Classical.byContradiction λ e=>hp (h.1 e))]; rfl
theorem DJ{b:Option Int}{z y:Int}{p:Bool}(h:b=some z)(hp:(z != y)=p):Value.bool (b.getD 0 != y) = .bool p:=by rw [h]; exact congrArg _ hp
theorem Q8{b:Option Int}{z y:Int}(h:b=some z)(hp:z=y):Value.int .i32 (b.getD 0) = .int .i32 y:=by rw [h,← hp]; rfl
theorem At.mid{P:Program}{B:Base}{main:Bool}{ab:Jd P B main}{c:Ctx}{R:az}{H:ah}{st:St}{todo K:List Item}(S':St)(h1:(∀ st,aB st S'→At ab c R H st K)→At ab c R H st todo)(h2:At ab c R H S' K):At ab c R H st todo:=h1 λ _ hs=>At.sub hs h2
abbrev M1(F:Fx)(c:Lc)(gJ:Int)(m:Wd):St:=(7,.int .i32 m.val)::C4 F c gJ
noncomputable def aGE:Code:=match M0 with | .seq _ (.seq _ (.seq _ (.seq _ (.seq _ (.seq _ (.cond _ x _))))))=>x | _=>.skip
noncomputable def agd:Code:=match aGE with | .seq _ (.seq _ (.seq _ x))=>x | _=>.skip
noncomputable def asM:Code:=match agd with | .seq _ (.seq _ x)=>x | _=>.skip
theorem aOq{m:Wd}(h:m.ok 5)(hl:m.l=0)(hw:m.w=0)(hs:m.s=1)(hn:m.n≠0)(b:Bool):IntKind.i32.wrap (m.val+(if b then -7 else -11))=Wd.val ⟨1,m.w,if b then m.s else 0,m.n - 1⟩:=by
 obtain ⟨l,w,s,n⟩:=m
 dsimp only at hl hw hs hn
 subst hl hw hs
 have:=h.2.2.2
 dsimp only at this
 cases b
 ·rw [wrap_i32 (by simp only [Wd.val]; split <;> omega) (by simp only [Wd.val]; split <;> omega)]
  simp only [Wd.val]; simp; omega
 ·rw [wrap_i32 (by simp only [Wd.val]; split <;> omega) (by simp only [Wd.val]; split <;> omega)]
  simp only [Wd.val]; simp; omega
theorem ajZ(hk:AZ F k j R H (aY (fr.finish (iY [])) cs)){n:Nat}(ih:∀ m,m < n→w5 F k j R H fr cs m){old:Wd}{aw sv:Bool}{it:Nat}{ws:Bool}{gJ:Int}(lg:ws=decide (gJ≠0)){st:St}(de:aB st [(0,pm F),(2,.int .i64 gJ),(3,.bool sv)]) :
  At (WJ F n k j (.r2 ⟨old,aw,sv,it,ws⟩)) (C3 fr cs) R H st [.code asM,.inBlock 1,.inLoop uj,.inBlock 0,.code Ah]:=by
 have hN:=F.hN
 refine At.sub de ?_
 refine At.seq ?_
 refine At.rg [0,1,2,3,4] ?_
 refine At.lv 3 ?_
 refine sW λ m hm=>KW.look rfl rfl rfl rfl rfl Iz (by kernel_rfl) rfl ⟨by simp,by simp⟩ (λ _ h=>h) λ _ s hs=>?_
 have h5:=CE hs.1 (show (FT F).N≤5 from Nat.le_trans hN (by omega))
 obtain ⟨b1,b2,b3,b4,b5,b7,o1,o2,o4,n2,s3⟩:=Wd.uL h5
 have sI:s.mu.val.fdiv (2 ^ (min (3:Int).toNat IntKind.i32.bits))=(s.mu.n:Int):=by simpa [lT] using s3
 rcases hs.2 with ⟨e1,e2,e3,e4⟩ | ⟨e1,e2⟩
 ·refine ⟨_,.Nd e1,pY (by simp),λ aZ bn=>(?_:At (WJ F m k j (.a1 (sv && s.mu.n != 1))) _ _ _ _ _) aZ bn⟩
  refine At.lv 1 ?_
  refine At.aV ?_
  refine At.seq ?_
  refine At.seq ?_
  refine At.rg [0,1,2] ?_
  refine At.lv 3 ?_
  refine At.aV ?_
  refine At.is 107 (v':=.bool true) rfl (DJ b4 (by rw [e1]; rfl)) ?_
  refine At.gb rfl rfl ?_
  refine At.seq ?_
  refine At.seq ?_
  refine At.rg [0,1,2,3,4,5,6,7] ?_
  refine At.lv 3 ?_
  refine At.is 110 (v':=.bool false) rfl (DJ b3 (by rw [e2,e3]; rfl)) ?_
  refine At.lv 4 ?_
  refine At.is 114 (v':=.bool false) rfl (congrArg Value.bool (by show (s.mu.val.fdiv (2 ^ (min (3:Int).toNat IntKind.i32.bits)) == 0)=false; rw [sI,beq_eq_false_iff_ne]; omega)) ?_
  refine At.lv 1 ?_
  refine At.aV ?_
  refine At.eX rfl rfl ?_
  refine At.skip ?_
  refine At.seq ?_
  refine At.rg [0] ?_
  refine At.lv 1 ?_
  refine At.aV ?_
  refine At.seq ?_
  refine At.seq ?_
  refine At.rg [0,1,2,3,4,5,6] ?_
  refine At.mid (K:=?K) [(0,pm F),(9,.int .i32 (-7)),(123,.bool (!(sv && s.mu.n != 1)))] ?h1 ?h2
  case h1 =>
   intro h
   cases sv
   ·refine At.lv 7 ?_
    refine At.aV ?_
    refine h _ ?_
    exact cz.sub ⟨rfl,rfl,rfl,trivial⟩
   ·refine At.lv 6 ?_
    refine At.is 122 (v':=.bool (!(true && s.mu.n != 1))) rfl (congrArg Value.bool (by
     show (s.mu.val.fdiv (2 ^ (min (3:Int).toNat IntKind.i32.bits)) == 1)=_
     rw [sI]
     by_cases e:s.mu.n=1
     ·rw [e]; rfl
     ·rw [beq_eq_false_iff_ne.2 (by omega)]; simp [e])) ?_
    refine At.lv 1 ?_
    refine At.aV ?_
    refine h _ ?_
    exact cz.sub ⟨rfl,rfl,rfl,trivial⟩
  generalize (sv && s.mu.n != 1)=b
  refine At.join (st':=[(0,pm F),(9,.int .i32 (if b then -7 else -11))]) rfl (λ hb h=>?_) (λ hb h=>?_) ?_
  ·cases b
   ·refine At.rg [0,1,2] ?_
    refine At.lv 3 ?_
    refine At.aV ?_
    refine At.sub ?_ h
    exact cz.sub ⟨rfl,rfl,trivial⟩
   ·cases hb
  ·cases b
   ·cases hb
   ·refine At.skip ?_
    refine At.sub ?_ h
    exact cz.sub ⟨rfl,rfl,trivial⟩
  refine At.seq ?_
  refine At.rg [0,1,2,3,4] ?_
  refine At.lv 4 ?_
  refine sW λ p hp=>KW.ext rfl rfl rfl rfl af6 rfl rfl λ _ w s _ bp hs _=>.inr ?_
  obtain ⟨qB,g1,g2,g3,g4,g5⟩:=hs
  have e:=aOq (CE qB (show (FT F).N≤5 from Nat.le_trans hN (by omega))) g2 g3 g1 g4 b
  refine ⟨_,_,_,.le,_,Bq bp.cm (bp.zm 0),.a1,trivial,rk (.inl rfl),by rw [e]; exact cH.mu bp,λ aZ bn=>(?_:At (WJ F p k j .le) _ _ _ _ _) aZ bn⟩
  refine At.aV ?_
  refine At.cF rfl ?_
  refine At.sub ?_ (aj0 hk p)
  exact cz.sub ⟨rfl,trivial⟩
 ·refine ⟨_,.Af e1,pY (by simp),λ aZ bn=>RP ((?_:At (WJ F m k j (hd ⟨s.mu,true,sv,0,ws⟩)) _ _ _ _ _) aZ bn)⟩
  refine At.lv 1 ?_
  refine At.aV ?_
  refine At.seq ?_
  refine At.seq ?_
  refine At.rg [0,1,2] ?_
  refine At.lv 3 ?_
  refine At.aV ?_
  refine At.is 107 (v':=.bool false) rfl (DJ b4 (by rw [e1]; rfl)) ?_
  refine At.eX rfl rfl ?_
  refine At.skip ?_
  refine At.seq ?_
  refine At.rg [0] ?_
  refine At.lv 1 ?_
  refine At.aV ?_
  refine At.rg [0] ?_
  refine At.lv 1 ?_
  refine At.aV ?_
  refine At.bQ ?_
  refine At.inLoop ?_
  refine At.sub ?_ (ih m hm (⟨s.mu,true,sv,0,ws⟩,gJ) ⟨hs.1,λ _=>e2,lg,Nat.zero_le _⟩)
  exact cz.sub ⟨rfl,rfl,rfl,rfl,rfl,rfl,trivial⟩
theorem ajY(hB:∀ w:World,F.B.os w.os→F.B.os w.later.os)(hk:AZ F k j R H (aY (fr.finish (iY [])) cs)){n:Nat}(ih:∀ m,m < n→w5 F k j R H fr cs m){old:Wd}{aw sv:Bool}{it:Nat}{ws q:Bool}{gJ:Int}(lg:ws=decide (gJ≠0)){st:St}(de:aB st [(0,pm F),(2,.int .i64 gJ),(3,.bool sv),(8,.bool q)]) :
  At (WJ F n k j (.s1 ⟨old,aw,sv,it,ws⟩)) (C3 fr cs) R H st [.code agd,.inBlock 1,.inLoop uj,.inBlock 0,.code Ah]:=by
 refine At.sub de ?_
 refine At.seq ?_
 refine At.rg [0,1,2,3,4] ?_
 refine At.lv 4 ?_
 refine sW λ m hm=>KW.ext rfl rfl rfl rfl ar7 rfl rfl λ _ w s _ bp _ _=>?_
 have vL:∀ m',m' < m→w5 F k j R H fr cs m':=λ m' h'=>ih m' (Nat.lt_trans h' hm)
 cases BO:s.ms with
 | zero=>exact .inl ⟨⟨_,rfl⟩,rfl,ads rfl (by rw [bp.OZ,BO]; rfl)⟩
 | succ u =>
  have ea:((u+1:Nat):Int) - 1=(u:Int):=by omega
  refine .inr ⟨_,_,_,if sv then .r2 ⟨old,aw,sv,it,ws⟩ else .t2 ⟨old,aw,sv,it,ws⟩,_,afr (n:=((u+1:Nat):Int)) rfl (by rw [← BO]; exact bp.OZ) (by omega) (bp.zm 1),.s1 BO,pY (by simp),J9 (.inl rfl),by rw [ea]; exact cH.ms bp,λ aZ bn=>?_⟩
  cases sv
  ·refine (?_:At (WJ F m k j (.t2 ⟨old,aw,false,it,ws⟩)) _ _ _ _ _) aZ bn
   refine At.aV ?_
   refine At.seq ?_
   refine At.rg [0,1,2,3,4,5,6,7] ?_
   refine At.lv 2 ?_
   refine sW λ p hp=>KW.nano hB rfl rfl rfl rfl af7 (by kernel_rfl) rfl rfl ⟨by simp,by simp⟩ rj λ _ z=>?_
   refine ⟨.r2 ⟨old,aw,decide (IntKind.wrap .i64 (z - gJ) > 1000000),it,ws⟩,λ s=>.t2 _,pY (by simp),λ aZ bn=>(?_:At (WJ F p k j (.r2 ⟨old,aw,decide (IntKind.wrap .i64 (z - gJ) > 1000000),it,ws⟩)) _ _ _ _ _) aZ bn⟩
   refine At.lv 5 ?_
   refine At.aV ?_
   refine ajZ hk (λ m' h'=>vL m' (Nat.lt_trans h' hp)) lg ?_
   exact cz.sub ⟨rfl,rfl,rfl,trivial⟩
  ·refine (?_:At (WJ F m k j (.r2 ⟨old,aw,true,it,ws⟩)) _ _ _ _ _) aZ bn
   refine At.aV ?_
   refine At.seq ?_
   refine At.rg [0,1,2,3,4,5,6,7] ?_
   refine At.lv 8 ?_
   refine At.aV ?_
   refine ajZ hk vL lg ?_
   exact cz.sub ⟨rfl,rfl,rfl,trivial⟩
theorem aMR(hB:∀ w:World,F.B.os w.os→F.B.os w.later.os)(hk:AZ F k j R H (aY (fr.finish (iY [])) cs)){n:Nat}(ih:∀ m,m < n→w5 F k j R H fr cs m){old:Wd}{aw sv:Bool}{it:Nat}{ws:Bool}{gJ:Int}(hx:Sw F (⟨old,aw,sv,it,ws⟩,gJ)){st:St}(de:aB st (C4 F ⟨old,aw,sv,it,ws⟩ gJ)) :
  At (WJ F n k j (.c2 ⟨old,aw,sv,it,ws⟩)) (C3 fr cs) R H st [.code M0,.inBlock 1,.inLoop uj,.inBlock 0,.code Ah]:=by
 obtain ⟨gY,xu,lg,PX⟩:=hx
 dsimp only at gY xu lg PX
 have hN:=F.hN
 have h5:old.ok 5:=CE gY (by omega)
 have h4:old.ok 4:=CE gY (by omega)
 obtain ⟨b1,b2,b3,b4,b5,b7,o1,o2,o4,n2,s3⟩:=Wd.uL h5
 obtain ⟨q1,q2,q3,q4⟩:=h4
 have k1:(wi old).ok 5:=⟨by simp only [wi]; split <;> omega,q2,q3,by simp only [wi]; omega⟩
 have k2:(yn old).ok 5:=⟨k1.1,q2,q3,by simp only [yn]; split <;> omega⟩
 have k3:(FF old sv).ok 5:=⟨k1.1,q2,by simp only [FF]; split <;> omega,k2.2.2.2⟩
 refine At.sub de ?_
 refine At.seq ?_
 refine At.rg [0,1] ?_
 refine At.lv 2 ?_
 refine At.aV ?_
 refine At.seq ?_
 refine At.seq ?_
 refine At.rg [0,1,2] ?_
 refine At.lv 3 ?_
 refine At.aV ?_
 refine At.is 52 (v':=.bool (decide (old.s=0))) rfl (r7 b4 (adZ (by omega))) ?_
 refine At.join (st':=M1 F ⟨old,aw,sv,it,ws⟩ gJ (wi old)) rfl (λ hb h=>?_) (λ hb h=>?_) ?_
 ·refine At.rg [0,1,2] ?_
  refine At.lv 3 ?_
  refine At.aV ?_
  refine At.is 7 (v':=.int .i32 (wi old).val) rfl (Q8 o1 (by simp [wi,of_decide_eq_true hb])) ?_
  refine At.sub ?_ h
  exact cz.sub ⟨rfl,rfl,rfl,rfl,rfl,rfl,rfl,trivial⟩
 ·refine At.skip ?_
  refine At.is 7 (v':=.int .i32 (wi old).val) rfl (by simp [wi,of_decide_eq_false hb]) ?_
  refine At.sub ?_ h
  exact cz.sub ⟨rfl,rfl,rfl,rfl,rfl,rfl,rfl,trivial⟩
 refine At.seq ?_
 refine At.seq ?_
 refine At.rg [0,1,2] ?_
 refine At.lv 3 ?_
 refine At.aV ?_
 refine At.is 57 (v':=.bool (decide (old.l=1∨old.s=1))) rfl (DJ b5 (ad1 (by omega))) ?_
 refine At.join (st':=M1 F ⟨old,aw,sv,it,ws⟩ gJ (yn old)) rfl (λ hb h=>?_) (λ hb h=>?_) ?_
 ·refine At.rg [0,1,2] ?_
  refine At.lv 3 ?_
  refine At.aV ?_
  have e:(wi old).val+8=(yn old).val:=by simp only [yn,wi,Wd.val,of_decide_eq_true hb,if_true]; omega
  have f:=Wd.fit k1
  refine At.is 7 (v':=.int .i32 (yn old).val) rfl (by rw [← e]; exact congrArg _ (wrap_i32 (by omega) (by omega))) ?_
  refine At.sub ?_ h
  exact cz.sub ⟨rfl,rfl,rfl,rfl,rfl,rfl,rfl,trivial⟩
 ·refine At.skip ?_
  refine At.is 7 (v':=.int .i32 (yn old).val) rfl (by simp only [yn,of_decide_eq_false hb,if_false]; rfl) ?_
  refine At.sub ?_ h
  exact cz.sub ⟨rfl,rfl,rfl,rfl,rfl,rfl,rfl,trivial⟩
 refine At.seq ?_
 refine At.seq ?_
 refine At.rg [0,1,2,3,4,5] ?_
 refine At.mid (K:=?K) ((65,.bool (decide (sv=true∧old.l=1)))::M1 F ⟨old,aw,sv,it,ws⟩ gJ (yn old)) ?h1 ?h2
 case h1 =>
  intro h
  cases sv
  ·refine At.lv 6 ?_
   refine At.aV ?_
   refine h _ ?_
   exact cz.sub ⟨rfl,rfl,rfl,rfl,rfl,rfl,rfl,rfl,trivial⟩
  ·refine At.lv 5 ?_
   refine At.is 64 (v':=.bool (decide (true=true∧old.l=1))) rfl (DJ b1 (ad1 (by simp; omega))) ?_
   refine At.lv 1 ?_
   refine At.aV ?_
   refine h _ ?_
   exact cz.sub ⟨rfl,rfl,rfl,rfl,rfl,rfl,rfl,rfl,trivial⟩
 refine At.join (st':=M1 F ⟨old,aw,sv,it,ws⟩ gJ (FF old sv)) rfl (λ hb h=>?_) (λ hb h=>?_) ?_
 ·refine At.rg [0,1,2] ?_
  refine At.lv 3 ?_
  refine At.aV ?_
  have o:=(Wd.uL k2).2.2.2.2.2.2.2.2.1
  refine At.is 7 (v':=.int .i32 (FF old sv).val) rfl (Q8 o (by simp only [FF,of_decide_eq_true hb,and_self,if_true])) ?_
  refine At.sub ?_ h
  exact cz.sub ⟨rfl,rfl,rfl,rfl,rfl,rfl,rfl,trivial⟩
 ·refine At.skip ?_
  refine At.is 7 (v':=.int .i32 (FF old sv).val) rfl (by simp only [FF,of_decide_eq_false hb,if_false]; rfl) ?_
  refine At.sub ?_ h
  exact cz.sub ⟨rfl,rfl,rfl,rfl,rfl,rfl,rfl,trivial⟩
 refine At.seq ?_
 refine At.seq ?_
 refine At.rg [0] ?_
 refine At.lv 1 ?_
 refine At.aV ?_
 refine At.join (st':=M1 F ⟨old,aw,sv,it,ws⟩ gJ (nw ⟨old,aw,sv,it,ws⟩)) rfl (λ hb h=>?_) (λ hb h=>?_) ?_
 ·dsimp only at hb
  subst hb
  obtain ⟨_,a2,_,_,_,_,_,_,_,w9,_⟩:=Wd.uL k3
  refine At.seq ?_
  refine At.seq ?_
  refine At.rg [0,1,2] ?_
  refine At.lv 3 ?_
  refine At.aV ?_
  have hw1:=xu rfl
  refine At.is 71 (v':=.bool false) rfl (r7 a2 (by rw [beq_eq_false_iff_ne]; show ¬ (2 * (old.w:Int)=0); omega)) ?_
  refine At.eX rfl rfl ?_
  refine At.skip ?_
  refine At.rg [0,1,2] ?_
  refine At.lv 3 ?_
  refine At.aV ?_
  refine At.is 7 (v':=.int .i32 (nw ⟨old,true,sv,it,ws⟩).val) rfl (Q8 w9 rfl) ?_
  refine At.sub ?_ h
  exact cz.sub ⟨rfl,rfl,rfl,rfl,rfl,rfl,rfl,trivial⟩
 ·dsimp only at hb
  subst hb
  refine At.skip ?_
  refine At.is 7 (v':=.int .i32 (nw ⟨old,false,sv,it,ws⟩).val) rfl rfl ?_
  refine At.sub ?_ h
  exact cz.sub ⟨rfl,rfl,rfl,rfl,rfl,rfl,rfl,trivial⟩
 refine At.seq ?_
 refine At.rg [0,1,2,3,4,5] ?_
 refine At.lv 5 ?_
 refine sW λ m hm=>KW.ext rfl rfl rfl rfl Pr rfl rfl λ _ w s _ bp hs _=>.inr ?_
 have vL:∀ m',m' < m→w5 F k j R H fr cs m':=λ m' h'=>ih m' (Nat.lt_trans h' hm)
 by_cases dM:s.mu=old
 ·subst dM
  by_cases hf:s.mu.l=0∧s.mu.s=0
  ·
   refine ⟨.bool true,_,_,.le,_,He bp.cm (bp.zm 0),.UW rfl hf.1 hf.2,trivial,rk (.inl rfl),cH.mu bp,λ aZ bn=>(?_:At (WJ F m k j .le) _ _ _ _ _) aZ bn⟩
   refine At.aV ?_
   refine At.gb rfl rfl ?_
   refine At.seq ?_
   refine At.seq ?_
   refine At.rg [0,1,2] ?_
   refine At.lv 3 ?_
   refine At.aV ?_
   refine At.is 83 (v':=.bool true) rfl (r7 b5 (by rw [hf.1,hf.2]; rfl)) ?_
   refine At.gb rfl rfl ?_
   refine At.cF rfl ?_
   refine At.sub ?_ (aj0 hk m)
   exact cz.sub ⟨rfl,trivial⟩
  ·
   have hq:s.mu.l=1∨s.mu.s=1:=by omega
   refine ⟨.bool true,_,_,if ws then .s1 ⟨s.mu,aw,sv,it,ws⟩ else .t1 ⟨s.mu,aw,sv,it,ws⟩,_,He bp.cm (bp.zm 0),.yT rfl hq,pY (by simp),rk (.inl rfl),cH.mu bp,λ aZ bn=>?_⟩
   by_cases hw:gJ=0
   ·have e0:ws=false:=by rw [lg]; simp [hw]
    subst e0
    refine (?_:At (WJ F m k j (.t1 ⟨s.mu,aw,sv,it,false⟩)) _ _ _ _ _) aZ bn
    refine At.aV ?_
    refine At.gb rfl rfl ?_
    refine At.seq ?_
    refine At.seq ?_
    refine At.rg [0,1,2] ?_
    refine At.lv 3 ?_
    refine At.aV ?_
    refine At.is 83 (v':=.bool false) rfl (r7 b5 (by rw [beq_eq_false_iff_ne]; omega)) ?_
    refine At.eX rfl rfl ?_
    refine At.skip ?_
    refine At.seq ?_
    refine At.rg [0,1,2] ?_
    refine At.lv 3 ?_
    refine At.aV ?_
    refine At.seq ?_
    refine At.seq ?_
    refine At.rg [0,1] ?_
    refine At.lv 2 ?_
    refine At.aV ?_
    refine At.is 87 (v':=.bool true) rfl (congrArg Value.bool (beq_iff_eq.2 hw)) ?_
    refine At.gb rfl rfl ?_
    refine At.rg [0,1] ?_
    refine sW λ p hp=>KW.nano hB rfl rfl rfl rfl af7 (by kernel_rfl) rfl rfl ⟨by simp,by simp⟩ rj λ _ z=>?_
    refine ⟨.s1 ⟨s.mu,aw,sv,it,decide (z≠0)⟩,λ s=>.t1 _,pY (by simp),λ aZ bn=>(?_:At (WJ F p k j (.s1 ⟨s.mu,aw,sv,it,decide (z≠0)⟩)) _ _ _ _ _) aZ bn⟩
    refine At.lv 1 ?_
    refine At.aV ?_
    refine ajY hB hk (q:=(gJ != 0)) (λ m' h'=>vL m' (Nat.lt_trans h' hp)) rfl ?_
    exact cz.sub ⟨rfl,rfl,rfl,rfl,trivial⟩
   ·have e0:ws=true:=by rw [lg]; simp [hw]
    subst e0
    refine (?_:At (WJ F m k j (.s1 ⟨s.mu,aw,sv,it,true⟩)) _ _ _ _ _) aZ bn
    refine At.aV ?_
    refine At.gb rfl rfl ?_
    refine At.seq ?_
    refine At.seq ?_
    refine At.rg [0,1,2] ?_
    refine At.lv 3 ?_
    refine At.aV ?_
    refine At.is 83 (v':=.bool false) rfl (r7 b5 (by rw [beq_eq_false_iff_ne]; omega)) ?_
    refine At.eX rfl rfl ?_
    refine At.skip ?_
    refine At.seq ?_
    refine At.rg [0,1,2] ?_
    refine At.lv 3 ?_
    refine At.aV ?_
    refine At.seq ?_
    refine At.seq ?_
    refine At.rg [0,1] ?_
    refine At.lv 2 ?_
    refine At.aV ?_
    refine At.is 87 (v':=.bool false) rfl (congrArg Value.bool (beq_eq_false_iff_ne.2 hw)) ?_
    refine At.eX rfl rfl ?_
    refine At.skip ?_
    refine ajY hB hk (q:=(gJ != 0)) vL lg ?_
    exact cz.sub ⟨rfl,rfl,rfl,rfl,trivial⟩
 ·
  refine ⟨.bool false,w,_,.r3 ⟨old,aw,sv,it,ws⟩,s,Ky bp.cm (bp.zm 0) (λ e=>dM (Wd.val_inj hs.1 gY e)),.UX dM,pY (by simp),yQ (.inl rfl),cH.refl bp,λ aZ bn=>(?_:At (WJ F m k j (.r3 ⟨old,aw,sv,it,ws⟩)) _ _ _ _ _) aZ bn⟩
  refine At.aV ?_
  refine At.eX rfl rfl ?_
  refine At.rg [0,1,2,3,4] ?_
  refine At.lv 3 ?_
  refine sW λ p hp=>KW.look rfl rfl rfl rfl rfl Iz (by kernel_rfl) rfl ⟨by simp,by simp⟩ (λ _ h=>h) λ ot s hs=>⟨_,.r3,pY (by simp),λ aZ bn=>RP ((?_:At (WJ F p k j (hd ⟨s.mu,aw,sv,it,ws⟩)) _ _ _ _ _) aZ bn)⟩
  refine At.lv 1 ?_
  refine At.aV ?_
  refine At.bQ ?_
  refine At.inLoop ?_
  refine At.sub ?_ (vL p hp (⟨s.mu,aw,sv,it,ws⟩,gJ) ⟨hs.1,hs.2,lg,PX⟩)
  exact cz.sub ⟨rfl,rfl,rfl,rfl,rfl,rfl,trivial⟩
theorem aMS(hB:∀ w:World,F.B.os w.os→F.B.os w.later.os)(hk:AZ F k j R H (aY (fr.finish (iY [])) cs))(n:Nat):w5 F k j R H fr cs n:=λ x hx =>
 At.head (Jn:=λ n (x:Lc × Int)=>WJ F n k j (hd x.1)) (S:=λ x=>C4 F x.1 x.2) (ok:=Sw F) (λ n ih x hx=>by
  obtain ⟨⟨old,aw,sv,it,ws⟩,gJ⟩:=x
  exact aMU ih hx λ m hm st de=>aMR hB hk (λ m' h'=>ih m' (Nat.lt_of_lt_of_le h' hm)) hx de) n x hx
end
section
variable {F:Fx} {R:az} {H:ah} {k j:Nat}
theorem aMT(hB:∀ w:World,F.B.os w.os→F.B.os w.later.os)(n:Nat):lD prog ((WJ F n k j .r0).J R H) (AZ F k j R H) 231 [pm F]:=lD.oX func231 rfl rfl rfl λ fr cs hk=>by
 refine At.seq ?_
 refine At.rg [0] ?_
 refine At.lv 1 ?_
 refine At.aV ?_
 refine At.seq ?_
 refine At.rg [0] ?_
 refine At.lv 1 ?_
 refine At.aV ?_
 refine At.seq ?_
 refine At.rg [0] ?_
 refine At.lv 1 ?_
 refine At.aV ?_
 refine At.seq ?_
 refine At.rg [0] ?_
 refine At.lv 1 ?_
 refine At.aV ?_
 refine At.seq ?_
 refine At.rg [0,1,2,3,4] ?_
 refine At.lv 3 ?_
 refine sW λ m hm=>KW.look rfl rfl rfl rfl rfl Iz (by kernel_rfl) rfl ⟨by simp,by simp⟩ (λ _ h=>h) λ ot s hs=>⟨_,.r0,pY (by simp),λ aZ bn=>RP ((?_:At (WJ F m k j (hd ⟨s.mu,false,false,0,false⟩)) _ _ _ _ _) aZ bn)⟩
 refine At.lv 1 ?_
 refine At.aV ?_
 refine At.seq ?_
 refine At.bf ?_
 refine At.enterLoop ?_
 refine At.sub ?_ (aMS hB hk m (⟨s.mu,false,false,0,false⟩,0) ⟨hs.1,by simp,by simp,Nat.zero_le _⟩)
 exact cz.sub ⟨rfl,rfl,rfl,rfl,rfl,rfl,trivial⟩
theorem aGF(hB:∀ w:World,F.B.os w.os→F.B.os w.later.os)(n:Nat):lD prog ((WJ F n k j .ld).J R H) (AZ F k j R H) 203 [pm F]:=lD.oX func203 rfl rfl rfl λ fr cs hk=>by
 refine At.seq ?_
 refine At.rg [0] ?_
 refine sW λ m hm=>KW.ext rfl rfl rfl rfl KD rfl rfl λ _ w s _ bp _ _=>.inr ⟨_,w,_,.l0,s,sb (by simp),.ld,trivial,rfl,cH.refl bp,λ aZ bn=>(?_:At (WJ F m k j .l0) _ _ _ _ _) aZ bn⟩
 refine At.aV ?_
 refine At.seq ?_
 refine At.seq ?_
 refine At.rg [0,1,2,3] ?_
 refine At.lv 3 ?_
 refine sW λ p hp=>KW.ext rfl rfl rfl rfl Pr rfl rfl λ _ w s _ bp hs _=>.inr ?_
 by_cases hz:s.mu = .zero
 ·refine ⟨.bool true,_,_,.le,_,He (v:=0) (by have e:=bp.cm; rw [hz] at e; exact e) (bp.zm 0),.ahw hz,trivial,rk (.inl rfl),cH.mu (m:=⟨1,0,0,0⟩) bp,λ aZ bn=>(?_:At (WJ F p k j .le) _ _ _ _ _) aZ bn⟩
  refine At.aV ?_
  refine At.gb rfl rfl ?_
  refine At.seq ?_
  refine At.gb rfl rfl ?_
  refine At.seq ?_
  refine At.rg [0] ?_
  refine sW λ n _=>KW.ext rfl rfl rfl rfl DT rfl rfl λ _ w s _ bp _ _=>.inr ⟨_,w,_,.lc,s,sb (by simp),.le,trivial,rfl,cH.refl bp,λ aZ bn=>(?_:At (WJ F n k j .lc) _ _ _ _ _) aZ bn⟩
  refine At.aV ?_
  refine At.rg [0,1,2] ?_
  refine At.lv 1 ?_
  refine sW λ n _=>KW.conv rfl rfl rfl rfl rfl ab3 rfl Uj ⟨by simp,by simp⟩ rj (λ _=>.lc) trivial λ aZ bn=>(?_:At (WJ F n k j .la) _ _ _ _ _) aZ bn
  refine sW λ n _=>KW.ext rfl rfl rfl rfl Pq rfl rfl λ _ w s _ bp _ _=>.inr ⟨_,w,_,.ul λ _=>0,s,DN (λ _ _=>by simp) rfl,.la,trivial,rfl,cH.refl bp,λ aZ bn js iT=>(?_:At (WJ F n k j (.ul js)) _ _ _ _ _) aZ bn⟩
  refine At.aV ?_
  exact At.rp func203 rfl (hk n js iT) (.inr ⟨_,rfl⟩)
 ·refine ⟨.bool false,w,_,.r0,s,Ky bp.cm (bp.zm 0) (λ e=>hz (Wd.val_inj hs.1 (N':=0) ⟨Nat.zero_le _,Nat.zero_le _,Nat.zero_le _,dr _⟩ e)),.ahv hz,trivial,yQ (.inl rfl),cH.refl bp,λ aZ bn=>(?_:At (WJ F p k j .r0) _ _ _ _ _) aZ bn⟩
  refine At.aV ?_
  refine At.eX rfl rfl ?_
  refine At.skip ?_
  refine At.rg [0,1] ?_
  refine At.lv 1 ?_
  refine At.xZ rfl rfl rfl rfl rfl aqu rfl (aMT hB p) λ aZ bn n js iT=>(?_:At (WJ F n k j (.ul js)) _ _ _ _ _) aZ bn
  refine At.aV ?_
  exact At.rp func203 rfl (hk n js iT) (.inl rfl)
theorem aHT(hB:∀ w:World,F.B.os w.os→F.B.os w.later.os)(n:Nat):lD prog ((WJ F n k j .ld).J R H) (AZ F k j R H) 173 [pm F]:=lD.oX func173 rfl rfl rfl λ fr cs hk=>by
 refine At.rg [0,1,2,3] ?_
 refine At.lv 3 ?_
 refine At.xZ rfl rfl rfl rfl rfl aqg rfl (aGF hB n) λ aZ bn n js iT=>(?_:At (WJ F n k j (.ul js)) _ _ _ _ _) aZ bn
 refine At.aV ?_
 exact At.rp func173 rfl (hk n js iT) (.inl rfl)
def Uc(F:Fx)(k j:Nat)(R:az)(H:ah)(g:Goroutine):Prop:=∀ n,Own prog F.B false (KW (FT F) n k j .ue) R H g
def Ud(F:Fx)(k j:Nat)(R:az)(H:ah)(g:Goroutine):Prop:=(j < F.J→∀ n,Own prog F.B false (KW (FT F) n k j .ld) R H g)∧(j=F.J→∀ n,Own prog F.B false (KW (FT F) n k j .wv) R H g)
theorem ala{m:Wd}(h:m.ok 5)(hl:m.l=0):IntKind.i32.wrap (m.val+1)=Wd.val { m with l:=1 }:=by
 have:=Wd.fit h
 rw [wrap_i32 (by omega) (by omega)]; simp only [Wd.val,hl]; omega
theorem aOr{m:Wd}(h:m.ok 5)(_:m.w=0)(hn:m.n≠0):IntKind.i32.wrap (m.val - 8)=Wd.val { m with n:=m.n - 1 }∧Wd.ok 5 { m with n:=m.n - 1 }:=by
 have:=Wd.fit h
 obtain ⟨h1,h2,h3,h4⟩:=h
 refine ⟨?_,h1,h2,h3,by simp only; omega⟩
 rw [wrap_i32 (by omega) (by omega)]; simp only [Wd.val]; omega
theorem aOp{m:Wd}(h:m.ok 5)(hl:m.l=1):IntKind.i32.wrap (m.val + -1)=Wd.val { m with l:=0 }:=by
 have:=Wd.fit h
 rw [wrap_i32 (by omega) (by omega)]; simp only [Wd.val,hl]; omega
theorem akr{s:Sh}{w:World}(bp:fW (FT F) s w)(h0:s.ms=0):cH (FT F) { s with ms:=s.ms+1 } w (w.setCell ⟨F.bm,1,none⟩ (.int .u32 (IntKind.u32.wrap ((s.ms:Int)+1)))):=by
 rw [wrap_u32 (by omega) (by omega)]
 exact cH.ms bp
theorem aNC{m:Wd}(h5:m.ok 5)(hl:m.l=0)(qB:m.s=1)(n:Nat):lD prog ((WJ F n k j .us).J R H) (Uc F k j R H) 233 [pm F,.int .i32 m.val]:=lD.oX func233 rfl rfl rfl λ fr cs hk=>by
 have e1:=ala h5 hl
 have d5:Wd.ok 5 { m with l:=1 }:=⟨dr _,h5.2.1,h5.2.2.1,h5.2.2.2⟩
 refine At.seq ?_
 refine At.seq ?_
 refine At.rg [0,1,2,3] ?_
 refine At.lv 2 ?_
 refine At.is 6 (v':=.int .i32 (Wd.val { m with l:=1 })) rfl (congrArg _ e1) ?_
 refine At.lv 2 ?_
 refine At.aV ?_
 refine At.is 8 (v':=.bool false) rfl (r7 (Wd.uL d5).1 rfl) ?_
 refine At.eX rfl rfl ?_
 refine At.skip ?_
 refine At.seq ?_
 refine At.rg [0,1,2] ?_
 refine At.lv 3 ?_
 refine At.aV ?_
 refine At.is 12 (v':=.bool false) rfl (r7 (Wd.uL h5).2.2.2.1 (by rw [qB]; rfl)) ?_
 refine At.eX rfl rfl ?_
 refine At.rg [0,1,2,3] ?_
 refine At.lv 3 ?_
 refine sW λ m hm=>KW.ext rfl rfl rfl rfl af8 rfl rfl λ _ w s _ bp hs _=>.inr ⟨_,_,_,.ue,_,VG rfl bp.OZ (bp.zm 1),.us,trivial,J9 (.inl rfl),akr bp hs.2,λ aZ bn=>(?_:At (WJ F m k j .ue) _ _ _ _ _) aZ bn⟩
 refine At.aV ?_
 exact At.rp func233 rfl (hk m) (.inl rfl)
noncomputable def ahR:Code:=(xY (Tryz.f233.body.getD .skip)).getD .skip
theorem aND{fr:Frame}{cs:List Frame}{todo:List Item}(hk:Uc F k j R H (aY (fr.finish (iY [])) cs))(n:Nat)(m:Wd)(hm:m.ok F.N) :
  At (WJ F n k j (hu m)) ⟨233,.normal,none,43,[],fr::cs⟩ R H [(0,pm F),(4,.int .i32 m.val)] (.code ahR :: .inLoop ahR::todo):=by
 have hN:=F.hN
 refine At.head (Jn:=λ n (m:Wd)=>WJ F n k j (hu m)) (S:=λ m=>[(0,pm F),(4,.int .i32 m.val)]) (ok:=λ m=>m.ok F.N) (λ n ih m hm=>?_) n m hm
 have h5:m.ok 5:=CE hm (by omega)
 have s3:=(Wd.uL h5).2.2.2.2.2.2.2.2.2.2
 have b7:=(Wd.uL h5).2.2.2.2.2.1
 have sI:m.val.fdiv (2 ^ (min (3:Int).toNat IntKind.i32.bits))=(m.n:Int):=by simpa [lT] using s3
 refine At.bf ?_
 refine At.seq ?_
 refine At.seq ?_
 refine At.rg [0,1,2,3,4,5,6,7] ?_
 refine At.lv 4 ?_
 by_cases hn:m.n=0
 ·rw [show hu m = .ue from if_pos (.inl hn)]
  refine At.is 17 (v':=.bool true) rfl (congrArg Value.bool (by show (m.val.fdiv (2 ^ (min (3:Int).toNat IntKind.i32.bits)) == 0)=true; rw [sI,hn]; rfl)) ?_
  refine At.lv 4 ?_
  refine At.aV ?_
  refine At.gb rfl rfl ?_
  exact At.rp func233 rfl (hk n) (.inr ⟨_,rfl⟩)
 refine At.is 17 (v':=.bool false) rfl (congrArg Value.bool (by show (m.val.fdiv (2 ^ (min (3:Int).toNat IntKind.i32.bits)) == 0)=false; rw [sI,beq_eq_false_iff_ne]; omega)) ?_
 refine At.lv 3 ?_
 obtain ⟨q1,q2,q3,q4⟩:=h5
 by_cases hx:m.l=1∨m.w=1∨m.s=1
 ·rw [show hu m = .ue from if_pos (.inr hx)]
  refine At.is 20 (v':=.bool true) rfl (DJ b7 (by rw [bne_iff_ne]; omega)) ?_
  refine At.lv 1 ?_
  refine At.aV ?_
  refine At.gb rfl rfl ?_
  exact At.rp func233 rfl (hk n) (.inr ⟨_,rfl⟩)
 rw [show hu m = .uc m from if_neg (by simp only [hn,false_or]; exact hx)]
 obtain ⟨e8,k8⟩:=aOr ⟨q1,q2,q3,q4⟩ (by omega) hn
 refine At.is 20 (v':=.bool false) rfl (DJ b7 (by rw [bne_eq_false_iff_eq]; omega)) ?_
 refine At.lv 1 ?_
 refine At.aV ?_
 refine At.eX rfl rfl ?_
 refine At.skip ?_
 refine At.seq ?_
 refine At.rg [0,1,2,3] ?_
 refine At.lv 2 ?_
 refine At.is 23 (v':=.int .i32 (Wd.val { m with n:=m.n - 1 })) rfl (congrArg _ e8) ?_
 refine At.lv 2 ?_
 refine At.aV ?_
 refine At.is 1 (v':=.int .i32 (Wd.val { m with w:=1,n:=m.n - 1 })) rfl (Q8 (Wd.uL k8).2.2.2.2.2.2.2.1 rfl) ?_
 refine At.seq ?_
 refine At.seq ?_
 refine At.rg [0,1,2,3,4,5] ?_
 refine At.lv 5 ?_
 refine sW λ p hp=>KW.ext rfl rfl rfl rfl Pr rfl rfl λ _ w s _ bp hs _=>.inr ?_
 by_cases dM:s.mu=m
 ·subst dM
  refine ⟨.bool true,_,_,.us,_,He bp.cm (bp.zm 0),.akp rfl,trivial,rk (.inl rfl),cH.mu bp,λ aZ bn=>(?_:At (WJ F p k j .us) _ _ _ _ _) aZ bn⟩
  refine At.aV ?_
  refine At.gb rfl rfl ?_
  refine At.seq ?_
  refine At.rg [0,1,2,3] ?_
  refine At.lv 3 ?_
  refine sW λ q hq=>KW.ext rfl rfl rfl rfl af8 rfl rfl λ _ w s _ bp hs _=>.inr ⟨_,_,_,.ue,_,VG rfl bp.OZ (bp.zm 1),.us,trivial,J9 (.inl rfl),akr bp hs.2,λ aZ bn=>(?_:At (WJ F q k j .ue) _ _ _ _ _) aZ bn⟩
  refine At.aV ?_
  exact At.rp func233 rfl (hk q) (.inr ⟨_,rfl⟩)
 ·refine ⟨.bool false,w,_,.ux,s,Ky bp.cm (bp.zm 0) (λ e=>dM (Wd.val_inj hs.1 hm e)),.ab1 dM,trivial,yQ (.inl rfl),cH.refl bp,λ aZ bn=>(?_:At (WJ F p k j .ux) _ _ _ _ _) aZ bn⟩
  refine At.aV ?_
  refine At.eX rfl rfl ?_
  refine At.skip ?_
  refine At.rg [0,1,2,3,4] ?_
  refine At.lv 3 ?_
  refine sW λ q hq=>KW.look rfl rfl rfl rfl rfl Iz (by kernel_rfl) rfl ⟨by simp,by simp⟩ (λ _ h=>h) λ ot s hs=>⟨_,.ux,pY (by simp),λ aZ bn=>aiU ((?_:At (WJ F q k j (hu s.mu)) _ _ _ _ _) aZ bn)⟩
  refine At.lv 1 ?_
  refine At.aV ?_
  refine At.bQ ?_
  refine At.inLoop ?_
  refine At.sub ?_ (ih q (Nat.lt_trans hq hp) s.mu hs.1)
  exact cz.sub ⟨rfl,rfl,trivial⟩
theorem aNE{m:Wd}(hm:m.ok F.N)(hl:m.l=0)(HE:m.s=0)(n:Nat):lD prog ((WJ F n k j (hu m)).J R H) (Uc F k j R H) 233 [pm F,.int .i32 m.val]:=lD.oX func233 rfl rfl rfl λ fr cs hk=>by
 have hN:=F.hN
 have h5:m.ok 5:=CE hm (by omega)
 have e1:=ala h5 hl
 have d5:Wd.ok 5 { m with l:=1 }:=⟨dr _,h5.2.1,h5.2.2.1,h5.2.2.2⟩
 refine At.seq ?_
 refine At.seq ?_
 refine At.rg [0,1,2,3] ?_
 refine At.lv 2 ?_
 refine At.is 6 (v':=.int .i32 (Wd.val { m with l:=1 })) rfl (congrArg _ e1) ?_
 refine At.lv 2 ?_
 refine At.aV ?_
 refine At.is 8 (v':=.bool false) rfl (r7 (Wd.uL d5).1 rfl) ?_
 refine At.eX rfl rfl ?_
 refine At.skip ?_
 refine At.seq ?_
 refine At.rg [0,1,2] ?_
 refine At.lv 3 ?_
 refine At.aV ?_
 refine At.is 12 (v':=.bool true) rfl (r7 (Wd.uL h5).2.2.2.1 (by rw [HE]; rfl)) ?_
 refine At.gb rfl rfl ?_
 refine At.seq ?_
 refine At.rg [0,1] ?_
 refine At.lv 2 ?_
 refine At.aV ?_
 refine At.bf ?_
 refine At.enterLoop ?_
 refine At.sub ?_ (aND hk n m hm)
 exact cz.sub ⟨rfl,rfl,trivial⟩
end
section
variable {F:Fx} {R:az} {H:ah} {k j:Nat}
noncomputable def apD:Code:=match Tryz.f204.body with | some (.seq _ (.seq _ (.seq _ z)))=>z | _=>.skip
theorem aao{fr:Frame}{cs:List Frame}{st:St}(hj:j≤F.J)(hk:Ud F k j R H (aY (fr.finish (iY [])) cs))(n:Nat):At (WJ F n k j .ue) ⟨204,.normal,none,21,[],fr::cs⟩ R H st [.code apD]:=by
 refine At.rg [0] ?_
 refine sW λ m hm=>KW.ext rfl rfl rfl rfl DT rfl rfl λ _ w s _ bp _ _=>.inr ?_
 by_cases h:j < F.J
 ·refine ⟨_,w,_,.ld,s,sb (by simp),.SH,h,rfl,cH.refl bp,λ aZ bn=>(?_:At (WJ F m k j .ld) _ _ _ _ _) aZ bn⟩
  refine At.aV ?_
  exact At.rp func204 rfl (hk.1 h m) (.inl rfl)
 ·have h':j=F.J:=by omega
  refine ⟨_,w,_,.wv,s,sb (by simp),.SJ,h',rfl,cH.refl bp,λ aZ bn=>(?_:At (WJ F m k j .wv) _ _ _ _ _) aZ bn⟩
  refine At.aV ?_
  exact At.rp func204 rfl (hk.2 h' m) (.inl rfl)
theorem aGL{js:Nat→Nat}(hj:j+1≤F.J)(n:Nat):lD prog ((WJ F n k j (.ul js)).J R ((F.bo,F.cont (gS js k (j+1)))::H)) (Ud F k (j+1) R H) 204 [pm F]:=lD.oX func204 rfl rfl rfl λ fr cs hk=>by
 have hN:=F.hN
 refine At.seq ?_
 refine At.gb rfl rfl ?_
 refine At.seq ?_
 refine At.rg [0,1,2,3] ?_
 refine At.lv 3 ?_
 refine sW λ m hm=>KW.look rfl rfl rfl rfl rfl Iz (by kernel_rfl) rfl ⟨by simp,by simp⟩ (λ _ h=>h) λ ot s hs=>⟨.uv js,.ul,pY (by simp),λ aZ bn=>(?_:At (WJ F m k j (.uv js)) _ _ _ _ _) aZ bn⟩
 refine At.aV ?_
 refine At.seq ?_
 refine At.rg [0,1,2] ?_
 refine At.lv 1 ?_
 refine sW λ m hm=>KW.conv rfl rfl rfl rfl rfl ab3 rfl Uj ⟨by simp,by simp⟩ rj (λ _=>.uv) trivial λ aZ bn=>(?_:At (WJ F m k j (.ur js)) _ _ _ _ _) aZ bn
 refine sW λ m hm=>KW.ext rfl rfl rfl rfl af3 rfl rfl λ _ w s _ bp _ _=>.inr ⟨_,w,_,.ud,s,DN (λ _ _=>by simp) rfl,.ur,trivial,rfl,cH.refl bp,λ aZ bn=>⟨js,H,rfl,rfl,(?_:At (WJ F m k (j+1) .ud) _ _ _ _ _) aZ bn⟩⟩
 refine At.aV ?_
 refine At.rg [0] ?_
 refine sW λ m hm=>KW.ext rfl rfl rfl rfl KD rfl rfl λ _ w s _ bp _ _=>.inr ⟨_,w,_,.u0,s,sb (by simp),.ud,trivial,rfl,cH.refl bp,λ aZ bn=>(?_:At (WJ F m k (j+1) .u0) _ _ _ _ _) aZ bn⟩
 refine At.aV ?_
 refine At.seq ?_
 refine At.rg [0,1,2,3,4] ?_
 refine At.lv 3 ?_
 refine sW λ m hm=>KW.ext rfl rfl rfl rfl af6 rfl rfl λ _ w s _ bp hs _=>.inr ?_
 obtain ⟨gY,hl⟩:=hs
 have h5:s.mu.ok 5:=CE gY (show (FT F).N≤5 from Nat.le_trans hN (by omega))
 have e:=aOp h5 hl
 have k5:Wd.ok F.N { s.mu with l:=0 }:=⟨Nat.zero_le _,gY.2.1,gY.2.2.1,gY.2.2.2⟩
 by_cases qB:s.mu.s=1
 ·refine ⟨_,_,_,.us,_,Bq bp.cm (bp.zm 0),.u0h qB,trivial,rk (.inl rfl),by rw [e]; exact cH.mu bp,λ aZ bn=>(?_:At (WJ F m k (j+1) .us) _ _ _ _ _) aZ bn⟩
  refine At.lv 1 ?_
  refine At.aV ?_
  refine At.is 2 (v':=.int .i32 (Wd.val { s.mu with l:=0 })) rfl (congrArg _ e) ?_
  refine At.seq ?_
  refine At.seq ?_
  refine At.rg [0,1] ?_
  refine At.lv 2 ?_
  refine At.aV ?_
  refine At.is 16 (v':=.bool true) rfl (congrArg Value.bool (by rw [bne_iff_ne]; simp only [Wd.val]; omega)) ?_
  refine At.gb rfl rfl ?_
  refine At.rg [0,1,2] ?_
  refine At.lv 2 ?_
  refine At.xZ rfl rfl rfl rfl rfl afh rfl (aNC (m:={ s.mu with l:=0 }) ⟨Nat.zero_le _,h5.2.1,h5.2.2.1,h5.2.2.2⟩ rfl qB m) λ aZ bn n=>(?_:At (WJ F n k (j+1) .ue) _ _ _ _ _) aZ bn
  refine At.aV ?_
  exact aao hj hk n
 have HE:s.mu.s=0:=by have:=gY.2.2.1; omega
 by_cases hz:s.mu.w=0∧s.mu.s=0∧s.mu.n=0
 ·refine ⟨_,_,_,.ue,_,Bq bp.cm (bp.zm 0),.u0z hz.1 hz.2.1 hz.2.2,trivial,rk (.inl rfl),by rw [e]; exact cH.mu bp,λ aZ bn=>(?_:At (WJ F m k (j+1) .ue) _ _ _ _ _) aZ bn⟩
  refine At.lv 1 ?_
  refine At.aV ?_
  refine At.is 2 (v':=.int .i32 (Wd.val { s.mu with l:=0 })) rfl (congrArg _ e) ?_
  refine At.seq ?_
  refine At.seq ?_
  refine At.rg [0,1] ?_
  refine At.lv 2 ?_
  refine At.aV ?_
  refine At.is 16 (v':=.bool false) rfl (congrArg Value.bool (by rw [bne_eq_false_iff_eq]; simp only [Wd.val]; omega)) ?_
  refine At.eX rfl rfl ?_
  refine At.skip ?_
  exact aao hj hk m
 ·refine ⟨_,_,_,hu { s.mu with l:=0 },_,Bq bp.cm (bp.zm 0),.Ap hz HE,pY (by simp),rk (.inl rfl),by rw [e]; exact cH.mu bp,λ aZ bn=>aiU ((?_:At (WJ F m k (j+1) (hu { s.mu with l:=0 })) _ _ _ _ _) aZ bn)⟩
  refine At.lv 1 ?_
  refine At.aV ?_
  refine At.is 2 (v':=.int .i32 (Wd.val { s.mu with l:=0 })) rfl (congrArg _ e) ?_
  refine At.seq ?_
  refine At.seq ?_
  refine At.rg [0,1] ?_
  refine At.lv 2 ?_
  refine At.aV ?_
  refine At.is 16 (v':=.bool true) rfl (congrArg Value.bool (by rw [bne_iff_ne]; simp only [Wd.val]; omega)) ?_
  refine At.gb rfl rfl ?_
  refine At.rg [0,1,2] ?_
  refine At.lv 2 ?_
  refine At.xZ rfl rfl rfl rfl rfl afh rfl (aNE k5 rfl HE m) λ aZ bn n=>(?_:At (WJ F n k (j+1) .ue) _ _ _ _ _) aZ bn
  refine At.aV ?_
  exact aao hj hk n
theorem aNx{js:Nat→Nat}(hj:j+1≤F.J)(n:Nat):lD prog ((WJ F n k j (.ul js)).J R ((F.bo,F.cont (gS js k (j+1)))::H)) (Ud F k (j+1) R H) 174 [pm F]:=lD.oX func174 rfl rfl rfl λ fr cs hk=>by
 refine At.rg [0,1,2,3] ?_
 refine At.lv 3 ?_
 refine At.xZ rfl rfl rfl rfl rfl aqh rfl (aGL hj n) λ aZ bn=>⟨λ h n=>(?_:At (WJ F n k (j+1) .ld) _ _ _ _ _) aZ bn,λ h n=>(?_:At (WJ F n k (j+1) .wv) _ _ _ _ _) aZ bn⟩
 ·refine At.aV ?_
  exact At.rp func174 rfl (hk.1 h n) (.inl rfl)
 ·refine At.aV ?_
  exact At.rp func174 rfl (hk.2 h n) (.inl rfl)
end
open Go.ConcN
section
variable {F:Fx} {R:az} {H:ah} {k j:Nat}
abbrev pw(F:Fx):Value:=.pointer (some (aw F))
noncomputable abbrev TQ (F:Fx) (n k j:Nat) (T:Lp) (R:az) (H:ah):=toJ prog (KW (FT F) n k j T R H)
theorem sQ{c:Ctx}{st:St}{todo:List Item}{n:Nat}{T:Lp}(h:∀ m,m < n→∀ tmps,dh c.n st tmps→KW (FT F) (m+1) k j T R H (aY (aX c tmps todo) c.cs)):aC (TQ F n k j T R H) c st todo:=λ tmps ht=>by
 cases n with
 | zero=>exact ⟨0,trivial⟩
 | succ n=>exact ⟨0,h n (Nat.lt_succ_self n) tmps ht⟩
def Gone(g:Goroutine):Prop:=∃ q,QuitsD prog q 0 g
theorem Jb(s:Sh):AG s=4294967296 * (s.v:Int)+s.w:=rfl
theorem apw{s:Sh}{w:World}(bp:fW (FT F) s w)(h0:s.ws=0):cH (FT F) { s with ws:=s.ws+1 } w (w.setCell (rY F) (.int .u32 (IntKind.u32.wrap ((s.ws:Int)+1)))):=by
 rw [wrap_u32 (by omega) (by omega)]
 exact cH.ws bp
theorem adt{n:Nat}{st:St}{fr:Frame}{cs:List Frame}{todo:List Item}{args:Array Value}(hk:Gone (aY (fr.finish (iY [])) cs))(hm:todo=[]∨∃ k,todo = .code .ret::k):aC (Ae prog 1) ⟨169,.normal,none,n,[dcall 192 args],fr::cs⟩ st todo:=by
 have key:∀ tmps todo,dh n st tmps→(Ae prog 1).Q (aY (j0 ⟨169,.normal,none,n,[dcall 192 args],fr::cs⟩ tmps todo) (fr::cs)):=λ tmps todo ht =>
  aLR rfl DT (QJ.back (J:=Ae prog 0) func169 ht rfl hk)
 rcases hm with rfl | ⟨k,rfl⟩
 ·exact aC.Vl rfl λ tmps ht=>key tmps _ ht
 ·exact aC.ret rfl λ tmps ht=>key tmps _ ht
noncomputable def It:Code:=match Tryz.f169.body with | some (.seq _ (.seq _ (.seq _ (.seq _ z))))=>z | _=>.skip
noncomputable def apc:Code:=match It with | .seq _ (.seq _ (.seq _ (.seq _ (.seq _ (.seq _ (.seq (.seq _ x) _))))))=>x | _=>.skip
noncomputable def r27:Code:=match It with | .seq _ (.seq _ (.seq _ (.seq _ (.seq _ (.seq _ (.seq _ y))))))=>y | _=>.skip
theorem OI{b:Option Int}{z y:Int}{p:Bool}(h:b=some z)(hp:(z != y)=p):Value.bool (b.getD 0 != y) = .bool p:=by rw [h]; exact congrArg _ hp
theorem adu{J:QJ prog}{c:Ctx}{st:St}{kk:List Item}{v w:Nat}(hc:c.kind = .normal)(hn:c.n=117)(hv:v≤5)(hw:w≤1)(de:aB st [(0,pw F),(1,.int .i64 (-1)),(4,.bool false),(6,.int .u64 (4294967296 * (v:Int)+w))])
  (h:aC J c [(0,pw F),(4,.bool false),(6,.int .u64 (4294967296 * (v:Int)+w)),(8,.int .u32 w),(94,.bool (decide (0 < v∨w=0)))] (.code apc :: .code r27::kk)):aC J c st (.code It::kk):=by
 obtain ⟨f,kind,ro,n,ds,cs⟩:=c
 dsimp only at hc hn
 subst hc hn
 obtain ⟨g1,g2,g3⟩:=acn hv hw
 have gs:(4294967296 * (v:Int)+w).fdiv (2 ^ (min (32:Int).toNat IntKind.u64.bits))=(v:Int):=by simpa [lT] using g3
 refine aC.sub de ?_
 refine aC.seq ?_
 refine aC.seq ?_
 refine aC.rg [0,1,2,3,4,5,6] ?_
 refine aC.lv 4 ?_
 refine aC.is 47 (v':=.bool false) rfl (OI g1 rfl) ?_
 refine aC.lv 3 ?_
 refine aC.aV ?_
 refine aC.eX rfl ?_
 refine aC.skip ?_
 refine aC.seq ?_
 refine aC.rg [0,1,2,3] ?_
 refine aC.lv 4 ?_
 refine aC.aV ?_
 refine aC.is 7 (v':=.int .i32 (v:Int)) rfl (congrArg _ (by
  show IntKind.i32.wrap ((4294967296 * (v:Int)+w).fdiv (2 ^ (min (32:Int).toNat IntKind.u64.bits)))=_
  rw [gs,wrap_i32 (by omega) (by omega)])) ?_
 refine aC.seq ?_
 refine aC.rg [0,1,2,3] ?_
 refine aC.lv 4 ?_
 refine aC.aV ?_
 refine aC.is 8 (v':=.int .u32 (w:Int)) rfl (congrArg _ (by rw [g2,oz]; exact wrap_u32 (by omega) (by omega))) ?_
 refine aC.seq ?_
 refine aC.seq ?_
 refine aC.rg [0,1,2,3,4,5,6,7,8,9] ?_
 refine aC.lv 5 ?_
 refine aC.is 62 (v':=.bool false) rfl (congrArg Value.bool (by decide)) ?_
 refine aC.lv 5 ?_
 refine aC.aV ?_
 refine aC.eX rfl ?_
 refine aC.skip ?_
 refine aC.seq ?_
 refine aC.seq ?_
 refine aC.rg [0,1] ?_
 refine aC.lv 2 ?_
 refine aC.aV ?_
 refine aC.is 74 (v':=.bool false) rfl (congrArg Value.bool (by rw [decide_eq_false_iff_not]; omega)) ?_
 refine aC.eX rfl ?_
 refine aC.skip ?_
 refine aC.seq ?_
 refine aC.seq ?_
 refine aC.rg [0,1,2,3,4,5,6,7,8,9,10,11] ?_
 refine aC.lv 3 ?_
 rcases (show w=0∨w=1 by omega) with rfl | rfl
 ·refine aC.is 78 (v':=.bool false) rfl rfl ?_
  refine aC.lv 9 ?_
  refine aC.aV ?_
  refine aC.eX rfl ?_
  refine aC.skip ?_
  refine aC.seq ?_
  refine aC.seq ?_
  refine aC.rg [0,1,2,3,4,5] ?_
  refine aC.lv 3 ?_
  by_cases h0:0 < v
  ·refine aC.is 91 (v':=.bool true) rfl (congrArg Value.bool (by rw [decide_eq_true_iff]; omega)) ?_
   refine aC.lv 3 ?_
   refine aC.aV ?_
   refine aC.is 94 (v':=.bool (decide (0 < v∨0=0))) rfl (congrArg Value.bool (by simp [h0])) ?_
   refine aC.sub ?_ h
   exact cz.sub ⟨rfl,rfl,rfl,rfl,rfl,trivial⟩
  ·refine aC.is 91 (v':=.bool false) rfl (congrArg Value.bool (by rw [decide_eq_false_iff_not]; omega)) ?_
   refine aC.lv 3 ?_
   refine aC.aV ?_
   refine aC.is 94 (v':=.bool (decide (0 < v∨0=0))) rfl (congrArg Value.bool (by simp [h0])) ?_
   refine aC.sub ?_ h
   exact cz.sub ⟨rfl,rfl,rfl,rfl,rfl,trivial⟩
 ·refine aC.is 78 (v':=.bool true) rfl rfl ?_
  refine aC.lv 3 ?_
  refine aC.is 81 (v':=.bool false) rfl (congrArg Value.bool (by decide)) ?_
  refine aC.lv 6 ?_
  refine aC.aV ?_
  refine aC.eX rfl ?_
  refine aC.skip ?_
  refine aC.seq ?_
  refine aC.seq ?_
  refine aC.rg [0,1,2,3,4,5] ?_
  refine aC.lv 3 ?_
  by_cases h0:0 < v
  ·refine aC.is 91 (v':=.bool true) rfl (congrArg Value.bool (by rw [decide_eq_true_iff]; omega)) ?_
   refine aC.lv 3 ?_
   refine aC.aV ?_
   refine aC.is 94 (v':=.bool (decide (0 < v∨1=0))) rfl (congrArg Value.bool (by simp [h0])) ?_
   refine aC.sub ?_ h
   exact cz.sub ⟨rfl,rfl,rfl,rfl,rfl,trivial⟩
  ·refine aC.is 91 (v':=.bool false) rfl (congrArg Value.bool (by rw [decide_eq_false_iff_not]; omega)) ?_
   refine aC.lv 3 ?_
   refine aC.aV ?_
   refine aC.is 94 (v':=.bool (decide (0 < v∨1=0))) rfl (congrArg Value.bool (by simp [h0])) ?_
   refine aC.sub ?_ h
   exact cz.sub ⟨rfl,rfl,rfl,rfl,rfl,trivial⟩
theorem aOk(n:Nat):lD prog ((WJ F n k j .wv).J R H) Gone 169 [pw F,.int .i64 (-1)]:=lD.oX func169 rfl rfl rfl λ fr cs hk=>by
 have hN:=F.hN
 refine At.seq ?_
 refine At.gb rfl rfl ?_
 refine At.seq ?_
 refine At.seq ?_
 refine At.rg [0,1] ?_
 refine At.lv 2 ?_
 refine At.aV ?_
 refine At.gb rfl (by decide) ?_
 refine At.rg [0,1,2] ?_
 refine At.lv 1 ?_
 refine sW λ m hm=>KW.conv rfl rfl rfl rfl rfl ab2 rfl Uk ⟨by simp,by simp⟩ rj (λ _=>.wv) trivial λ aZ bn=>(?_:At (WJ F m k j .wr) _ _ _ _ _) aZ bn
 refine sW λ m hm=>KW.ext rfl rfl rfl rfl af3 rfl rfl λ _ w s _ bp _ _=>.inr ⟨_,w,_,.wk,s,DN (λ _ _=>by simp) rfl,.wr,trivial,rfl,cH.refl bp,λ aZ bn=>(?_:aC (TQ F m k j .wk R H) _ _ _) aZ bn⟩
 refine aC.aV ?_
 refine aC.seq ?_
 refine aC.rg [0] ?_
 refine sQ λ m hm=>KW.ext rfl rfl rfl rfl KD rfl rfl λ _ w s _ bp _ _=>.inr ⟨_,w,_,.d1,s,sb (by simp),.wk,trivial,rfl,cH.refl bp,λ aZ bn=>(?_:aC (TQ F m k j .d1 R H) _ _ _) aZ bn⟩
 refine aC.aV ?_
 refine aC.rg [0] ?_
 refine aC.defer rfl rfl rfl rfl rfl rfl rfl (.RQ rfl) ?_
 refine aC.aV ?_
 refine aC.seq ?_
 refine aC.rg [0] ?_
 refine aC.lv 1 ?_
 refine aC.aV ?_
 refine aC.seq ?_
 refine aC.seq ?_
 refine aC.rg [0] ?_
 refine aC.ext rfl rfl rfl rfl rfl af4 rfl (λ w=>VF) (.put rfl) ?_
 refine aC.aV ?_
 refine aC.eX rfl ?_
 refine aC.skip ?_
 refine aC.seq ?_
 refine aC.rg [0,1,2,3,4,5,6,7] ?_
 refine aC.lv 6 ?_
 refine aC.is 42 (v':=.int .u64 18446744069414584320) rfl (congrArg _ (by decide +kernel)) ?_
 refine aC.enter rfl rfl rfl rfl rfl func197 (by decide +kernel) rfl rfl rfl λ akm zr=>?_
 refine aC.seq ?_
 refine aC.rg [0] ?_
 refine aC.lv 1 ?_
 refine aC.aV ?_
 refine aC.seq ?_
 refine aC.rg [0,1,2,3,4,5] ?_
 refine aC.lv 4 ?_
 refine sQ λ m hm=>KW.ext rfl rfl rfl rfl af5 rfl rfl λ _ w s _ bp _ mY=>.inr ?_
 obtain ⟨v1,v2,w1⟩:=mY
 have v2':s.v≤F.N:=v2
 have ev:IntKind.u64.wrap (AG s+18446744069414584320)=4294967296 * ((s.v - 1:Nat):Int)+s.w:=by rw [Jb,aOx (by omega) (by omega)]; omega
 by_cases hq:s.v≠1∨s.w=0
 ·refine ⟨_,_,_,.quit,_,Bq bp.cg (bp.zg 0),.Kt hq,trivial,rk (.inr rfl),by rw [ev]; exact cH.wg bp,λ aZ bn=>(?_:aC (Ae prog 1) _ _ _) aZ bn⟩
  refine aC.lv 1 ?_
  refine aC.is 4 (v':=.int .u64 (4294967296 * ((s.v - 1:Nat):Int)+s.w)) rfl (congrArg _ ev) ?_
  refine aC.aV ?_
  refine aC.ret rfl λ tmps ht=>QJ.back (J:=Ae prog 1) (vs:=[.int .u64 (4294967296 * ((s.v - 1:Nat):Int)+s.w)]) func197 ht rfl (aC.resume (c':=⟨0,.normal,none,0,[],_⟩) rfl zr rfl (.put rfl) ?_ rfl)
  refine aC.lv 1 ?_
  refine aC.aV ?_
  refine adu (F:=F) (v:=s.v - 1) (w:=s.w) rfl rfl (by omega) w1 ?_ ?_
  ·exact cz.sub ⟨rfl,rfl,rfl,rfl,trivial⟩
  ·refine aC.is 94 (v':=.bool true) rfl (congrArg Value.bool (by rw [decide_eq_true_iff]; omega)) ?_
   refine aC.gb rfl ?_
   exact adt hk (.inr ⟨_,rfl⟩)
 ·have h1:s.v=1:=by omega
  have h2:s.w=1:=by omega
  refine ⟨_,_,_,.d2,_,Bq bp.cg (bp.zg 0),.Vb h1 h2,trivial,rk (.inr rfl),by rw [ev,h1]; exact cH.wg bp,λ aZ bn=>(?_:aC (TQ F m k j .d2 R H) _ _ _) aZ bn⟩
  refine aC.lv 1 ?_
  refine aC.is 4 (v':=.int .u64 (4294967296 * ((0:Nat):Int)+((1:Nat):Int))) rfl (congrArg _ (by rw [ev,h1,h2])) ?_
  refine aC.aV ?_
  refine aC.ret rfl λ tmps ht=>QJ.back (J:=TQ F m k j .d2 R H) (vs:=[.int .u64 (4294967296 * ((0:Nat):Int)+((1:Nat):Int))]) func197 ht rfl (aC.resume (c':=⟨0,.normal,none,0,[],_⟩) rfl zr rfl (.put rfl) ?_ rfl)
  refine aC.lv 1 ?_
  refine aC.aV ?_
  refine adu (F:=F) (v:=0) (w:=1) rfl rfl (by omega) (by omega) ?_ ?_
  ·exact cz.sub ⟨rfl,rfl,rfl,rfl,trivial⟩
  refine aC.is 94 (v':=.bool false) rfl rfl ?_
  refine aC.eX rfl ?_
  refine aC.skip ?_
  refine aC.seq ?_
  refine aC.seq ?_
  refine aC.rg [0,1,2,3,4,5] ?_
  refine aC.lv 3 ?_
  refine aC.enter rfl rfl rfl rfl rfl func199 (by decide +kernel) rfl rfl rfl λ aNr QN=>?_
  refine aC.seq ?_
  refine aC.rg [0] ?_
  refine aC.lv 1 ?_
  refine aC.aV ?_
  refine aC.seq ?_
  refine aC.rg [0,1,2,3,4] ?_
  refine aC.lv 3 ?_
  refine sQ λ m hm=>KW.ext rfl rfl rfl rfl VS rfl rfl λ _ w s _ bp _ mY=>.inr ⟨_,_,_,.d3,_,Pk bp.cg,.d2,trivial,yQ (.inr rfl),cH.refl bp,λ aZ bn=>(?_:aC (TQ F m k j .d3 R H) _ _ _) aZ bn⟩
  obtain ⟨g1,g2⟩:=mY
  refine aC.lv 1 ?_
  refine aC.is 2 (v':=.int .u64 (4294967296 * ((0:Nat):Int)+((1:Nat):Int))) rfl (congrArg _ (by rw [Jb,g1,g2])) ?_
  refine aC.aV ?_
  refine aC.ret rfl λ tmps ht=>QJ.back (J:=TQ F m k j .d3 R H) (vs:=[.int .u64 (4294967296 * ((0:Nat):Int)+((1:Nat):Int))]) func199 ht rfl (aC.resume (c':=⟨0,.normal,none,0,[],_⟩) rfl QN rfl (.put rfl) ?_ rfl)
  refine aC.lv 2 ?_
  refine aC.aV ?_
  refine aC.is 100 (v':=.bool false) rfl rfl ?_
  refine aC.eX rfl ?_
  refine aC.skip ?_
  refine aC.seq ?_
  refine aC.rg [0,1,2,3] ?_
  refine aC.lv 3 ?_
  refine aC.enter rfl rfl rfl rfl rfl func200 (by decide +kernel) rfl rfl rfl λ aNs Zj=>?_
  refine aC.rg [0,1,2,3,4] ?_
  refine aC.lv 4 ?_
  refine sQ λ m hm=>KW.ext rfl rfl rfl rfl ar3 rfl rfl λ _ w s _ bp _ mY=>.inr ⟨_,_,_,.d4,_,aqZ bp.cg (bp.zg 0),.d3,trivial,aoo (.inr rfl),cH.wg (v:=0) (u:=0) bp,λ aZ bn=>(?_:aC (TQ F m k j .d4 R H) _ _ _) aZ bn⟩
  refine aC.aV ?_
  refine aC.Vl rfl λ tmps ht=>QJ.back (J:=TQ F m k j .d4 R H) (vs:=[]) func200 ht rfl (aC.resume (c':=⟨0,.normal,none,0,[],_⟩) rfl Zj rfl (.put rfl) ?_ rfl)
  refine aC.aV ?_
  refine aC.seq ?_
  refine aC.seq ?_
  refine aC.rg [0] ?_
  refine aC.lv 1 ?_
  refine aC.aV ?_
  refine aC.eX rfl ?_
  refine aC.skip ?_
  refine aC.block ?_
  refine aC.enterLoop ?_
  refine aC.seq ?_
  refine aC.seq ?_
  refine aC.rg [0,1] ?_
  refine aC.lv 2 ?_
  refine aC.aV ?_
  refine aC.is 110 (v':=.bool true) rfl rfl ?_
  refine aC.gb rfl ?_
  refine aC.skip ?_
  refine aC.seq ?_
  refine aC.block ?_
  refine aC.rg [0,1,2,3] ?_
  refine aC.lv 3 ?_
  refine sQ λ m hm=>KW.ext rfl rfl rfl rfl ar0 rfl rfl λ _ w s _ bp _ mY=>.inr ⟨_,_,_,.quit,_,VG rfl bp.OX (bp.zg 1),.d4,trivial,J9 (.inr rfl),apw bp mY,λ aZ bn=>(?_:aC (Ae prog 1) _ _ _) aZ bn⟩
  refine aC.aV ?_
  refine aC.inBlock ?_
  refine aC.rg [0,1,2] ?_
  refine aC.lv 3 ?_
  refine aC.aV ?_
  refine aC.is 8 (v':=.int .u32 0) rfl rfl ?_
  refine aC.inLoop ?_
  refine aC.seq ?_
  refine aC.seq ?_
  refine aC.rg [0,1] ?_
  refine aC.lv 2 ?_
  refine aC.aV ?_
  refine aC.is 110 (v':=.bool false) rfl rfl ?_
  refine aC.eX rfl ?_
  refine aC.exit rfl ?_
  exact adt hk (.inl rfl)
theorem apr{fr:Frame}{cs:List Frame}(sG:fr.mode = .returning∨fr.mode = .panicking [goexitEntry])(hk:Gone (aY fr cs))(n:Nat):(WJ F n k j .wv).J R H (aY (Frame.enter prog 171 #[pw F] .deferred) (fr::cs)):=by
 refine Jd.enter (args:=[pw F]) func171 rfl rfl rfl ?_
 refine At.rg [0,1] ?_
 refine At.lv 1 ?_
 refine At.xZ rfl rfl rfl rfl rfl afe rfl (aOk n) λ aZ bn=>(?_:aC (Ae prog 0) _ _ _) aZ bn
 refine aC.aV ?_
 exact aC.Vl rfl λ tmps ht=>QJ.adW (J:=Ae prog 0) func171 ht rfl sG hk
end
section
variable {P:Program} {B:Base} {main:Bool} {ab:Jd P B main} {c:Ctx} {R:az} {H:ah} {st st':St} {k:List Item} {ops:Array Oper} {i:Nat} {rest:List Nat} {o:Oper} {v:Value}
theorem At.Q9{f:FuncId}{fn:Func}{body:Code}{xs:Array Operand}{ji:Array TypeId}{vs:List Value}{n:Nat}(ho:ops[i]? = some o)(hw:cY ops st o=some true)(hk:(c.kind == CallKind.early)=false)(an:o.op = .call ⟨.value (.func f),xs,ji⟩)(ha:jG st xs.toList=some vs)
  (hf:P.funcs[f]? = some fn) (LA:(fn.name == "runtime.NumGoroutine")=false) (hb:fn.body=some body) (qz:fn.ntmps=n) (hn:Nat.ble vs.length n=true)
  (h:∀ tmps,dh c.n st tmps→At ab ⟨f,.normal,none,n,[],aX c tmps (.inRegion ops (i::rest)::k)::c.cs⟩ R H (u7 0 vs) [.code body]):At ab c R H st (.inRegion ops (i::rest)::k):=λ tmps ht=>by
 have hv:ai P (execOp (aX c tmps (.inRegion ops (i::rest)::k)).eval o) (.enter f vs.toArray):=by
  rw [Hj an ht ha]
  exact F9 hf LA (by rw [hb]; rfl)
 refine Jd.ctl rfl (λ w=>?_) (Jd.enter hf hb qz hn (h tmps ht))
 rw [qS ho (lu ht hw) (by rw [an]; rfl),J7 rfl (by simpa [aX] using hk) (hv w).1,(hv w).2]
 rfl
theorem At.FL{tmps:Array Value}{f:FuncId}{fn:Func}{n:Nat}{vs:List Value}{stf:St}{kf:List Item}(hf:P.funcs[f]? = some fn)(hr:Ag stf fn.results.toList=some vs)(ho:ops[i]? = some o)(ht:dh c.n st tmps)(hd:cx o.dst c.n)(hs:aB (cB o.dst (iY vs) st) st')(h:At ab c R H st' (.inRegion ops rest::k)) :
  At ab ⟨f,.normal,none,n,[],aX c tmps (.inRegion ops (i::rest)::k)::c.cs⟩ R H stf (.code .ret::kf) :=
 At.abZ rfl λ aZ bn=>Jd.back hf bn hr (by rw [ru ho]; exact h _ ((ht.put _ hd).sub hs))
end
section
variable {F:Fx} {R:az} {H:ah}
noncomputable abbrev gM (F:Fx) (n:Nat) (T:Mp):=M5 prog F.B true (KM (FT F) n T)
theorem sM{c:Ctx}{st:St}{todo:List Item}{n:Nat}{T:Mp}(h:∀ m,m < n→∀ tmps,dh c.n st tmps→KM (FT F) (m+1) T R H (aY (aX c tmps todo) c.cs)):At (gM F n T) c R H st todo:=At.aNh (F:=FT F) h
def AdK(F:Fx)(r:Nat)(R:az)(H:ah)(g:Goroutine):Prop:=∀ n,Own prog F.B true (KM (FT F) n (.go r)) R H g
noncomputable def t22:Code:=match It with | .seq _ (.seq _ (.seq _ (.seq _ y)))=>y | _=>.skip
noncomputable def apb:Code:=match It with | .seq _ (.seq _ (.seq _ (.seq (.seq _ x) _)))=>x | _=>.skip
theorem aiG{r:Nat}{fr:Frame}{cs:List Frame}{args:Array Value}{st:St}{v:Nat}(hk:AdK F r R H (aY (fr.finish (iY [])) cs))(h1:1≤v)(h5:v≤5)(de:aB st [(0,pw F),(1,.int .i64 1),(7,.int .i32 (v:Int)),(8,.int .u32 0)])(n:Nat) :
  At (gM F n (.ke r)) ⟨169,.normal,none,117,[dcall 192 args],fr::cs⟩ R H st [.code t22]:=by
 refine At.sub de ?_
 refine At.seq ?_
 refine At.seq ?_
 refine At.rg [0,1] ?_
 refine At.lv 2 ?_
 refine At.aV ?_
 refine At.is 74 (v':=.bool false) rfl (congrArg Value.bool (by rw [decide_eq_false_iff_not]; omega)) ?_
 refine At.eX rfl rfl ?_
 refine At.skip ?_
 refine At.seq ?_
 refine At.seq ?_
 refine At.rg [0,1,2,3,4,5,6,7,8,9,10,11] ?_
 refine At.lv 3 ?_
 refine At.is 78 (v':=.bool false) rfl rfl ?_
 refine At.lv 9 ?_
 refine At.aV ?_
 refine At.eX rfl rfl ?_
 refine At.skip ?_
 refine At.seq ?_
 refine At.seq ?_
 refine At.rg [0,1,2,3,4,5] ?_
 refine At.lv 3 ?_
 refine At.is 91 (v':=.bool true) rfl (congrArg Value.bool (by rw [decide_eq_true_iff]; omega)) ?_
 refine At.lv 3 ?_
 refine At.aV ?_
 refine At.gb rfl rfl ?_
 refine At.abZ rfl λ tmps ht=>?_
 cases n with
 | zero=>exact Own.stop _ _ _ _ trivial
 | succ n=>exact Own.stop _ _ _ _ (KM.unwind (F:=FT F) rfl DT (Jd.back (ab:=gM F n (.go r)) func169 ht rfl (hk n)))
theorem aKe(r n:Nat):lD prog ((gM F n (.ka r)).J R H) (AdK F r R H) 169 [pw F,.int .i64 1]:=lD.oX func169 rfl rfl rfl λ fr cs hk=>by
 have hN:=F.hN
 refine At.seq ?_
 refine At.gb rfl rfl ?_
 refine At.seq ?_
 refine At.seq ?_
 refine At.rg [0,1] ?_
 refine At.lv 2 ?_
 refine At.aV ?_
 refine At.eX rfl (by decide) ?_
 refine At.skip ?_
 refine At.seq ?_
 refine At.rg [0] ?_
 refine sM λ m hm=>KM.ext rfl rfl rfl rfl KD rfl rfl (by simp) (by simp) λ w s _ bp _=>.inr ⟨_,w,_,.kc r,s,sb (by simp),.ka,rfl,cH.refl bp,λ aZ bn=>(?_:At (gM F m (.kc r)) _ _ _ _ _) aZ bn⟩
 refine At.aV ?_
 refine At.rg [0] ?_
 refine At.defer rfl rfl rfl rfl rfl rfl rfl (.RQ rfl) ?_
 refine At.aV ?_
 refine At.seq ?_
 refine At.rg [0] ?_
 refine At.lv 1 ?_
 refine At.aV ?_
 refine At.seq ?_
 refine At.seq ?_
 refine At.rg [0] ?_
 refine At.ext rfl rfl rfl rfl rfl af4 rfl (λ w=>VF) (.put rfl) ?_
 refine At.aV ?_
 refine At.eX rfl rfl ?_
 refine At.skip ?_
 refine At.seq ?_
 refine At.rg [0,1,2,3,4,5,6,7] ?_
 refine At.lv 6 ?_
 refine At.is 42 (v':=.int .u64 4294967296) rfl (congrArg _ (by decide +kernel)) ?_
 refine At.Q9 rfl rfl rfl rfl rfl func197 (by decide +kernel) rfl rfl rfl λ akm zr=>?_
 refine At.seq ?_
 refine At.rg [0] ?_
 refine At.lv 1 ?_
 refine At.aV ?_
 refine At.seq ?_
 refine At.rg [0,1,2,3,4,5] ?_
 refine At.lv 4 ?_
 refine sM λ m hm=>KM.ext rfl rfl rfl rfl af5 rfl rfl (by simp) (by simp) λ w s _ bp mY=>.inr ?_
 obtain ⟨w0,v1⟩:=mY
 have v1':s.v+1≤F.N:=v1
 have ev:IntKind.u64.wrap (AG s+4294967296)=4294967296 * ((s.v+1:Nat):Int)+((0:Nat):Int):=by rw [Jb,alk (by omega) (by omega)]; omega
 obtain ⟨g1,g2,g3⟩:=acn (v:=s.v+1) (w:=0) (by omega) (by omega)
 have gs:(4294967296 * ((s.v+1:Nat):Int)+((0:Nat):Int)).fdiv (2 ^ (min (32:Int).toNat IntKind.u64.bits))=((s.v+1:Nat):Int):=by simpa [lT] using g3
 have ale:cH (FT F) { s with v:=s.v+1 } w (w.setCell (aw F) (.int .u64 (IntKind.u64.wrap (AG s+4294967296)))):=by
  rw [ev]; have:=cH.wg (F:=FT F) (v:=s.v+1) (u:=0) bp
  rw [show ({ s with v:=s.v+1 }:Sh)={ s with v:=s.v+1,w:=0 } by rw [← w0]]; exact this
 have go:∀ (T:Mp) (hT:At (gM F m T) ⟨169,.normal,none,117,[dcall 192 #[]],fr::cs⟩ R H [(0,pw F),(1,.int .i64 1),(7,.int .i32 ((s.v+1:Nat):Int)),(8,.int .u32 0),(67,.bool (decide (s.v+1=1)))] [.code apb,.code t22]) (st:St),
   aB st [(0,pw F),(1,.int .i64 1),(4,.bool false),(6,.int .u64 (4294967296 * ((s.v+1:Nat):Int)+((0:Nat):Int)))]→At (gM F m T) ⟨169,.normal,none,117,[dcall 192 #[]],fr::cs⟩ R H st [.code It]:=by
  intro T hT st de
  refine At.sub de ?_
  refine At.seq ?_
  refine At.seq ?_
  refine At.rg [0,1,2,3,4,5,6] ?_
  refine At.lv 4 ?_
  refine At.is 47 (v':=.bool false) rfl (OI g1 rfl) ?_
  refine At.lv 3 ?_
  refine At.aV ?_
  refine At.eX rfl rfl ?_
  refine At.skip ?_
  refine At.seq ?_
  refine At.rg [0,1,2,3] ?_
  refine At.lv 4 ?_
  refine At.aV ?_
  refine At.is 7 (v':=.int .i32 ((s.v+1:Nat):Int)) rfl (congrArg _ (by
   show IntKind.i32.wrap ((4294967296 * ((s.v+1:Nat):Int)+((0:Nat):Int)).fdiv (2 ^ (min (32:Int).toNat IntKind.u64.bits)))=_
   rw [gs,wrap_i32 (by omega) (by omega)])) ?_
  refine At.seq ?_
  refine At.rg [0,1,2,3] ?_
  refine At.lv 4 ?_
  refine At.aV ?_
  refine At.is 8 (v':=.int .u32 0) rfl (congrArg _ (by rw [g2,oz]; exact wrap_u32 (by omega) (by omega))) ?_
  refine At.seq ?_
  refine At.seq ?_
  refine At.rg [0,1,2,3,4,5,6,7,8,9] ?_
  refine At.lv 5 ?_
  refine At.is 62 (v':=.bool true) rfl (congrArg Value.bool (by decide)) ?_
  refine At.lv 4 ?_
  refine At.is 66 (v':=.bool (decide (s.v+1=1))) rfl (congrArg Value.bool (adZ (by rw [wrap_i32 (by omega) (by omega)]; omega))) ?_
  refine At.lv 1 ?_
  refine At.aV ?_
  refine At.sub ?_ hT
  exact cz.sub ⟨rfl,rfl,rfl,rfl,rfl,trivial⟩
 by_cases hv:s.v=0
 ·refine ⟨_,_,_,.kv r,{ s with v:=1 },Bq bp.cg (bp.zg 0),.kc1 hv,rk (.inr rfl),by have:=ale; simp only [hv] at this; exact this,λ aZ bn=>(?_:At (gM F m (.kv r)) _ _ _ _ _) aZ bn⟩
  refine At.lv 1 ?_
  refine At.is 4 (v':=.int .u64 (4294967296 * ((s.v+1:Nat):Int)+((0:Nat):Int))) rfl (congrArg _ ev) ?_
  refine At.aV ?_
  refine At.FL func197 rfl rfl zr rfl (.put rfl) ?_
  refine At.lv 1 ?_
  refine At.aV ?_
  refine go _ ?_ _ ?_
  ·refine At.gb rfl (by rw [decide_eq_true_iff]; omega) ?_
   refine At.rg [0,1,2,3,4] ?_
   refine At.lv 3 ?_
   refine sM λ m hm=>KM.conv rfl rfl rfl rfl rfl akq rfl adM (by simp) (by simp) rj (λ _=>.kv) λ aZ bn=>(?_:At (gM F m (.kd r)) _ _ _ _ _) aZ bn
   refine sM λ m hm=>KM.ext rfl rfl rfl rfl arZ rfl rfl (by simp) (by simp) λ w s1 _ Et _=>.inr ⟨_,w,_,.ke r,s1,DN (λ _ _=>by simp) rfl,.kd,rfl,cH.refl Et,λ aZ bn=>(?_:At (gM F m (.ke r)) _ _ _ _ _) aZ bn⟩
   refine At.aV ?_
   refine aiG hk (v:=s.v+1) (by omega) (by omega) ?_ m
   exact cz.sub ⟨rfl,rfl,rfl,rfl,trivial⟩
  ·exact cz.sub ⟨rfl,rfl,rfl,rfl,trivial⟩
 ·refine ⟨_,_,_,.ke r,_,Bq bp.cg (bp.zg 0),.kcn hv,rk (.inr rfl),ale,λ aZ bn=>(?_:At (gM F m (.ke r)) _ _ _ _ _) aZ bn⟩
  refine At.lv 1 ?_
  refine At.is 4 (v':=.int .u64 (4294967296 * ((s.v+1:Nat):Int)+((0:Nat):Int))) rfl (congrArg _ ev) ?_
  refine At.aV ?_
  refine At.FL func197 rfl rfl zr rfl (.put rfl) ?_
  refine At.lv 1 ?_
  refine At.aV ?_
  refine go _ ?_ _ ?_
  ·refine At.eX rfl (by rw [decide_eq_false_iff_not]; omega) ?_
   refine At.skip ?_
   refine aiG hk (v:=s.v+1) (by omega) (by omega) ?_ m
   exact cz.sub ⟨rfl,rfl,rfl,rfl,trivial⟩
  ·exact cz.sub ⟨rfl,rfl,rfl,rfl,trivial⟩
end
section
variable {F:Fx} {R:az} {H:ah} {Post:Value→World→Prop}
def WtK(F:Fx)(R:az)(H:ah)(g:Goroutine):Prop:=∀ js,(∀ k,k < F.N→js k=F.J)→F.mj R ((F.bo,F.cont js)::H) g
noncomputable def ahQ:Code:=(xY (Tryz.f175.body.getD .skip)).getD .skip
abbrev aOl(fr:Frame)(cs:List Frame):Ctx:=⟨175,.normal,none,84,[],fr::cs⟩
theorem aOm(tZ:F.mj=jD prog F.B Post){fr:Frame}{cs:List Frame}{todo:List Item}(hk:WtK F R H (aY (fr.finish (iY [])) cs))(n:Nat):At (gM F n .w1) (aOl fr cs) R H [(0,pw F)] (.code ahQ :: .inLoop ahQ::todo):=by
 have hN:=F.hN
 refine At.head (X:=Unit) (Jn:=λ n _=>gM F n .w1) (S:=λ _=>[(0,pw F)]) (ok:=λ _=>True) (λ n ih _ _=>?_) n () trivial
 refine At.bf ?_
 refine At.seq ?_
 refine At.rg [0,1,2,3,4] ?_
 refine At.lv 3 ?_
 refine At.Q9 rfl rfl rfl rfl rfl func199 (by decide +kernel) rfl rfl rfl λ akm zr=>?_
 refine At.seq ?_
 refine At.rg [0] ?_
 refine At.lv 1 ?_
 refine At.aV ?_
 refine At.seq ?_
 refine At.rg [0,1,2,3,4] ?_
 refine At.lv 3 ?_
 refine sM λ m hm=>KM.ext rfl rfl rfl rfl VS rfl rfl (by simp) (by simp) λ w s _ bp mY=>.inr ?_
 obtain ⟨w0,v1⟩:=mY
 have v1':s.v≤F.N:=v1
 have ev:AG s=4294967296 * (s.v:Int)+((0:Nat):Int):=by rw [Jb,w0]
 obtain ⟨g1,g2,g3⟩:=acn (v:=s.v) (w:=0) (by omega) (by omega)
 have gs:(4294967296 * (s.v:Int)+((0:Nat):Int)).fdiv (2 ^ (min (32:Int).toNat IntKind.u64.bits))=(s.v:Int):=by simpa [lT] using g3
 by_cases hv:s.v=0
 ·refine ⟨_,_,_,.we,s,Pk bp.cg,.w1z hv,yQ (.inr rfl),cH.refl bp,λ aZ bn=>(?_:At (gM F m .we) _ _ _ _ _) aZ bn⟩
  refine At.lv 1 ?_
  refine At.is 2 (v':=.int .u64 (4294967296 * (s.v:Int)+((0:Nat):Int))) rfl (congrArg _ ev) ?_
  refine At.aV ?_
  refine At.FL func199 rfl rfl zr rfl (.put rfl) ?_
  refine At.lv 1 ?_
  refine At.aV ?_
  refine At.seq ?_
  refine At.rg [0,1,2,3] ?_
  refine At.lv 4 ?_
  refine At.aV ?_
  refine At.is 3 (v':=.int .i32 (s.v:Int)) rfl (congrArg _ (by
   show IntKind.i32.wrap ((4294967296 * (s.v:Int)+((0:Nat):Int)).fdiv (2 ^ (min (32:Int).toNat IntKind.u64.bits)))=_
   rw [gs,wrap_i32 (by omega) (by omega)])) ?_
  refine At.seq ?_
  refine At.rg [0,1,2,3] ?_
  refine At.lv 4 ?_
  refine At.aV ?_
  refine At.is 4 (v':=.int .u32 0) rfl (congrArg _ (by rw [g2,oz]; exact wrap_u32 (by omega) (by omega))) ?_
  refine At.seq ?_
  refine At.seq ?_
  refine At.rg [0,1] ?_
  refine At.lv 2 ?_
  refine At.aV ?_
  refine At.is 19 (v':=.bool true) rfl (congrArg Value.bool (by rw [hv]; rfl)) ?_
  refine At.gb rfl rfl ?_
  refine At.seq ?_
  refine At.gb rfl rfl ?_
  refine At.seq ?_
  refine At.rg [0] ?_
  refine sM λ m hm=>KM.ext rfl rfl rfl rfl DT rfl rfl (by simp) (by simp) λ w s1 _ Et _=>.inr ⟨_,w,_,.qv,s1,sb (by simp),.we,rfl,cH.refl Et,λ aZ bn=>(?_:At (gM F m .qv) _ _ _ _ _) aZ bn⟩
  refine At.aV ?_
  refine At.rg [0,1,2] ?_
  refine At.lv 1 ?_
  refine sM λ m hm=>KM.conv rfl rfl rfl rfl rfl ab2 rfl Uk (by simp) (by simp) rj (λ _=>.qv) λ aZ bn=>(?_:At (gM F m .wq) _ _ _ _ _) aZ bn
  refine sM λ m hm=>KM.acq rfl rfl rfl rfl Pq rfl rfl rfl λ js iT aZ bn=>?_
  have ed:=hk js iT
  show F.mj _ _ _
  rw [tZ] at ed ⊢
  refine (?_:At (FE prog F.B Post) _ _ _ _ _) aZ bn
  refine At.aV ?_
  refine At.seq ?_
  refine At.seq ?_
  refine At.rg [0,1,2,3,4,5,6,7,8,9,10] ?_
  refine At.lv 2 ?_
  refine At.is 25 (v':=.bool true) rfl rfl ?_
  refine At.lv 4 ?_
  refine At.is 29 (v':=.bool false) rfl (OI g1 rfl) ?_
  refine At.lv 5 ?_
  refine At.aV ?_
  refine At.eX rfl rfl ?_
  refine At.skip ?_
  exact At.rp func175 rfl ed (.inr ⟨_,rfl⟩)
 ·refine ⟨_,_,_,.w2 s.v,s,Pk bp.cg,.w1n hv,yQ (.inr rfl),cH.refl bp,λ aZ bn=>(?_:At (gM F m (.w2 s.v)) _ _ _ _ _) aZ bn⟩
  refine At.lv 1 ?_
  refine At.is 2 (v':=.int .u64 (4294967296 * (s.v:Int)+((0:Nat):Int))) rfl (congrArg _ ev) ?_
  refine At.aV ?_
  refine At.FL func199 rfl rfl zr rfl (.put rfl) ?_
  refine At.sub (st':=[(0,pw F),(11,.int .u64 (4294967296 * (s.v:Int)+((0:Nat):Int)))]) (cz.sub ⟨rfl,rfl,trivial⟩) ?_
  clear ev bp bn zr
  generalize s.v=u at hv v1' g1 g2 g3 gs v1 ⊢
  refine At.lv 1 ?_
  refine At.aV ?_
  refine At.seq ?_
  refine At.rg [0,1,2,3] ?_
  refine At.lv 4 ?_
  refine At.aV ?_
  refine At.is 3 (v':=.int .i32 (u:Int)) rfl (congrArg _ (by
   show IntKind.i32.wrap ((4294967296 * (u:Int)+((0:Nat):Int)).fdiv (2 ^ (min (32:Int).toNat IntKind.u64.bits)))=_
   rw [gs,wrap_i32 (by omega) (by omega)])) ?_
  refine At.seq ?_
  refine At.rg [0,1,2,3] ?_
  refine At.lv 4 ?_
  refine At.aV ?_
  refine At.is 4 (v':=.int .u32 0) rfl (congrArg _ (by rw [g2,oz]; exact wrap_u32 (by omega) (by omega))) ?_
  refine At.seq ?_
  refine At.seq ?_
  refine At.rg [0,1] ?_
  refine At.lv 2 ?_
  refine At.aV ?_
  refine At.is 19 (v':=.bool false) rfl (congrArg Value.bool (by rw [beq_eq_false_iff_ne]; omega)) ?_
  refine At.eX rfl rfl ?_
  refine At.skip ?_
  refine At.seq ?_
  refine At.rg [0,1,2,3,4,5,6] ?_
  refine At.lv 6 ?_
  refine At.is 47 (v':=.int .u64 (4294967296 * (u:Int)+((1:Nat):Int))) rfl (congrArg _ (by rw [alk (by omega) (by omega)]; omega)) ?_
  refine At.Q9 rfl rfl rfl rfl rfl func207 (by decide +kernel) rfl rfl rfl λ aNr QN=>?_
  refine At.seq ?_
  refine At.rg [0] ?_
  refine At.lv 1 ?_
  refine At.aV ?_
  refine At.seq ?_
  refine At.rg [0,1,2,3,4,5,6] ?_
  refine At.lv 5 ?_
  refine sM λ p hp=>KM.ext rfl rfl rfl rfl ar4 rfl rfl (by simp) (by simp) λ w s2 _ LF mY=>.inr ?_
  obtain ⟨y0,y1,y2⟩:=mY
  have ev2:AG s2=4294967296 * (s2.v:Int)+((0:Nat):Int):=by rw [Jb,y0]
  have WA:=LF.cg
  rw [ev2] at WA
  by_cases he:s2.v=u
  ·subst he
   refine ⟨.bool true,_,_,.wV,{ s2 with w:=1 },He WA (LF.zg 0),.ak7,rk (.inr rfl),cH.wg (v:=s2.v) (u:=1) LF,λ aZ bn=>(?_:At (gM F p .wV) _ _ _ _ _) aZ bn⟩
   refine At.lv 1 ?_
   refine At.aV ?_
   refine At.FL func207 rfl rfl QN rfl (.put rfl) ?_
   refine At.aV ?_
   refine At.gb rfl rfl ?_
   refine At.seq ?_
   refine At.seq ?_
   refine At.rg [0,1,2,3] ?_
   refine At.lv 3 ?_
   refine At.is 51 (v':=.bool true) rfl rfl ?_
   refine At.lv 1 ?_
   refine At.aV ?_
   refine At.gb rfl rfl ?_
   refine At.rg [0,1,2,3,4] ?_
   refine At.lv 3 ?_
   refine sM λ m hm=>KM.conv rfl rfl rfl rfl rfl akq rfl adM (by simp) (by simp) rj (λ _=>.wV) λ aZ bn=>(?_:At (gM F m .wW) _ _ _ _ _) aZ bn
   refine sM λ m hm=>KM.ext rfl rfl rfl rfl ar1 rfl rfl (by simp) (by simp) λ w s1 _ Et _=>.inr ⟨_,w,_,.w3,s1,DN (λ _ _=>by simp) rfl,.wW,rfl,cH.refl Et,λ aZ bn=>(?_:At (gM F m .w3) _ _ _ _ _) aZ bn⟩
   refine At.aV ?_
   refine At.seq ?_
   refine At.rg [0] ?_
   refine At.lv 1 ?_
   refine At.aV ?_
   refine At.seq ?_
   refine At.seq ?_
   refine At.rg [0,1,2,3,4,5] ?_
   refine At.lv 3 ?_
   refine At.is 60 (v':=.bool false) rfl (OI g1 rfl) ?_
   refine At.lv 3 ?_
   refine At.aV ?_
   refine At.eX rfl rfl ?_
   refine At.skip ?_
   refine At.seq ?_
   refine At.rg [0,1,2,3,4] ?_
   refine At.lv 4 ?_
   refine sM λ m hm=>KM.ext rfl rfl rfl rfl ar2 rfl rfl (by simp) (by simp) λ w s3 _ sI _=>?_
   cases lg:s3.ws with
   | zero=>exact .inl ⟨rfl,rfl,ads rfl (by have e:=sI.OX; rw [lg] at e; exact e)⟩
   | succ z =>
    have ea:((z+1:Nat):Int) - 1=(z:Int):=by omega
    refine .inr ⟨_,_,_,.w4,_,afr (n:=((z+1:Nat):Int)) rfl (by have e:=sI.OX; rw [lg] at e; exact e) (by omega) (sI.zg 1),.w3 lg,J9 (.inr rfl),by rw [ea]; exact cH.ws sI,λ aZ bn=>(?_:At (gM F m .w4) _ _ _ _ _) aZ bn⟩
    refine At.aV ?_
    refine At.seq ?_
    refine At.rg [0,1,2,3,4,5] ?_
    refine At.lv 3 ?_
    refine At.Q9 rfl rfl rfl rfl rfl func199 (by decide +kernel) rfl rfl rfl λ aNs Zj=>?_
    refine At.seq ?_
    refine At.rg [0] ?_
    refine At.lv 1 ?_
    refine At.aV ?_
    refine At.seq ?_
    refine At.rg [0,1,2,3,4] ?_
    refine At.lv 3 ?_
    refine sM λ m hm=>KM.ext rfl rfl rfl rfl VS rfl rfl (by simp) (by simp) λ w s4 _ ag6 mY=>.inr ⟨_,_,_,.we,s4,Pk ag6.cg,.w4,yQ (.inr rfl),cH.refl ag6,λ aZ bn=>(?_:At (gM F m .we) _ _ _ _ _) aZ bn⟩
    obtain ⟨z1,z2⟩:=mY
    refine At.lv 1 ?_
    refine At.is 2 (v':=.int .u64 0) rfl (congrArg _ (by rw [Jb,z1,z2]; rfl)) ?_
    refine At.aV ?_
    refine At.FL func199 rfl rfl Zj rfl (.put rfl) ?_
    refine At.lv 2 ?_
    refine At.aV ?_
    refine At.is 6 (v':=.bool false) rfl rfl ?_
    refine At.seq ?_
    refine At.gb rfl rfl ?_
    refine At.seq ?_
    refine At.rg [0] ?_
    refine sM λ m hm=>KM.ext rfl rfl rfl rfl DT rfl rfl (by simp) (by simp) λ w s1 _ Et _=>.inr ⟨_,w,_,.qv,s1,sb (by simp),.we,rfl,cH.refl Et,λ aZ bn=>(?_:At (gM F m .qv) _ _ _ _ _) aZ bn⟩
    refine At.aV ?_
    refine At.rg [0,1,2] ?_
    refine At.lv 1 ?_
    refine sM λ m hm=>KM.conv rfl rfl rfl rfl rfl ab2 rfl Uk (by simp) (by simp) rj (λ _=>.qv) λ aZ bn=>(?_:At (gM F m .wq) _ _ _ _ _) aZ bn
    refine sM λ m hm=>KM.acq rfl rfl rfl rfl Pq rfl rfl rfl λ js iT aZ bn=>?_
    have ed:=hk js iT
    show F.mj _ _ _
    rw [tZ] at ed ⊢
    refine (?_:At (FE prog F.B Post) _ _ _ _ _) aZ bn
    refine At.aV ?_
    refine At.seq ?_
    refine At.seq ?_
    refine At.rg [0] ?_
    refine At.lv 1 ?_
    refine At.aV ?_
    refine At.eX rfl rfl ?_
    refine At.skip ?_
    exact At.rp func175 rfl ed (.inr ⟨_,rfl⟩)
  ·refine ⟨.bool false,w,_,.w1,s2,Ky WA (LF.zg 0) (λ e=>he (by omega)),.ak6 he,yQ (.inr rfl),cH.refl LF,λ aZ bn=>(?_:At (gM F p .w1) _ _ _ _ _) aZ bn⟩
   refine At.lv 1 ?_
   refine At.aV ?_
   refine At.FL func207 rfl rfl QN rfl (.put rfl) ?_
   refine At.aV ?_
   refine At.eX rfl rfl ?_
   refine At.skip ?_
   refine At.bQ ?_
   refine At.inLoop ?_
   refine At.sub ?_ (ih p (Nat.lt_trans hp hm) () trivial)
   exact cz.sub ⟨rfl,trivial⟩
theorem aOn(tZ:F.mj=jD prog F.B Post)(n:Nat):lD prog ((gM F n .wa).J R H) (WtK F R H) 175 [pw F]:=lD.oX func175 rfl rfl rfl λ fr cs hk=>by
 refine At.seq ?_
 refine At.gb rfl rfl ?_
 refine At.rg [0] ?_
 refine sM λ m hm=>KM.ext rfl rfl rfl rfl KD rfl rfl (by simp) (by simp) λ w s _ bp _=>.inr ⟨_,w,_,.w1,s,sb (by simp),.wa,rfl,cH.refl bp,λ aZ bn=>(?_:At (gM F m .w1) _ _ _ _ _) aZ bn⟩
 refine At.aV ?_
 refine At.bf ?_
 refine At.enterLoop ?_
 refine At.sub ?_ (aOm tZ hk m)
 exact cz.sub ⟨rfl,trivial⟩
end
end Go.Proofs.YtihapemckcdicaaGreatDoor
namespace Go.Lg
open Go.Conc Go.ConcN
def nL(a:Nat→Nat→Bool)(js:Nat→Nat):List Value:=(List.range 16).map λ p=>.bool (decide (p / 4 < js (p % 4)) && a (p / 4) (p % 4))
theorem aLc(a:Nat→Nat→Bool):nL a (λ _=>0)=List.replicate 16 (.bool false):=by
 simp [nL,List.range,List.range.loop,List.replicate]
theorem abl{a:Nat→Nat→Bool}{js:Nat→Nat}{p:Nat}(hp:p < 16):(nL a js)[p]? = some (.bool (decide (p / 4 < js (p % 4)) && a (p / 4) (p % 4))):=by
 simp [nL,hp]
theorem aLb{a:Nat→Nat→Bool}{js:Nat→Nat}{k j:Nat}(hk:k < 4)(_:j < 4)(iT:js k=j):nL a (gS js k (j+1))=(nL a js).set (4 * j+k) (.bool (a j k)):=by
 have hl:∀ js,(nL a js).length=16:=λ js=>by simp [nL]
 apply List.ext_getElem?
 intro p
 rcases Nat.lt_or_ge p 16 with hp | hp
 ·rw [abl hp,List.getElem?_set,abl hp]
  by_cases e:4 * j+k=p
  ·subst e
   rw [if_pos rfl,if_pos (by rw [hl]; omega)]
   have e1:(4 * j+k) / 4=j:=by omega
   have e2:(4 * j+k) % 4=k:=by omega
   rw [e1,e2,uO]
   simp
  ·rw [if_neg e]
   by_cases e2:p % 4=k
   ·have e3:p / 4≠j:=by omega
    rw [e2,uO,iT]
    have:decide (p / 4 < j+1)=decide (p / 4 < j):=by
     by_cases h:p / 4 < j
     ·simp [h]; omega
     ·simp [h]; omega
    rw [this]
   ·rw [uN e2]
 ·rw [List.getElem?_eq_none (by rw [hl]; exact hp),List.getElem?_eq_none (by rw [List.length_set,hl]; exact hp)]
end Go.Lg
