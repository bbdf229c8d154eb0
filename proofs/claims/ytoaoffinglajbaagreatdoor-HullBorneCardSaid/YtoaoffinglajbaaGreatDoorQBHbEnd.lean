/- The row HullBorne and its tied card: whatever the arguments, laganlaw06.HullBorne returns true, on every schedule, without a race, and all that lay in memory lies as it lay. Conditions: the listed variables are as the program's text lays them. -/
import Derived.Test.YtoaoffinglajbaaGreatDoorQBHbV
import Derived.Test.YtoaoffinglajbaaGreatDoorQBHbT
import Derived.Test.YtoaoffinglajbaaGreatDoorQBHbBz
import Derived.Test.YtoaoffinglajbaaGreatDoorCards
import Derived.SevenTiedAt
namespace Go.Proofs.YtoaoffinglajbaaGreatDoor
open Go.Lg Go.Proofs Go.ChangeShapes Go.WideShapes Go.ChangeAt Go.RowKit Go.Conc Tryz
set_option maxRecDepth 100000
theorem Kg:ownKnob prog.godebug=none:=by kernel_rfl
theorem laidOut:laidOutB prog=true:=by kernel_rfl
section
variable {H:Type} {enc:TypeId × Value→H} {P:Program} {w:World} {base:Nat} {spare:Nat→Bool} {held:Bool}
theorem L8{t0 t1 t2 t3 t4 t5:TypeId}{args:Array Value}{g:List (DataW H)}{m:List MemPlace}(h:DataW.TrodAll enc P w base spare held [t0,t1,t2,t3,t4,t5] args.toList g m) :
  ∃ v0 v1 v2 v3 v4 v5 d0 d1 d2 d3 d4 d5 d p1 p2 p3 p4 f,args=#[v0,v1,v2,v3,v4,v5]∧g=[d0,d1,d2,d3,d4,d5]∧m=d++p1++p2++p3++p4++f∧DataW.Trod enc P w base spare held t0 v0 d0 d∧DataW.Trod enc P w base spare held t1 v1 d1 p1∧DataW.Trod enc P w base spare held t2 v2 d2 p2∧DataW.Trod enc P w base spare held t3 v3 d3 p3∧DataW.Trod enc P w base spare held t4 v4 d4 p4∧DataW.Trod enc P w base spare held t5 v5 d5 f:=by
 obtain ⟨v0,aa,d0,K,d,S,R,rfl,rfl,s,D⟩:=trodAll_cons h
 obtain ⟨v1,ab,d1,L,p1,T,rfl,rfl,rfl,y,E⟩:=trodAll_cons D
 obtain ⟨v2,ac,d2,M,p2,V,rfl,rfl,rfl,z,F⟩:=trodAll_cons E
 obtain ⟨v3,ad,d3,N,p3,W,rfl,rfl,rfl,A,G⟩:=trodAll_cons F
 obtain ⟨v4,ae,d4,O,p4,Y,rfl,rfl,rfl,B,I⟩:=trodAll_cons G
 obtain ⟨v5,af,d5,Q,f,Z,rfl,rfl,rfl,C,J⟩:=trodAll_cons I
 obtain ⟨rfl,rfl,rfl⟩:=trodAll_nil J
 exact ⟨v0,v1,v2,v3,v4,v5,d0,d1,d2,d3,d4,d5,d,p1,p2,p3,p4,f,by cases args; simp_all,rfl,by simp,s,y,z,A,B,C⟩
end
theorem Lg(os:Os)(started:os.Started)(T:Type)(enc:TypeId × Value→T) :
  ReturnsInLeavingWide {} checked os 3 .any (λ w args=>(Rows.hullBorneSpec.pre enc prog Tryz.f3 [] false w args∧laidMetH prog l8 w)∧sizedMet enc prog Tryz.f3 (OpenSpec.ofChange Rows.hullBorneSpec) false w args)
   (Rows.hullBorneSpec.post enc prog Tryz.f3 false true false false):=by
 refine GI (C:=checked) (X:=λ w _=>laidMetH prog l8 w) (λ _ _ _ V h=>h.of_heap V) Kg started func3
  (ChangeSpec.witness_shaped (enc:=enc) (C:=checked) (os:=os) (X:=λ w _=>laidMetH prog l8 w) false (World.doorLaid prog 14 os) #[.agg #[.int .i64 0,.int .i64 0,.int .i64 0,.slice none 0 0,.slice none 0 0,.slice none 0 0],.agg #[.int .i64 0,.int .i64 0,.int .i64 0,.slice none 0 0,.slice none 0 0],.slice none 0 0,.int .u8 0,.int .u8 0,.int .u8 0] 8 rfl (World.shaped_of_RefB (by kernel_rfl) (by kernel_rfl)) (by kernel_rfl) (by kernel_rfl) (by kernel_rfl) (Cu os _)) ?_
 intro W base args s gs before Y g O
 have d:∀ (j:Nat) t v,Tryz.f3.params[j]? = some t→args[j]? = some v→Value.okWide prog W .any base t v:=Y
 have S:=g
 obtain ⟨p,q,N,R,_,_,_⟩:=g
 have f:DataW.TrodAll enc prog W 0 (λ _=>true) true Tryz.f3.params.toList args.toList s p:=N
 rw [params3] at f d
 obtain ⟨v0,v1,v2,v3,v4,v5,d0,d1,d2,d3,d4,d5,Z,p1,p2,p3,p4,aa,rfl,rfl,_,G,I,J,K,L,M⟩:=L8 f
 obtain ⟨rfl,rfl⟩:=trodVars_none R
 obtain ⟨m,ab,ac,ad,rfl,y,z,A⟩:=BY (d 0 28 _ rfl rfl) G
 obtain ⟨x1,ae,af,rfl,D,E⟩:=BZ (d 1 32 _ rfl rfl) I
 obtain ⟨x2,F,k2⟩:=B0 (d 2 33 _ rfl rfl) J
 obtain ⟨x3,rfl,k3⟩:=sH (d 3 5 _ rfl rfl) K
 obtain ⟨x4,rfl,k4⟩:=sH (d 4 5 _ rfl rfl) L
 obtain ⟨x5,rfl,k5⟩:=sH (d 5 5 _ rfl rfl) M
 refine JL (IP (B:=qI W) m x1 x2 x3 x4 x5 (J2 O) KR y z A D E F.rd (FU m x1 x2 x3 x4 x5 k2 k4 k5) ?_)
 rintro v R' H' w ⟨Q,_,rfl⟩ hw
 exact Km laidOut (by kernel_rfl) rfl rfl underlying4 S rfl (Ch hw Q) rfl rfl rfl
theorem Lf:Rows.HullBorneSaid :=
 OpenClaim.holds_of_wide_leaving 3 Tryz.f3 rfl rfl rfl rfl rfl rfl rfl ⟨rfl,rfl,rfl,rfl,rfl⟩ rfl rfl rfl rfl rfl (by kernel_rfl) func3 (by kernel_rfl)
  (of_decide_eq_true (by kernel_rfl)) (by unfold Func.isWrapper; first | (rw [if_pos (by decide +kernel)]; kernel_rfl) | (rw [if_neg (by decide +kernel)]; exact ⟨rfl,rfl⟩))
  (λ os started T enc _=>Lg os started T enc)
theorem L4(m:Looks){p:Pinned}{s:OpenSpec}{c:OpenClaim}(kinds:List LaidKind)(y:Bool)(d:Bool × String)(g:Bool)
  (B:c.holds p s) (hw:c.wfByText s=true) (J:c.laidByTextAt m p kinds y)
  (I:c.start = .entering) (G:c.noBlocks=false∧c.again=false) (hm:p.checked.prog.mainIs=some (d.1,d.2.toList)) (F:(!d.1 && d.2.isEmpty && !g)=false)
  (E:∀ f fn,p.checked.prog.funcNamed c.func=some f→p.checked.prog.funcs[f]? = some fn→g=p.checked.prog.looks []∧∀ (j:Nat) t,fn.params[j]? = some t→p.checked.prog.wantsStandIn t=false)
  (C:true=c.goesBy p.checked.prog) :
  Claim7.holds p (.plain s) { stood:={ row:=c,standIns:=[],harness:=d,looks:=g },kinds:=[],alts:=[],goes:=true,laidByText:=true,laidKinds:=kinds,laidTests:=y,laidLooks:=m }:=by
 have z:∀ r:OpenClaim,Claim7.isSixth { stood:={ row:=r,standIns:=[],harness:=d,looks:=g },kinds:=[] }=false:=λ r=>by simpa [Claim7.isSixth] using F
 exact ⟨Claim7.tied_new_at m kinds y (Claim7.new_of_sixth B d g I G hm (z c) E) hw,(λ D A=>by cases A),J,(λ h=>by cases h),C⟩
theorem row_card:Rows.HullBorneCardSaid :=
 L4 .later [.funcs,.funcs] true (true,"f563ec8e723ead4797e9628507a0ba77b967034311961a6dba342a60d2ff20e2") false Lf (by kernel_rfl) hullBorne_row_tie rfl ⟨rfl,rfl⟩ (by kernel_rfl) rfl
  (λ f fn m s=>by
   obtain rfl:f=3:=ey ((show prog.funcNamed "lagan/laganlaw06.HullBorne"=some 3 by kernel_rfl).symm.trans m) |>.symm
   obtain rfl:fn=Tryz.f3:=(ey (func3.symm.trans s)).symm
   exact ⟨by kernel_rfl,λ j t d=>by
    rw [params3] at d
    have hm:t∈[28,32,33,5,5,5]:=by simpa using Array.mem_of_getElem? d
    have g:([28,32,33,5,5,5].all λ u=>!prog.wantsStandIn u)=true:=by kernel_rfl
    exact (show prog.wantsStandIn t=false by simpa using List.all_eq_true.1 g t hm)⟩)
  (by kernel_rfl)
#print axioms row_card
end Go.Proofs.YtoaoffinglajbaaGreatDoor
