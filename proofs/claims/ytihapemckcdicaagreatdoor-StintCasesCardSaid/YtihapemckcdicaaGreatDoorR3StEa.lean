/- The row StintCases and its tied card: whatever the arguments, laganlaw05.StintCases returns true, on every schedule, without a race, and all that lay in memory lies as it lay. Conditions: the listed variable is as the program's text lays it; the clock passes at its own pace. -/
import Derived.Test.YtihapemckcdicaaGreatDoorQWStV
import Derived.Test.YtihapemckcdicaaGreatDoorR3StT
import Derived.Test.YtihapemckcdicaaGreatDoorR3StLc
namespace Go.Proofs.YtihapemckcdicaaGreatDoor
open Go.Lg Go.Proofs Go.ChangeShapes Go.WideShapes Go.ChangeAt Go.RowKit Go.Conc Tryz
open Go.ConcM (OsLater)
set_option maxRecDepth 100000
theorem aOq:ownKnob prog.godebug=none:=by kernel_rfl
theorem laidOut:laidOutB prog=true:=by kernel_rfl
section
variable {H:Type} {enc:TypeId × Value→H} {P:Program} {w:World} {base:Nat} {spare:Nat→Bool} {held:Bool}
theorem aQN{t0 t1 t2 t3 t4:TypeId}{args:Array Value}{ds:List (DataW H)}{ps:List MemPlace}(h:DataW.TrodAll enc P w base spare held [t0,t1,t2,t3,t4] args.toList ds ps) :
  ∃ v0 v1 v2 v3 v4 d0 d1 d2 d3 d4 p0 p1 p2 p3 p4,args=#[v0,v1,v2,v3,v4]∧ds=[d0,d1,d2,d3,d4]∧ps=p0++p1++p2++p3++p4∧DataW.Trod enc P w base spare held t0 v0 d0 p0∧DataW.Trod enc P w base spare held t1 v1 d1 p1∧DataW.Trod enc P w base spare held t2 v2 d2 p2∧DataW.Trod enc P w base spare held t3 v3 d3 p3∧DataW.Trod enc P w base spare held t4 v4 d4 p4:=by
 obtain ⟨v0,vs0,d0,ds0,p0,q0,Hu,rfl,rfl,h0,YU⟩:=trodAll_cons h
 obtain ⟨v1,vs1,d1,ds1,p1,q1,rfl,rfl,rfl,h1,hr1⟩:=trodAll_cons YU
 obtain ⟨v2,vs2,d2,ds2,p2,q2,rfl,rfl,rfl,h2,hr2⟩:=trodAll_cons hr1
 obtain ⟨v3,vs3,d3,ds3,p3,q3,rfl,rfl,rfl,h3,hr3⟩:=trodAll_cons hr2
 obtain ⟨v4,vs4,d4,ds4,p4,q4,rfl,rfl,rfl,h4,hr4⟩:=trodAll_cons hr3
 obtain ⟨rfl,rfl,rfl⟩:=trodAll_nil hr4
 exact ⟨v0,v1,v2,v3,v4,d0,d1,d2,d3,d4,p0,p1,p2,p3,p4,by cases args; simp_all,rfl,by simp,h0,h1,h2,h3,h4⟩
end
theorem aPN(os:Os)(started:os.Started)(T:Type)(enc:TypeId × Value→T)(F:Stop.Interp) :
  ReturnsInLeavingWide { calm:=true } checked os 3 .any (λ w args=>(Rows.stintCasesSpec.pre enc prog Tryz.f3 [] false w args∧laidMetH prog M1 w)∧sizedMet enc prog Tryz.f3 (OpenSpec.ofChange Rows.stintCasesSpec) false w args)
   ((OpenSpec.ofChange Rows.stintCasesSpec).postWith enc prog Tryz.f3 F (outsideKept [.timePasses]) false true false):=by
 refine aKT (C:=checked) (X:=λ w _=>laidMetH prog M1 w) (λ _ _ _ hh h=>h.of_heap hh) aOq started func3
  (aRP (enc:=enc) (C:=checked) (os:=os) (X:=λ w _=>laidMetH prog M1 w) (World.doorLaid prog 14 os) #[.agg #[iv 0,.slice none 0 0,.slice none 0 0,.slice none 0 0,.slice none 0 0,.slice none 0 0],iv 0,iv 0,iv 0,.slice none 0 0] 8 rfl (World.shaped_of_RefB (by kernel_rfl) (by kernel_rfl)) (by kernel_rfl) (by kernel_rfl) (by kernel_rfl) (arb os _)) ?_
 intro W base args ds gs before aEO hW hL
 have B5:∀ (j:Nat) t v,Tryz.f3.params[j]? = some t→args[j]? = some v→Value.okWide prog W .any base t v:=aEO
 have Qw:=hW
 obtain ⟨p,q,hA0,hV,_,_,_⟩:=hW
 have hA:DataW.TrodAll enc prog W 0 (λ _=>true) true Tryz.f3.params.toList args.toList ds p:=hA0
 rw [params3] at hA B5
 obtain ⟨v0,v1,v2,v3,v4,d0,d1,d2,d3,d4,p0,p1,p2,p3,p4,rfl,rfl,_,h0,h1,h2,h3,h4⟩:=aQN hA
 obtain ⟨rfl,rfl⟩:=trodVars_none hV
 obtain ⟨x0,u1,u2,u3,u4,u5,rfl,g1,g2,g3,g4,g5⟩:=apX (B5 0 28 _ rfl rfl) h0
 obtain ⟨x1,rfl,k1⟩:=Ve (B5 1 3 _ rfl rfl) h1
 obtain ⟨x2,rfl,k2⟩:=Ve (B5 2 3 _ rfl rfl) h2
 obtain ⟨x3,rfl,k3⟩:=Ve (B5 3 3 _ rfl rfl) h3
 obtain ⟨x4,q4⟩:=apY (B5 4 29 _ rfl rfl) h4
 refine aNM (aNp (B:=G1 W) x0 x1 x2 x3 x4 (aNX hL) (aoX λ _=>aqj) g1 g2 g3 g4 g5 q4 (aJU x0 x1 x2 x3 x4) ?_)
 rintro v R' H' w ⟨hR,_,rfl⟩ hw
 exact ⟨aO1 laidOut (by kernel_rfl) rfl rfl underlying4 Qw rfl (aqk hw hR) rfl rfl rfl,hw.os⟩
end Go.Proofs.YtihapemckcdicaaGreatDoor
