/- The row StintDives and its tied card: whatever the arguments, laganlaw05.StintDives returns true, on every schedule, without a race, and all that lay in memory lies as it lay. Conditions: the listed variable is as the program's text lays it; the clock passes at its own pace. -/
import Derived.Test.YtihapemckcdicaaGreatDoorQDStV
import Derived.Test.YtihapemckcdicaaGreatDoorR18StT
import Derived.Test.YtihapemckcdicaaGreatDoorR18StL
namespace Go.Proofs.YtihapemckcdicaaGreatDoor
open Go.Lg Go.Proofs Go.ChangeShapes Go.WideShapes Go.ChangeAt Go.RowKit Go.Conc Tryz
open Go.ConcM (OsLater)
set_option maxRecDepth 100000
theorem avP:ownKnob prog.godebug=none:=by kernel_rfl
theorem laidOut:laidOutB prog=true:=by kernel_rfl
section
variable {H:Type} {enc:TypeId × Value→H} {P:Program} {w:World} {base:Nat} {spare:Nat→Bool} {held:Bool}
theorem aLM{t0 t1 t2 t3 t4:TypeId}{args:Array Value}{ds:List (DataW H)}{ps:List MemPlace}(h:DataW.TrodAll enc P w base spare held [t0,t1,t2,t3,t4] args.toList ds ps) :
  ∃ v0 v1 v2 v3 v4 d0 d1 d2 d3 d4 p0 p1 p2 p3 p4,args=#[v0,v1,v2,v3,v4]∧ds=[d0,d1,d2,d3,d4]∧ps=p0++p1++p2++p3++p4∧DataW.Trod enc P w base spare held t0 v0 d0 p0∧DataW.Trod enc P w base spare held t1 v1 d1 p1∧DataW.Trod enc P w base spare held t2 v2 d2 p2∧DataW.Trod enc P w base spare held t3 v3 d3 p3∧DataW.Trod enc P w base spare held t4 v4 d4 p4:=by
 obtain ⟨v0,vs0,d0,ds0,p0,q0,Ez,rfl,rfl,h0,hr0⟩:=trodAll_cons h
 obtain ⟨v1,vs1,d1,ds1,p1,q1,rfl,rfl,rfl,h1,hr1⟩:=trodAll_cons hr0
 obtain ⟨v2,vs2,d2,ds2,p2,q2,rfl,rfl,rfl,h2,hr2⟩:=trodAll_cons hr1
 obtain ⟨v3,vs3,d3,ds3,p3,q3,rfl,rfl,rfl,h3,hr3⟩:=trodAll_cons hr2
 obtain ⟨v4,vs4,d4,ds4,p4,q4,rfl,rfl,rfl,h4,hr4⟩:=trodAll_cons hr3
 obtain ⟨rfl,rfl,rfl⟩:=trodAll_nil hr4
 exact ⟨v0,v1,v2,v3,v4,d0,d1,d2,d3,d4,p0,p1,p2,p3,p4,by cases args; simp_all,rfl,by simp,h0,h1,h2,h3,h4⟩
end
theorem awP(os:Os)(started:os.Started)(T:Type)(enc:TypeId × Value→T)(F:Stop.Interp) :
  ReturnsInLeavingWide { calm:=true } checked os 18 .any (λ w args=>(Rows.stintDivesSpec.pre enc prog Tryz.f18 [] false w args∧laidMetH prog Hi w)∧sizedMet enc prog Tryz.f18 (OpenSpec.ofChange Rows.stintDivesSpec) false w args)
   ((OpenSpec.ofChange Rows.stintDivesSpec).postWith enc prog Tryz.f18 F (outsideKept [.timePasses]) false true false):=by
 refine atc (C:=checked) (X:=λ w _=>laidMetH prog Hi w) (λ _ _ _ hh h=>h.of_heap hh) avP started func18
  (ayC (enc:=enc) (C:=checked) (os:=os) (X:=λ w _=>laidMetH prog Hi w) (World.doorLaid prog 14 os) #[.agg #[iv 0,.slice none 0 0,.slice none 0 0,.slice none 0 0,.slice none 0 0,.slice none 0 0],iv 0,.slice none 0 0,iv 0,iv 0] 8 rfl (World.shaped_of_RefB (by kernel_rfl) (by kernel_rfl)) (by kernel_rfl) (by kernel_rfl) (by kernel_rfl) (agD os _)) ?_
 intro W base args ds gs before apC hW hL
 have BZ:∀ (j:Nat) t v,Tryz.f18.params[j]? = some t→args[j]? = some v→Value.okWide prog W .any base t v:=apC
 have Kf:=hW
 obtain ⟨p,q,hA0,hV,_,_,_⟩:=hW
 have hA:DataW.TrodAll enc prog W 0 (λ _=>true) true Tryz.f18.params.toList args.toList ds p:=hA0
 rw [params18] at hA BZ
 obtain ⟨v0,v1,v2,v3,v4,d0,d1,d2,d3,d4,p0,p1,p2,p3,p4,rfl,rfl,_,h0,h1,h2,h3,h4⟩:=aLM hA
 obtain ⟨rfl,rfl⟩:=trodVars_none hV
 obtain ⟨x0,u1,u2,u3,u4,u5,rfl,g1,g2,g3,g4,g5⟩:=afJ (BZ 0 28 _ rfl rfl) h0
 obtain ⟨x1,rfl,k1⟩:=afK (BZ 1 3 _ rfl rfl) h1
 obtain ⟨x2,q2⟩:=azo (BZ 2 36 _ rfl rfl) h2
 obtain ⟨x3,rfl,k3⟩:=afK (BZ 3 3 _ rfl rfl) h3
 obtain ⟨x4,rfl,k4⟩:=afK (BZ 4 3 _ rfl rfl) h4
 refine avi (aLq (B:=Ci W) x0 x1 x2 x3 x4 (avs hL) (ae9 λ _=>af5) g1 g2 g3 g4 g5 q2.rd (aLb x0 x1 x2 x3 x4) ?_)
 rintro v R' H' w ⟨hR,_,rfl⟩ hw
 exact ⟨av8 laidOut (by kernel_rfl) rfl rfl underlying4 Kf rfl (af6 hw hR) rfl rfl rfl,hw.os⟩
end Go.Proofs.YtihapemckcdicaaGreatDoor
