/- The row StintClashes and its tied card: whatever the arguments, laganlaw05.StintClashes returns true, on every schedule, without a race, and all that lay in memory lies as it lay. Conditions: the listed variable is as the program's text lays it; the clock passes at its own pace. -/
import Derived.Test.YtihapemckcdicaaGreatDoorQDStV
import Derived.Test.YtihapemckcdicaaGreatDoorR8StT
import Derived.Test.YtihapemckcdicaaGreatDoorR8StL
namespace Go.Proofs.YtihapemckcdicaaGreatDoor
open Go.Lg Go.Proofs Go.ChangeShapes Go.WideShapes Go.ChangeAt Go.RowKit Go.Conc Tryz
open Go.ConcM (OsLater)
set_option maxRecDepth 100000
theorem avP:ownKnob prog.godebug=none:=by kernel_rfl
theorem laidOut:laidOutB prog=true:=by kernel_rfl
theorem awP(os:Os)(started:os.Started)(T:Type)(enc:TypeId × Value→T)(F:Stop.Interp) :
  ReturnsInLeavingWide { calm:=true } checked os 8 .any (λ w args=>(Rows.stintClashesSpec.pre enc prog Tryz.f8 [] false w args∧laidMetH prog Hi w)∧sizedMet enc prog Tryz.f8 (OpenSpec.ofChange Rows.stintClashesSpec) false w args)
   ((OpenSpec.ofChange Rows.stintClashesSpec).postWith enc prog Tryz.f8 F (outsideKept [.timePasses]) false true false):=by
 refine atc (C:=checked) (X:=λ w _=>laidMetH prog Hi w) (λ _ _ _ hh h=>h.of_heap hh) avP started func8
  (ayC (enc:=enc) (C:=checked) (os:=os) (X:=λ w _=>laidMetH prog Hi w) (World.doorLaid prog 14 os) #[.agg #[iv 0,.slice none 0 0,.slice none 0 0,.slice none 0 0,.slice none 0 0,.slice none 0 0],.int .u8 0] 8 rfl (World.shaped_of_RefB (by kernel_rfl) (by kernel_rfl)) (by kernel_rfl) (by kernel_rfl) (by kernel_rfl) (agD os _)) ?_
 intro W base args ds gs before apC hW hL
 have BZ:∀ (j:Nat) t v,Tryz.f8.params[j]? = some t→args[j]? = some v→Value.okWide prog W .any base t v:=apC
 have Kf:=hW
 obtain ⟨p,q,hA0,hV,_,_,_⟩:=hW
 have hA:DataW.TrodAll enc prog W 0 (λ _=>true) true Tryz.f8.params.toList args.toList ds p:=hA0
 rw [params8] at hA BZ
 obtain ⟨v0,v1,d0,d1,p0,p1,rfl,rfl,_,h0,h1⟩:=trodAll_two hA
 obtain ⟨rfl,rfl⟩:=trodVars_none hV
 obtain ⟨x0,u1,u2,u3,u4,u5,rfl,g1,g2,g3,g4,g5⟩:=afJ (BZ 0 28 _ rfl rfl) h0
 obtain ⟨x1,rfl,k1⟩:=afL (BZ 1 5 _ rfl rfl) h1
 refine avi (aLC (B:=Ci W) x0 x1 (avs hL) (ae9 λ _=>af5) g1 g2 g3 g4 g5 (aLc x0 x1 k1) ?_)
 rintro v R' H' w ⟨hR,_,rfl⟩ hw
 exact ⟨av8 laidOut (by kernel_rfl) rfl rfl underlying4 Kf rfl (af6 hw hR) rfl rfl rfl,hw.os⟩
end Go.Proofs.YtihapemckcdicaaGreatDoor
