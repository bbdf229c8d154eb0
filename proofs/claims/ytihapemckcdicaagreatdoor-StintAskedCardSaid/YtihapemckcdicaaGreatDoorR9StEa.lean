/- The row StintAsked and its tied card: whatever the arguments, laganlaw05.StintAsked returns true, on every schedule, without a race, and all that lay in memory lies as it lay. Conditions: the listed variable is as the program's text lays it; the clock passes at its own pace. -/
import Derived.Test.YtihapemckcdicaaGreatDoorQDStV
import Derived.Test.YtihapemckcdicaaGreatDoorR9StT
import Derived.Test.YtihapemckcdicaaGreatDoorR9StL
namespace Go.Proofs.YtihapemckcdicaaGreatDoor
open Go.Lg Go.Proofs Go.ChangeShapes Go.WideShapes Go.ChangeAt Go.RowKit Go.Conc Tryz
open Go.ConcM (OsLater)
set_option maxRecDepth 100000
theorem avP:ownKnob prog.godebug=none:=by kernel_rfl
theorem laidOut:laidOutB prog=true:=by kernel_rfl
theorem awP(os:Os)(started:os.Started)(T:Type)(enc:TypeId × Value→T)(F:Stop.Interp) :
  ReturnsInLeavingWide { calm:=true } checked os 9 .any (λ w args=>(Rows.stintAskedSpec.pre enc prog Tryz.f9 [] false w args∧laidMetH prog Hi w)∧sizedMet enc prog Tryz.f9 (OpenSpec.ofChange Rows.stintAskedSpec) false w args)
   ((OpenSpec.ofChange Rows.stintAskedSpec).postWith enc prog Tryz.f9 F (outsideKept [.timePasses]) false true false):=by
 refine atc (C:=checked) (X:=λ w _=>laidMetH prog Hi w) (λ _ _ _ hh h=>h.of_heap hh) avP started func9
  (ayC (enc:=enc) (C:=checked) (os:=os) (X:=λ w _=>laidMetH prog Hi w) (World.doorLaid prog 14 os) #[.agg #[iv 0,.slice none 0 0,.slice none 0 0,.slice none 0 0,.slice none 0 0,.slice none 0 0],.int .u8 0,.int .u8 0] 8 rfl (World.shaped_of_RefB (by kernel_rfl) (by kernel_rfl)) (by kernel_rfl) (by kernel_rfl) (by kernel_rfl) (agD os _)) ?_
 intro W base args ds gs before apC hW hL
 have BZ:∀ (j:Nat) t v,Tryz.f9.params[j]? = some t→args[j]? = some v→Value.okWide prog W .any base t v:=apC
 have Kf:=hW
 obtain ⟨p,q,hA0,hV,_,_,_⟩:=hW
 have hA:DataW.TrodAll enc prog W 0 (λ _=>true) true Tryz.f9.params.toList args.toList ds p:=hA0
 rw [params9] at hA BZ
 obtain ⟨v0,v1,v2,d0,d1,d2,p0,p1,p2,rfl,rfl,_,h0,h1,h2⟩:=trodAll_three hA
 obtain ⟨rfl,rfl⟩:=trodVars_none hV
 obtain ⟨x0,u1,u2,u3,u4,u5,rfl,g1,g2,g3,g4,g5⟩:=afJ (BZ 0 28 _ rfl rfl) h0
 obtain ⟨x1,rfl,k1⟩:=afL (BZ 1 5 _ rfl rfl) h1
 obtain ⟨x2,rfl,k2⟩:=afL (BZ 2 5 _ rfl rfl) h2
 refine avi (aLE (B:=Ci W) x0 x1 x2 (avs hL) (ae9 λ _=>af5) g1 g2 g3 g4 g5 (aLd x0 x1 x2 k1 k2) ?_)
 rintro v R' H' w ⟨hR,_,rfl⟩ hw
 exact ⟨av8 laidOut (by kernel_rfl) rfl rfl underlying4 Kf rfl (af6 hw hR) rfl rfl rfl,hw.os⟩
end Go.Proofs.YtihapemckcdicaaGreatDoor
