/- The row StintRotas and its tied card: whatever the arguments, laganlaw05.StintRotas returns true, on every schedule, without a race, and all that lay in memory lies as it lay. Conditions: the listed variable is as the program's text lays it; the clock passes at its own pace. -/
import Derived.Test.YtihapemckcdicaaGreatDoorQHStV
import Derived.Test.YtihapemckcdicaaGreatDoorR4StT
import Derived.Test.YtihapemckcdicaaGreatDoorR4StLc
namespace Go.Proofs.YtihapemckcdicaaGreatDoor
open Go.Lg Go.Proofs Go.ChangeShapes Go.WideShapes Go.ChangeAt Go.RowKit Go.Conc Tryz
open Go.ConcM (OsLater)
set_option maxRecDepth 100000
theorem aHx:ownKnob prog.godebug=none:=by kernel_rfl
theorem laidOut:laidOutB prog=true:=by kernel_rfl
theorem aIY(os:Os)(started:os.Started)(T:Type)(enc:TypeId × Value→T)(F:Stop.Interp) :
  ReturnsInLeavingWide { calm:=true } checked os 4 .any (λ w args=>(Rows.stintRotasSpec.pre enc prog Tryz.f4 [] false w args∧laidMetH prog Ly w)∧sizedMet enc prog Tryz.f4 (OpenSpec.ofChange Rows.stintRotasSpec) false w args)
   ((OpenSpec.ofChange Rows.stintRotasSpec).postWith enc prog Tryz.f4 F (outsideKept [.timePasses]) false true false):=by
 refine aD7 (C:=checked) (X:=λ w _=>laidMetH prog Ly w) (λ _ _ _ hh h=>h.of_heap hh) aHx started func4
  (aK5 (enc:=enc) (C:=checked) (os:=os) (X:=λ w _=>laidMetH prog Ly w) (World.doorLaid prog 14 os) #[.agg #[iv 0,.slice none 0 0,.slice none 0 0,.slice none 0 0,.slice none 0 0,.slice none 0 0]] 8 rfl (World.shaped_of_RefB (by kernel_rfl) (by kernel_rfl)) (by kernel_rfl) (by kernel_rfl) (by kernel_rfl) (aoF os _)) ?_
 intro W base args ds gs before azC hW hL
 have PX:∀ (j:Nat) t v,Tryz.f4.params[j]? = some t→args[j]? = some v→Value.okWide prog W .any base t v:=azC
 have O8:=hW
 obtain ⟨p,q,hA0,hV,_,_,_⟩:=hW
 have hA:DataW.TrodAll enc prog W 0 (λ _=>true) true Tryz.f4.params.toList args.toList ds p:=hA0
 rw [params4] at hA PX
 obtain ⟨v0,d0,rfl,rfl,h0⟩:=trodAll_one hA
 obtain ⟨rfl,rfl⟩:=trodVars_none hV
 obtain ⟨x0,u1,u2,u3,u4,u5,rfl,g1,g2,g3,g4,g5⟩:=ant (PX 0 28 _ rfl rfl) h0
 refine aGS (aGo (B:=FI W) x0 (aG4 hL) (amE λ _=>anT) g1 g2 g3 g4 g5 (aDj x0) ?_)
 rintro v R' H' w ⟨hR,_,rfl⟩ hw
 exact ⟨aH5 laidOut (by kernel_rfl) rfl rfl underlying4 O8 rfl (anU hw hR) rfl rfl rfl,hw.os⟩
end Go.Proofs.YtihapemckcdicaaGreatDoor
