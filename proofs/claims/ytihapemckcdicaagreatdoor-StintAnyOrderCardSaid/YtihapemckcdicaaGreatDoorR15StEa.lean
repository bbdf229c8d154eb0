/- The row StintAnyOrder and its tied card: whatever the arguments, laganlaw05.StintAnyOrder returns true, on every schedule, without a race, and all that lay in memory lies as it lay. Conditions: the listed variable is as the program's text lays it; the clock passes at its own pace. -/
import Derived.Test.YtihapemckcdicaaGreatDoorQEStV
import Derived.Test.YtihapemckcdicaaGreatDoorR15StT
import Derived.Test.YtihapemckcdicaaGreatDoorR15StLb
namespace Go.Proofs.YtihapemckcdicaaGreatDoor
open Go.Lg Go.Proofs Go.ChangeShapes Go.WideShapes Go.ChangeAt Go.RowKit Go.Conc Tryz
open Go.ConcM (OsLater)
set_option maxRecDepth 100000
theorem aCa:ownKnob prog.godebug=none:=by kernel_rfl
theorem laidOut:laidOutB prog=true:=by kernel_rfl
theorem aDi(os:Os)(started:os.Started)(T:Type)(enc:TypeId × Value→T)(F:Stop.Interp) :
  ReturnsInLeavingWide { calm:=true } checked os 15 .any (λ w args=>(Rows.stintAnyOrderSpec.pre enc prog Tryz.f15 [] false w args∧laidMetH prog Km w)∧sizedMet enc prog Tryz.f15 (OpenSpec.ofChange Rows.stintAnyOrderSpec) false w args)
   ((OpenSpec.ofChange Rows.stintAnyOrderSpec).postWith enc prog Tryz.f15 F (outsideKept [.timePasses]) false true false):=by
 refine azz (C:=checked) (X:=λ w _=>laidMetH prog Km w) (λ _ _ _ hh h=>h.of_heap hh) aCa started func15
  (aFb (enc:=enc) (C:=checked) (os:=os) (X:=λ w _=>laidMetH prog Km w) (World.doorLaid prog 14 os) #[.agg #[iv 0,.slice none 0 0,.slice none 0 0,.slice none 0 0,.slice none 0 0,.slice none 0 0],.int .u8 0,.int .u8 0] 8 rfl (World.shaped_of_RefB (by kernel_rfl) (by kernel_rfl)) (by kernel_rfl) (by kernel_rfl) (by kernel_rfl) (amS os _)) ?_
 intro W base args ds gs before awo hW hL
 have Ha:∀ (j:Nat) t v,Tryz.f15.params[j]? = some t→args[j]? = some v→Value.okWide prog W .any base t v:=awo
 have Nm:=hW
 obtain ⟨p,q,hA0,hV,_,_,_⟩:=hW
 have hA:DataW.TrodAll enc prog W 0 (λ _=>true) true Tryz.f15.params.toList args.toList ds p:=hA0
 rw [params15] at hA Ha
 obtain ⟨v0,v1,v2,d0,d1,d2,p0,p1,p2,rfl,rfl,_,h0,h1,h2⟩:=trodAll_three hA
 obtain ⟨rfl,rfl⟩:=trodVars_none hV
 obtain ⟨x0,u1,u2,u3,u4,u5,rfl,g1,g2,g3,g4,g5⟩:=alZ (Ha 0 28 _ rfl rfl) h0
 obtain ⟨x1,rfl,k1⟩:=ajw (Ha 1 5 _ rfl rfl) h1
 obtain ⟨x2,rfl,k2⟩:=ajw (Ha 2 5 _ rfl rfl) h2
 refine aBw (aZR (B:=ET W) x0 x1 x2 (aBG hL) (alm λ _=>amm) g1 g2 g3 g4 g5 (aZH x0 x1 x2 k1 k2) ?_)
 rintro v R' H' w ⟨hR,_,rfl⟩ hw
 exact ⟨aCz laidOut (by kernel_rfl) rfl rfl underlying4 Nm rfl (amn hw hR) rfl rfl rfl,hw.os⟩
end Go.Proofs.YtihapemckcdicaaGreatDoor
