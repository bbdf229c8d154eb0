/- The row StintNews and its tied card: whatever the arguments, laganlaw05.StintNews returns true, on every schedule, without a race, and all that lay in memory lies as it lay. Conditions: the listed variable is as the program's text lays it; the clock passes at its own pace. -/
import Derived.Test.YtihapemckcdicaaGreatDoorQFStV
import Derived.Test.YtihapemckcdicaaGreatDoorR16StT
import Derived.Test.YtihapemckcdicaaGreatDoorR16StLc
namespace Go.Proofs.YtihapemckcdicaaGreatDoor
open Go.Lg Go.Proofs Go.ChangeShapes Go.WideShapes Go.ChangeAt Go.RowKit Go.Conc Tryz
open Go.ConcM (OsLater)
set_option maxRecDepth 100000
theorem aB9:ownKnob prog.godebug=none:=by kernel_rfl
theorem laidOut:laidOutB prog=true:=by kernel_rfl
theorem aDh(os:Os)(started:os.Started)(T:Type)(enc:TypeId × Value→T)(F:Stop.Interp) :
  ReturnsInLeavingWide { calm:=true } checked os 16 .any (λ w args=>(Rows.stintNewsSpec.pre enc prog Tryz.f16 [] false w args∧laidMetH prog Jb w)∧sizedMet enc prog Tryz.f16 (OpenSpec.ofChange Rows.stintNewsSpec) false w args)
   ((OpenSpec.ofChange Rows.stintNewsSpec).postWith enc prog Tryz.f16 F (outsideKept [.timePasses]) false true false):=by
 refine ayZ (C:=checked) (X:=λ w _=>laidMetH prog Jb w) (λ _ _ _ hh h=>h.of_heap hh) aB9 started func16
  (aFI (enc:=enc) (C:=checked) (os:=os) (X:=λ w _=>laidMetH prog Jb w) (World.doorLaid prog 14 os) #[.agg #[iv 0,.slice none 0 0,.slice none 0 0,.slice none 0 0,.slice none 0 0,.slice none 0 0],.agg #[iv 0,iv 0,.bool false],iv 0,iv 0] 8 rfl (World.shaped_of_RefB (by kernel_rfl) (by kernel_rfl)) (by kernel_rfl) (by kernel_rfl) (by kernel_rfl) (ajH os _)) ?_
 intro W base args ds gs before auA hW hL
 have BG:∀ (j:Nat) t v,Tryz.f16.params[j]? = some t→args[j]? = some v→Value.okWide prog W .any base t v:=auA
 have Mf:=hW
 obtain ⟨p,q,hA0,hV,_,_,_⟩:=hW
 have hA:DataW.TrodAll enc prog W 0 (λ _=>true) true Tryz.f16.params.toList args.toList ds p:=hA0
 rw [params16] at hA BG
 obtain ⟨v0,v1,v2,v3,d0,d1,d2,d3,p0,p1,p2,p3,rfl,rfl,_,h0,h1,h2,h3⟩:=trodAll_four hA
 obtain ⟨rfl,rfl⟩:=trodVars_none hV
 obtain ⟨x0,u1,u2,u3,u4,u5,rfl,g1,g2,g3,g4,g5⟩:=aiF (BG 0 28 _ rfl rfl) h0
 obtain ⟨x1,rfl⟩:=aiG (BG 1 59 _ rfl rfl) h1
 obtain ⟨x2,rfl,k2⟩:=Zj (BG 2 3 _ rfl rfl) h2
 obtain ⟨x3,rfl,k3⟩:=Zj (BG 3 3 _ rfl rfl) h3
 refine aBy (az1 (B:=DT W) x0 x1 x2 x3 (aBJ hL) (ahX λ _=>ai6) g1 g2 g3 g4 g5 (ayb x0 x1 x2 x3) ?_)
 rintro v R' H' w ⟨hR,_,rfl⟩ hw
 exact ⟨aCy laidOut (by kernel_rfl) rfl rfl underlying4 Mf rfl (ai7 hw hR) rfl rfl rfl,hw.os⟩
end Go.Proofs.YtihapemckcdicaaGreatDoor
