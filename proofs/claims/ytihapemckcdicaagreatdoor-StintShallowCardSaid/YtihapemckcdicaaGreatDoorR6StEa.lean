/- The row StintShallow and its tied card: whatever the arguments, laganlaw05.StintShallow returns true, on every schedule, without a race, and all that lay in memory lies as it lay. Conditions: the listed variable is as the program's text lays it; the clock passes at its own pace. -/
import Derived.Test.YtihapemckcdicaaGreatDoorQVStV
import Derived.Test.YtihapemckcdicaaGreatDoorR6StT
import Derived.Test.YtihapemckcdicaaGreatDoorR6StLc
namespace Go.Proofs.YtihapemckcdicaaGreatDoor
open Go.Lg Go.Proofs Go.ChangeShapes Go.WideShapes Go.ChangeAt Go.RowKit Go.Conc Tryz
open Go.ConcM (OsLater)
set_option maxRecDepth 100000
theorem aFU:ownKnob prog.godebug=none:=by kernel_rfl
theorem laidOut:laidOutB prog=true:=by kernel_rfl
theorem aG2(os:Os)(started:os.Started)(T:Type)(enc:TypeId × Value→T)(F:Stop.Interp) :
  ReturnsInLeavingWide { calm:=true } checked os 6 .any (λ w args=>(Rows.stintShallowSpec.pre enc prog Tryz.f6 [] false w args∧laidMetH prog JE w)∧sizedMet enc prog Tryz.f6 (OpenSpec.ofChange Rows.stintShallowSpec) false w args)
   ((OpenSpec.ofChange Rows.stintShallowSpec).postWith enc prog Tryz.f6 F (outsideKept [.timePasses]) false true false):=by
 refine aC6 (C:=checked) (X:=λ w _=>laidMetH prog JE w) (λ _ _ _ hh h=>h.of_heap hh) aFU started func6
  (aIN (enc:=enc) (C:=checked) (os:=os) (X:=λ w _=>laidMetH prog JE w) (World.doorLaid prog 14 os) #[.agg #[iv 0,.slice none 0 0,.slice none 0 0,.slice none 0 0,.slice none 0 0,.slice none 0 0],.int .u8 0,.int .u8 0,.int .u8 0] 8 rfl (World.shaped_of_RefB (by kernel_rfl) (by kernel_rfl)) (by kernel_rfl) (by kernel_rfl) (by kernel_rfl) (akT os _)) ?_
 intro W base args ds gs before axH hW hL
 have EM:∀ (j:Nat) t v,Tryz.f6.params[j]? = some t→args[j]? = some v→Value.okWide prog W .any base t v:=axH
 have MJ:=hW
 obtain ⟨p,q,hA0,hV,_,_,_⟩:=hW
 have hA:DataW.TrodAll enc prog W 0 (λ _=>true) true Tryz.f6.params.toList args.toList ds p:=hA0
 rw [params6] at hA EM
 obtain ⟨v0,v1,v2,v3,d0,d1,d2,d3,p0,p1,p2,p3,rfl,rfl,_,h0,h1,h2,h3⟩:=trodAll_four hA
 obtain ⟨rfl,rfl⟩:=trodVars_none hV
 obtain ⟨x0,u1,u2,u3,u4,u5,rfl,g1,g2,g3,g4,g5⟩:=ajV (EM 0 28 _ rfl rfl) h0
 obtain ⟨x1,rfl,k1⟩:=Z6 (EM 1 5 _ rfl rfl) h1
 obtain ⟨x2,rfl,k2⟩:=Z6 (EM 2 5 _ rfl rfl) h2
 obtain ⟨x3,rfl,k3⟩:=Z6 (EM 3 5 _ rfl rfl) h3
 refine aFk (aTz (B:=Eh W) x0 x1 x2 x3 (aFx hL) (ai8 λ _=>akg) g1 g2 g3 g4 g5 (aTn x0 x1 x2 x3 k1 k2 k3) ?_)
 rintro v R' H' w ⟨hR,_,rfl⟩ hw
 exact ⟨aGm laidOut (by kernel_rfl) rfl rfl underlying4 MJ rfl (akh hw hR) rfl rfl rfl,hw.os⟩
end Go.Proofs.YtihapemckcdicaaGreatDoor
