/- The row StintSwung and its tied card: whatever the arguments, laganlaw05.StintSwung returns true, on every schedule, without a race, and all that lay in memory lies as it lay. Conditions: the listed variable is as the program's text lays it; the clock passes at its own pace. -/
import Derived.Test.YtikficpdfaajlaaGreatDoorQSWStV
import Derived.Test.YtikficpdfaajlaaGreatDoorQSWStT
import Derived.Test.YtikficpdfaajlaaGreatDoorQSWStB
namespace Go.Proofs.YtikficpdfaajlaaGreatDoor
open Go.Lg Go.Proofs Go.ChangeShapes Go.WideShapes Go.ChangeAt Go.RowKit Go.Conc Tryz
open Go.ConcM (OsLater)
set_option maxRecDepth 100000
theorem Q0:ownKnob prog.godebug=none:=by kernel_rfl
theorem laidOut:laidOutB prog=true:=by kernel_rfl
section
variable {H:Type} {enc:TypeId × Value→H} {P:Program} {w:World} {base:Nat} {spare:Nat→Bool} {held:Bool}
theorem Tf{t0 t1 t2 t3 t4 t5 t6 t7:TypeId}{args:aU}{ds:List (DataW H)}{g:List MemPlace}(h:DataW.TrodAll enc P w base spare held [t0,t1,t2,t3,t4,t5,t6,t7] args.toList ds g) :
  ∃ v0 v1 v2 v3 v4 v5 v6 v7 d0 d1 d2 d3 d4 d5 d6 d7 b p1 p2 p3 p4 c d f,args=#[v0,v1,v2,v3,v4,v5,v6,v7]∧ds=[d0,d1,d2,d3,d4,d5,d6,d7]∧g=b++p1++p2++p3++p4++c++d++f∧DataW.Trod enc P w base spare held t0 v0 d0 b∧DataW.Trod enc P w base spare held t1 v1 d1 p1∧DataW.Trod enc P w base spare held t2 v2 d2 p2∧DataW.Trod enc P w base spare held t3 v3 d3 p3∧DataW.Trod enc P w base spare held t4 v4 d4 p4∧DataW.Trod enc P w base spare held t5 v5 d5 c∧DataW.Trod enc P w base spare held t6 v6 d6 d∧DataW.Trod enc P w base spare held t7 v7 d7 f:=by
 obtain ⟨v0,T,d0,A,b,K,J,rfl,rfl,i,k⟩:=trodAll_cons h
 obtain ⟨v1,U,d1,B,p1,L,rfl,rfl,rfl,h1,m⟩:=trodAll_cons k
 obtain ⟨v2,V,d2,C,p2,M,rfl,rfl,rfl,h2,n⟩:=trodAll_cons m
 obtain ⟨v3,W,d3,D,p3,N,rfl,rfl,rfl,h3,o⟩:=trodAll_cons n
 obtain ⟨v4,Y,d4,E,p4,O,rfl,rfl,rfl,h4,p⟩:=trodAll_cons o
 obtain ⟨v5,Z,d5,F,c,Q,rfl,rfl,rfl,h5,s⟩:=trodAll_cons p
 obtain ⟨v6,ab,d6,G,d,R,rfl,rfl,rfl,h6,y⟩:=trodAll_cons s
 obtain ⟨v7,ac,d7,I,f,S,rfl,rfl,rfl,j,z⟩:=trodAll_cons y
 obtain ⟨rfl,rfl,rfl⟩:=trodAll_nil z
 exact ⟨v0,v1,v2,v3,v4,v5,v6,v7,d0,d1,d2,d3,d4,d5,d6,d7,b,p1,p2,p3,p4,c,d,f,by cases args; simp_all,rfl,by simp,i,h1,h2,h3,h4,h5,h6,j⟩
end
theorem Sl(os:Os)(started:os.Started)(T:Type)(enc:TypeId × Value→T)(F:Stop.Interp) :
  ReturnsInLeavingWide { calm:=true } checked os 3 .any (λ w args=>(Rows.stintSwungSpec.pre enc prog Tryz.f3 [] false w args∧laidMetH prog oD w)∧sizedMet enc prog Tryz.f3 (OpenSpec.ofChange Rows.stintSwungSpec) false w args)
   ((OpenSpec.ofChange Rows.stintSwungSpec).postWith enc prog Tryz.f3 F (outsideKept [.timePasses]) false true false):=by
 refine Nv (C:=checked) (X:=λ w _=>laidMetH prog oD w) (λ _ _ _ G h=>h.of_heap G) Q0 started func3
  (TL (enc:=enc) (C:=checked) (os:=os) (X:=λ w _=>laidMetH prog oD w) (World.doorLaid prog 14 os) #[.agg #[.int .i64 0,.slice none 0 0,.slice none 0 0,.slice none 0 0,.slice none 0 0,.slice none 0 0],.agg #[.int .i64 0,.int .i64 0,.int .i64 0,.slice none 0 0,.slice none 0 0],.int .u8 0,.int .u8 0,.agg #[.int .i64 0,.int .i64 0],.int .u8 0,.int .u8 0,.int .u8 0] 8 rfl (World.shaped_of_RefB (by kernel_rfl) (by kernel_rfl)) (by kernel_rfl) (by kernel_rfl) (by kernel_rfl) (It os _)) ?_
 intro W base args ds gs before I hW z
 have b:∀ (j:Nat) t v,Tryz.f3.params[j]? = some t→args[j]? = some v→Value.okWide prog W .any base t v:=I
 have E:=hW
 obtain ⟨p,q,y,D,_,_,_⟩:=hW
 have c:DataW.TrodAll enc prog W 0 (λ _=>true) true Tryz.f3.params.toList args.toList ds p:=y
 rw [params3] at c b
 obtain ⟨v0,v1,v2,v3,v4,v5,v6,v7,d0,d1,d2,d3,d4,d5,d6,d7,J,p1,p2,p3,p4,K,L,M,rfl,rfl,_,o,h1,h2,h3,h4,h5,h6,s⟩:=Tf c
 obtain ⟨rfl,rfl⟩:=trodVars_none D
 obtain ⟨x0,N,O,Q,R,S,rfl,d,f,g,i,k⟩:=Hp (b 0 28 _ rfl rfl) o
 obtain ⟨x1,U,V,rfl,m,n⟩:=Hq (b 1 31 _ rfl rfl) h1
 obtain ⟨x2,rfl,k2⟩:=rk (b 2 5 _ rfl rfl) h2
 obtain ⟨x3,rfl,k3⟩:=rk (b 3 5 _ rfl rfl) h3
 obtain ⟨x4,rfl⟩:=Hr (b 4 33 _ rfl rfl) h4
 obtain ⟨x5,rfl,k5⟩:=rk (b 5 5 _ rfl rfl) h5
 obtain ⟨x6,rfl,k6⟩:=rk (b 6 5 _ rfl rfl) h6
 obtain ⟨x7,rfl,k7⟩:=rk (b 7 5 _ rfl rfl) s
 refine Qv (Po (B:=pH W) x0 x1 x2 x3 x4 x5 x6 x7 (QK z) (G6 λ _=>HV) d f g i k m n (Mx x0 x1 x2 x3 x4 x5 x6 x7 k2 k3 k5 k6 k7) ?_)
 rintro v R' H' w ⟨A,_,rfl⟩ hw
 exact ⟨Rj laidOut (by kernel_rfl) rfl rfl underlying4 E rfl (HW hw A) rfl rfl rfl,hw.os⟩
end Go.Proofs.YtikficpdfaajlaaGreatDoor
