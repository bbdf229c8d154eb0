/- The row StintReal and its tied card: whatever the arguments, laganlaw05.StintReal returns true, on every schedule, without a race, and all that lay in memory lies as it lay. Conditions: the listed variable is as the program's text lays it; the clock passes at its own pace. -/
import Derived.Test.YtihapemckcdicaaGreatDoorQYStV
import Derived.Test.YtihapemckcdicaaGreatDoorR19StT
import Derived.Test.YtihapemckcdicaaGreatDoorR19StLc
namespace Go.Proofs.YtihapemckcdicaaGreatDoor
open Go.Lg Go.Proofs Go.ChangeShapes Go.WideShapes Go.ChangeAt Go.RowKit Go.Conc Tryz
open Go.ConcM (OsLater)
set_option maxRecDepth 100000
theorem Nq:ownKnob prog.godebug=none:=by kernel_rfl
theorem laidOut:laidOutB prog=true:=by kernel_rfl
section
variable {H:Type} {enc:TypeId × Value→H} {P:Program} {w:World} {base:Nat} {spare:Nat→Bool} {held:Bool}
theorem PA{t0 t1 t2 t3 t4:TypeId}{args:Array Value}{ds:List (DataW H)}{b:List MemPlace}(h:DataW.TrodAll enc P w base spare held [t0,t1,t2,t3,t4] args.toList ds b) :
  ∃ v0 v1 v2 v3 v4 d0 d1 d2 d3 d4 a p1 p2 p3 p4,args=#[v0,v1,v2,v3,v4]∧ds=[d0,d1,d2,d3,d4]∧b=a++p1++p2++p3++p4∧DataW.Trod enc P w base spare held t0 v0 d0 a∧DataW.Trod enc P w base spare held t1 v1 d1 p1∧DataW.Trod enc P w base spare held t2 v2 d2 p2∧DataW.Trod enc P w base spare held t3 v3 d3 p3∧DataW.Trod enc P w base spare held t4 v4 d4 p4:=by
 obtain ⟨v0,u,d0,j,a,p,o,rfl,rfl,c,d⟩:=trodAll_cons h
 obtain ⟨v1,v,d1,k,p1,q,rfl,rfl,rfl,h1,e⟩:=trodAll_cons d
 obtain ⟨v2,x,d2,l,p2,r,rfl,rfl,rfl,h2,f⟩:=trodAll_cons e
 obtain ⟨v3,y,d3,m,p3,s,rfl,rfl,rfl,h3,g⟩:=trodAll_cons f
 obtain ⟨v4,z,d4,n,p4,t,rfl,rfl,rfl,h4,i⟩:=trodAll_cons g
 obtain ⟨rfl,rfl,rfl⟩:=trodAll_nil i
 exact ⟨v0,v1,v2,v3,v4,d0,d1,d2,d3,d4,a,p1,p2,p3,p4,by cases args; simp_all,rfl,by simp,c,h1,h2,h3,h4⟩
end
theorem OI(os:Os)(started:os.Started)(T:Type)(enc:TypeId × Value→T)(F:Stop.Interp) :
  ReturnsInLeavingWide { calm:=true } checked os 19 .any (λ w args=>(Rows.stintRealSpec.pre enc prog Tryz.f19 [] false w args∧laidMetH prog qo w)∧sizedMet enc prog Tryz.f19 (OpenSpec.ofChange Rows.stintRealSpec) false w args)
   ((OpenSpec.ofChange Rows.stintRealSpec).postWith enc prog Tryz.f19 F (outsideKept [.timePasses]) false true false):=by
 refine JN (C:=checked) (X:=λ w _=>laidMetH prog qo w) (λ _ _ _ r h=>h.of_heap r) Nq started func19
  (P8 (enc:=enc) (C:=checked) (os:=os) (X:=λ w _=>laidMetH prog qo w) (World.doorLaid prog 14 os) #[.agg #[iv 0,.slice none 0 0,.slice none 0 0,.slice none 0 0,.slice none 0 0,.slice none 0 0],.slice none 0 0,.int .u8 0,.int .u8 0,.int .u8 0] 8 rfl (World.shaped_of_RefB (by kernel_rfl) (by kernel_rfl)) (by kernel_rfl) (by kernel_rfl) (by kernel_rfl) (Fc os _)) ?_
 intro W base args ds gs before s hW l
 have a:∀ (j:Nat) t v,Tryz.f19.params[j]? = some t→args[j]? = some v→Value.okWide prog W .any base t v:=s
 have o:=hW
 obtain ⟨p,q,k,n,_,_,_⟩:=hW
 have b:DataW.TrodAll enc prog W 0 (λ _=>true) true Tryz.f19.params.toList args.toList ds p:=k
 rw [params19] at b a
 obtain ⟨v0,v1,v2,v3,v4,d0,d1,d2,d3,d4,x,p1,p2,p3,p4,rfl,rfl,_,i,h1,h2,h3,h4⟩:=PA b
 obtain ⟨rfl,rfl⟩:=trodVars_none n
 obtain ⟨x0,y,z,A,D,E,rfl,c,d,e,f,g⟩:=En (a 0 28 _ rfl rfl) i
 obtain ⟨x1,u,k1⟩:=Eo (a 1 81 _ rfl rfl) h1
 obtain ⟨x2,rfl,k2⟩:=uK (a 2 5 _ rfl rfl) h2
 obtain ⟨x3,rfl,k3⟩:=uK (a 3 5 _ rfl rfl) h3
 obtain ⟨x4,rfl,k4⟩:=uK (a 4 5 _ rfl rfl) h4
 refine MZ (Ll (B:=om W) x0 x1 x2 x3 x4 (Nd l) (D7 λ _=>EE) c d e f g u.rd (IM x0 x1 x2 x3 x4 k1 k2 k3 k4) ?_)
 rintro v R' H' w ⟨m,_,rfl⟩ hw
 exact ⟨NI laidOut (by kernel_rfl) rfl rfl underlying4 o rfl (EF hw m) rfl rfl rfl,hw.os⟩
end Go.Proofs.YtihapemckcdicaaGreatDoor
