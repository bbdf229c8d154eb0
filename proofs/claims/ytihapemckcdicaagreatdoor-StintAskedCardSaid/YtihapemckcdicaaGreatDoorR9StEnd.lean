/- The row StintAsked: its tied card. Conditions: as there. -/
import Derived.Test.YtihapemckcdicaaGreatDoorR9StEb
import Derived.Test.YtihapemckcdicaaGreatDoorR9StEq
import Derived.Test.YtihapemckcdicaaGreatDoorCards
import Derived.SevenTiedAt
namespace Go.Proofs.YtihapemckcdicaaGreatDoor
open Go.Lg Go.Proofs Go.ChangeShapes Go.WideShapes Go.ChangeAt Go.RowKit Go.Conc Tryz
open Go.ConcM (OsLater)
set_option maxRecDepth 100000
theorem axF(Lk:Looks){p:Pinned}{s:OpenSpec}{c:OpenClaim}(kinds:List LaidKind)(Ub:Bool)(zV:Bool × String)(lk:Bool)
  (hc:c.holds p s) (hw:c.wfByText s=true) (apy:c.laidByTextAt Lk p kinds Ub)
  (cJ:c.start = .entering) (Zc:c.noBlocks=false∧c.again=false) (hm:p.checked.prog.mainIs=some (zV.1,zV.2.toList)) (hn:(!zV.1 && zV.2.isEmpty && !lk)=false)
  (hl:∀ f fn,p.checked.prog.funcNamed c.func=some f→p.checked.prog.funcs[f]? = some fn→lk=p.checked.prog.looks []∧∀ (j:Nat) t,fn.params[j]? = some t→p.checked.prog.wantsStandIn t=false)
  (hg:true=c.goesBy p.checked.prog) :
  Claim7.holds p (.plain s) { stood:={ row:=c,standIns:=[],harness:=zV,looks:=lk },kinds:=[],alts:=[],goes:=true,laidByText:=true,laidKinds:=kinds,laidTests:=Ub,laidLooks:=Lk }:=by
 have h6:∀ r:OpenClaim,Claim7.isSixth { stood:={ row:=r,standIns:=[],harness:=zV,looks:=lk },kinds:=[] }=false:=λ r=>by simpa [Claim7.isSixth] using hn
 exact ⟨Claim7.tied_new_at Lk kinds Ub (Claim7.new_of_sixth hc zV lk cJ Zc hm (h6 c) hl) hw,(λ D hD=>by cases hD),apy,(λ h=>by cases h),hg⟩
theorem row_card:Rows.StintAskedCardSaid :=
 axF .later [.funcs] true (true,"fe6918396992fb4ce1d0e6a2f4b06d4724c0280ee12adfc19b8f06aed11edddf") false awN part7 stintAsked_row_tie rfl ⟨rfl,rfl⟩ part8 rfl
  (λ f fn hf P6=>by
   obtain rfl:f=9:=Option.some.inj ((show prog.funcNamed "lagan/laganlaw05.StintAsked"=some 9 by kernel_rfl).symm.trans hf) |>.symm
   obtain rfl:fn=Tryz.f9:=(Option.some.inj (func9.symm.trans P6)).symm
   exact ⟨part6,λ j t ht=>by
    rw [params9] at ht
    have hm:t∈[28,5,5]:=by simpa using Array.mem_of_getElem? ht
    have tq:([28,5,5].all λ u=>!prog.wantsStandIn u)=true:=by kernel_rfl
    exact (show prog.wantsStandIn t=false by simpa using List.all_eq_true.1 tq t hm)⟩)
  part5
#print axioms row_card
end Go.Proofs.YtihapemckcdicaaGreatDoor
