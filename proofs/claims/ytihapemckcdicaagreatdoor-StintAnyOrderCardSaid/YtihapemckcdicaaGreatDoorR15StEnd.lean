/- The row StintAnyOrder: its tied card. Conditions: as there. -/
import Derived.Test.YtihapemckcdicaaGreatDoorR15StEb
import Derived.Test.YtihapemckcdicaaGreatDoorR15StEq
import Derived.Test.YtihapemckcdicaaGreatDoorCards
import Derived.SevenTiedAt
namespace Go.Proofs.YtihapemckcdicaaGreatDoor
open Go.Lg Go.Proofs Go.ChangeShapes Go.WideShapes Go.ChangeAt Go.RowKit Go.Conc Tryz
open Go.ConcM (OsLater)
set_option maxRecDepth 100000
theorem aD8(Lk:Looks){p:Pinned}{s:OpenSpec}{c:OpenClaim}(kinds:List LaidKind)(XZ:Bool)(B9:Bool × String)(lk:Bool)
  (hc:c.holds p s) (hw:c.wfByText s=true) (awl:c.laidByTextAt Lk p kinds XZ)
  (cG:c.start = .entering) (hnb:c.noBlocks=false∧c.again=false) (hm:p.checked.prog.mainIs=some (B9.1,B9.2.toList)) (hn:(!B9.1 && B9.2.isEmpty && !lk)=false)
  (hl:∀ f fn,p.checked.prog.funcNamed c.func=some f→p.checked.prog.funcs[f]? = some fn→lk=p.checked.prog.looks []∧∀ (j:Nat) t,fn.params[j]? = some t→p.checked.prog.wantsStandIn t=false)
  (hg:true=c.goesBy p.checked.prog) :
  Claim7.holds p (.plain s) { stood:={ row:=c,standIns:=[],harness:=B9,looks:=lk },kinds:=[],alts:=[],goes:=true,laidByText:=true,laidKinds:=kinds,laidTests:=XZ,laidLooks:=Lk }:=by
 have h6:∀ r:OpenClaim,Claim7.isSixth { stood:={ row:=r,standIns:=[],harness:=B9,looks:=lk },kinds:=[] }=false:=λ r=>by simpa [Claim7.isSixth] using hn
 exact ⟨Claim7.tied_new_at Lk kinds XZ (Claim7.new_of_sixth hc B9 lk cG hnb hm (h6 c) hl) hw,(λ D hD=>by cases hD),awl,(λ h=>by cases h),hg⟩
theorem row_card:Rows.StintAnyOrderCardSaid :=
 aD8 .later [.funcs] true (true,"fe6918396992fb4ce1d0e6a2f4b06d4724c0280ee12adfc19b8f06aed11edddf") false aDg aCs stintAnyOrder_row_tie rfl ⟨rfl,rfl⟩ aCt rfl
  (λ f fn hf T8=>by
   obtain rfl:f=15:=Option.some.inj ((show prog.funcNamed "lagan/laganlaw05.StintAnyOrder"=some 15 by kernel_rfl).symm.trans hf) |>.symm
   obtain rfl:fn=Tryz.f15:=(Option.some.inj (func15.symm.trans T8)).symm
   exact ⟨aCr,λ j t ht=>by
    rw [params15] at ht
    have hm:t∈[28,5,5]:=by simpa using Array.mem_of_getElem? ht
    have xQ:([28,5,5].all λ u=>!prog.wantsStandIn u)=true:=by kernel_rfl
    exact (show prog.wantsStandIn t=false by simpa using List.all_eq_true.1 xQ t hm)⟩)
  aCq
#print axioms row_card
end Go.Proofs.YtihapemckcdicaaGreatDoor
