/- The row StintNews: its tied card. Conditions: as there. -/
import Derived.Test.YtihapemckcdicaaGreatDoorR16StEb
import Derived.Test.YtihapemckcdicaaGreatDoorR16StEq
import Derived.Test.YtihapemckcdicaaGreatDoorCards
import Derived.SevenTiedAt
namespace Go.Proofs.YtihapemckcdicaaGreatDoor
open Go.Lg Go.Proofs Go.ChangeShapes Go.WideShapes Go.ChangeAt Go.RowKit Go.Conc Tryz
open Go.ConcM (OsLater)
set_option maxRecDepth 100000
theorem aEf(Lk:Looks){p:Pinned}{s:OpenSpec}{c:OpenClaim}(kinds:List LaidKind)(Xs:Bool)(Ba:Bool × String)(lk:Bool)
  (hc:c.holds p s) (hw:c.wfByText s=true) (auw:c.laidByTextAt Lk p kinds Xs)
  (cL:c.start = .entering) (hnb:c.noBlocks=false∧c.again=false) (hm:p.checked.prog.mainIs=some (Ba.1,Ba.2.toList)) (hn:(!Ba.1 && Ba.2.isEmpty && !lk)=false)
  (hl:∀ f fn,p.checked.prog.funcNamed c.func=some f→p.checked.prog.funcs[f]? = some fn→lk=p.checked.prog.looks []∧∀ (j:Nat) t,fn.params[j]? = some t→p.checked.prog.wantsStandIn t=false)
  (hg:true=c.goesBy p.checked.prog) :
  Claim7.holds p (.plain s) { stood:={ row:=c,standIns:=[],harness:=Ba,looks:=lk },kinds:=[],alts:=[],goes:=true,laidByText:=true,laidKinds:=kinds,laidTests:=Xs,laidLooks:=Lk }:=by
 have h6:∀ r:OpenClaim,Claim7.isSixth { stood:={ row:=r,standIns:=[],harness:=Ba,looks:=lk },kinds:=[] }=false:=λ r=>by simpa [Claim7.isSixth] using hn
 exact ⟨Claim7.tied_new_at Lk kinds Xs (Claim7.new_of_sixth hc Ba lk cL hnb hm (h6 c) hl) hw,(λ D hD=>by cases hD),auw,(λ h=>by cases h),hg⟩
theorem row_card:Rows.StintNewsCardSaid :=
 aEf .later [.funcs] true (true,"fe6918396992fb4ce1d0e6a2f4b06d4724c0280ee12adfc19b8f06aed11edddf") false aDf aCr stintNews_row_tie rfl ⟨rfl,rfl⟩ aCs rfl
  (λ f fn hf Sr=>by
   obtain rfl:f=16:=Option.some.inj ((show prog.funcNamed "lagan/laganlaw05.StintNews"=some 16 by kernel_rfl).symm.trans hf) |>.symm
   obtain rfl:fn=Tryz.f16:=(Option.some.inj (func16.symm.trans Sr)).symm
   exact ⟨aCq,λ j t ht=>by
    rw [params16] at ht
    have hm:t∈[28,59,3,3]:=by simpa using Array.mem_of_getElem? ht
    have tf:([28,59,3,3].all λ u=>!prog.wantsStandIn u)=true:=by kernel_rfl
    exact (show prog.wantsStandIn t=false by simpa using List.all_eq_true.1 tf t hm)⟩)
  aCp
#print axioms row_card
end Go.Proofs.YtihapemckcdicaaGreatDoor
