/- The row StintCases: its tied card. Conditions: as there. -/
import Derived.Test.YtihapemckcdicaaGreatDoorR3StEb
import Derived.Test.YtihapemckcdicaaGreatDoorR3StEq
import Derived.Test.YtihapemckcdicaaGreatDoorCards
import Derived.SevenTiedAt
namespace Go.Proofs.YtihapemckcdicaaGreatDoor
open Go.Lg Go.Proofs Go.ChangeShapes Go.WideShapes Go.ChangeAt Go.RowKit Go.Conc Tryz
open Go.ConcM (OsLater)
set_option maxRecDepth 100000
theorem aQH(Lk:Looks){p:Pinned}{s:OpenSpec}{c:OpenClaim}(kinds:List LaidKind)(acX:Bool)(D6:Bool × String)(lk:Bool)
  (hc:c.holds p s) (hw:c.wfByText s=true) (aEL:c.laidByTextAt Lk p kinds acX)
  (dc:c.start = .entering) (hnb:c.noBlocks=false∧c.again=false) (hm:p.checked.prog.mainIs=some (D6.1,D6.2.toList)) (hn:(!D6.1 && D6.2.isEmpty && !lk)=false)
  (hl:∀ f fn,p.checked.prog.funcNamed c.func=some f→p.checked.prog.funcs[f]? = some fn→lk=p.checked.prog.looks []∧∀ (j:Nat) t,fn.params[j]? = some t→p.checked.prog.wantsStandIn t=false)
  (hg:true=c.goesBy p.checked.prog) :
  Claim7.holds p (.plain s) { stood:={ row:=c,standIns:=[],harness:=D6,looks:=lk },kinds:=[],alts:=[],goes:=true,laidByText:=true,laidKinds:=kinds,laidTests:=acX,laidLooks:=Lk }:=by
 have h6:∀ r:OpenClaim,Claim7.isSixth { stood:={ row:=r,standIns:=[],harness:=D6,looks:=lk },kinds:=[] }=false:=λ r=>by simpa [Claim7.isSixth] using hn
 exact ⟨Claim7.tied_new_at Lk kinds acX (Claim7.new_of_sixth hc D6 lk dc hnb hm (h6 c) hl) hw,(λ D hD=>by cases hD),aEL,(λ h=>by cases h),hg⟩
theorem row_card:Rows.StintCasesCardSaid :=
 aQH .later [.funcs] true (true,"fe6918396992fb4ce1d0e6a2f4b06d4724c0280ee12adfc19b8f06aed11edddf") false aPL aOT stintCases_row_tie rfl ⟨rfl,rfl⟩ aOU rfl
  (λ f fn hf XU=>by
   obtain rfl:f=3:=j6 ((show prog.funcNamed "lagan/laganlaw05.StintCases"=some 3 by kernel_rfl).symm.trans hf) |>.symm
   obtain rfl:fn=Tryz.f3:=(j6 (func3.symm.trans XU)).symm
   exact ⟨aOS,λ j t ht=>by
    rw [params3] at ht
    have hm:t∈[28,3,3,3,29]:=by simpa using Array.mem_of_getElem? ht
    have zl:([28,3,3,3,29].all λ u=>!prog.wantsStandIn u)=true:=by kernel_rfl
    exact (show prog.wantsStandIn t=false by simpa using List.all_eq_true.1 zl t hm)⟩)
  aOR
#print axioms row_card
end Go.Proofs.YtihapemckcdicaaGreatDoor
