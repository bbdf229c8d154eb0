/- The row StintRotas: its tied card. Conditions: as there. -/
import Derived.Test.YtihapemckcdicaaGreatDoorR4StEb
import Derived.Test.YtihapemckcdicaaGreatDoorR4StEq
import Derived.Test.YtihapemckcdicaaGreatDoorCards
import Derived.SevenTiedAt
namespace Go.Proofs.YtihapemckcdicaaGreatDoor
open Go.Lg Go.Proofs Go.ChangeShapes Go.WideShapes Go.ChangeAt Go.RowKit Go.Conc Tryz
open Go.ConcM (OsLater)
set_option maxRecDepth 100000
theorem aJS(Lk:Looks){p:Pinned}{s:OpenSpec}{c:OpenClaim}(kinds:List LaidKind)(abA:Bool)(C5:Bool × String)(lk:Bool)
  (hc:c.holds p s) (hw:c.wfByText s=true) (azz:c.laidByTextAt Lk p kinds abA)
  (cU:c.start = .entering) (hnb:c.noBlocks=false∧c.again=false) (hm:p.checked.prog.mainIs=some (C5.1,C5.2.toList)) (hn:(!C5.1 && C5.2.isEmpty && !lk)=false)
  (hl:∀ f fn,p.checked.prog.funcNamed c.func=some f→p.checked.prog.funcs[f]? = some fn→lk=p.checked.prog.looks []∧∀ (j:Nat) t,fn.params[j]? = some t→p.checked.prog.wantsStandIn t=false)
  (hg:true=c.goesBy p.checked.prog) :
  Claim7.holds p (.plain s) { stood:={ row:=c,standIns:=[],harness:=C5,looks:=lk },kinds:=[],alts:=[],goes:=true,laidByText:=true,laidKinds:=kinds,laidTests:=abA,laidLooks:=Lk }:=by
 have h6:∀ r:OpenClaim,Claim7.isSixth { stood:={ row:=r,standIns:=[],harness:=C5,looks:=lk },kinds:=[] }=false:=λ r=>by simpa [Claim7.isSixth] using hn
 exact ⟨Claim7.tied_new_at Lk kinds abA (Claim7.new_of_sixth hc C5 lk cU hnb hm (h6 c) hl) hw,(λ D hD=>by cases hD),azz,(λ h=>by cases h),hg⟩
theorem row_card:Rows.StintRotasCardSaid :=
 aJS .later [.funcs] true (true,"fe6918396992fb4ce1d0e6a2f4b06d4724c0280ee12adfc19b8f06aed11edddf") false aIW aHW stintRotas_row_tie rfl ⟨rfl,rfl⟩ aHX rfl
  (λ f fn hf Wx=>by
   obtain rfl:f=4:=lV ((show prog.funcNamed "lagan/laganlaw05.StintRotas"=some 4 by kernel_rfl).symm.trans hf) |>.symm
   obtain rfl:fn=Tryz.f4:=(lV (func4.symm.trans Wx)).symm
   exact ⟨aHV,λ j t ht=>by
    rw [params4] at ht
    have hm:t∈[28]:=by simpa using Array.mem_of_getElem? ht
    have p8:([28].all λ u=>!prog.wantsStandIn u)=true:=by kernel_rfl
    exact (show prog.wantsStandIn t=false by simpa using List.all_eq_true.1 p8 t hm)⟩)
  aHU
#print axioms row_card
end Go.Proofs.YtihapemckcdicaaGreatDoor
