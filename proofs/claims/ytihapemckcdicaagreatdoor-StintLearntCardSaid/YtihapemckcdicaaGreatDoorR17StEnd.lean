/- The row StintLearnt: its tied card. Conditions: as there. -/
import Derived.Test.YtihapemckcdicaaGreatDoorR17StEb
import Derived.Test.YtihapemckcdicaaGreatDoorR17StEq
import Derived.Test.YtihapemckcdicaaGreatDoorCards
import Derived.SevenTiedAt
namespace Go.Proofs.YtihapemckcdicaaGreatDoor
open Go.Lg Go.Proofs Go.ChangeShapes Go.WideShapes Go.ChangeAt Go.RowKit Go.Conc Tryz
open Go.ConcM (OsLater)
set_option maxRecDepth 100000
theorem aNq(Lk:Looks){p:Pinned}{s:OpenSpec}{c:OpenClaim}(kinds:List LaidKind)(abX:Bool)(Eb:Bool × String)(lk:Bool)
  (hc:c.holds p s) (hw:c.wfByText s=true) (aBR:c.laidByTextAt Lk p kinds abX)
  (de:c.start = .entering) (hnb:c.noBlocks=false∧c.again=false) (hm:p.checked.prog.mainIs=some (Eb.1,Eb.2.toList)) (hn:(!Eb.1 && Eb.2.isEmpty && !lk)=false)
  (hl:∀ f fn,p.checked.prog.funcNamed c.func=some f→p.checked.prog.funcs[f]? = some fn→lk=p.checked.prog.looks []∧∀ (j:Nat) t,fn.params[j]? = some t→p.checked.prog.wantsStandIn t=false)
  (hg:true=c.goesBy p.checked.prog) :
  Claim7.holds p (.plain s) { stood:={ row:=c,standIns:=[],harness:=Eb,looks:=lk },kinds:=[],alts:=[],goes:=true,laidByText:=true,laidKinds:=kinds,laidTests:=abX,laidLooks:=Lk }:=by
 have h6:∀ r:OpenClaim,Claim7.isSixth { stood:={ row:=r,standIns:=[],harness:=Eb,looks:=lk },kinds:=[] }=false:=λ r=>by simpa [Claim7.isSixth] using hn
 exact ⟨Claim7.tied_new_at Lk kinds abX (Claim7.new_of_sixth hc Eb lk de hnb hm (h6 c) hl) hw,(λ D hD=>by cases hD),aBR,(λ h=>by cases h),hg⟩
theorem row_card:Rows.StintLearntCardSaid :=
 aNq .later [.funcs] true (true,"fe6918396992fb4ce1d0e6a2f4b06d4724c0280ee12adfc19b8f06aed11edddf") false aMz aLC stintLearnt_row_tie rfl ⟨rfl,rfl⟩ aLD rfl
  (λ f fn hf W5=>by
   obtain rfl:f=17:=kz ((show prog.funcNamed "lagan/laganlaw05.StintLearnt"=some 17 by kernel_rfl).symm.trans hf) |>.symm
   obtain rfl:fn=Tryz.f17:=(kz (func17.symm.trans W5)).symm
   exact ⟨aLB,λ j t ht=>by
    rw [params17] at ht
    have hm:t∈[28,59,5,5,5]:=by simpa using Array.mem_of_getElem? ht
    have y8:([28,59,5,5,5].all λ u=>!prog.wantsStandIn u)=true:=by kernel_rfl
    exact (show prog.wantsStandIn t=false by simpa using List.all_eq_true.1 y8 t hm)⟩)
  aLA
#print axioms row_card
end Go.Proofs.YtihapemckcdicaaGreatDoor
