/- The row StintShallow: its tied card. Conditions: as there. -/
import Derived.Test.YtihapemckcdicaaGreatDoorR6StEb
import Derived.Test.YtihapemckcdicaaGreatDoorR6StEq
import Derived.Test.YtihapemckcdicaaGreatDoorCards
import Derived.SevenTiedAt
namespace Go.Proofs.YtihapemckcdicaaGreatDoor
open Go.Lg Go.Proofs Go.ChangeShapes Go.WideShapes Go.ChangeAt Go.RowKit Go.Conc Tryz
open Go.ConcM (OsLater)
set_option maxRecDepth 100000
theorem aHR(Lk:Looks){p:Pinned}{s:OpenSpec}{c:OpenClaim}(kinds:List LaidKind)(XX:Bool)(Bw:Bool × String)(lk:Bool)
  (hc:c.holds p s) (hw:c.wfByText s=true) (axE:c.laidByTextAt Lk p kinds XX)
  (cQ:c.start = .entering) (hnb:c.noBlocks=false∧c.again=false) (hm:p.checked.prog.mainIs=some (Bw.1,Bw.2.toList)) (hn:(!Bw.1 && Bw.2.isEmpty && !lk)=false)
  (hl:∀ f fn,p.checked.prog.funcNamed c.func=some f→p.checked.prog.funcs[f]? = some fn→lk=p.checked.prog.looks []∧∀ (j:Nat) t,fn.params[j]? = some t→p.checked.prog.wantsStandIn t=false)
  (hg:true=c.goesBy p.checked.prog) :
  Claim7.holds p (.plain s) { stood:={ row:=c,standIns:=[],harness:=Bw,looks:=lk },kinds:=[],alts:=[],goes:=true,laidByText:=true,laidKinds:=kinds,laidTests:=XX,laidLooks:=Lk }:=by
 have h6:∀ r:OpenClaim,Claim7.isSixth { stood:={ row:=r,standIns:=[],harness:=Bw,looks:=lk },kinds:=[] }=false:=λ r=>by simpa [Claim7.isSixth] using hn
 exact ⟨Claim7.tied_new_at Lk kinds XX (Claim7.new_of_sixth hc Bw lk cQ hnb hm (h6 c) hl) hw,(λ D hD=>by cases hD),axE,(λ h=>by cases h),hg⟩
theorem row_card:Rows.StintShallowCardSaid :=
 aHR .later [.funcs] true (true,"fe6918396992fb4ce1d0e6a2f4b06d4724c0280ee12adfc19b8f06aed11edddf") false aG0 aGe stintShallow_row_tie rfl ⟨rfl,rfl⟩ aGf rfl
  (λ f fn hf S1=>by
   obtain rfl:f=6:=Option.some.inj ((show prog.funcNamed "lagan/laganlaw05.StintShallow"=some 6 by kernel_rfl).symm.trans hf) |>.symm
   obtain rfl:fn=Tryz.f6:=(Option.some.inj (func6.symm.trans S1)).symm
   exact ⟨aGd,λ j t ht=>by
    rw [params6] at ht
    have hm:t∈[28,5,5,5]:=by simpa using Array.mem_of_getElem? ht
    have w5:([28,5,5,5].all λ u=>!prog.wantsStandIn u)=true:=by kernel_rfl
    exact (show prog.wantsStandIn t=false by simpa using List.all_eq_true.1 w5 t hm)⟩)
  aGc
#print axioms row_card
end Go.Proofs.YtihapemckcdicaaGreatDoor
