/- The row StintReal: its tied card. Conditions: as there. -/
import Derived.Test.YtihapemckcdicaaGreatDoorR19StEb
import Derived.Test.YtihapemckcdicaaGreatDoorR19StEq
import Derived.Test.YtihapemckcdicaaGreatDoorCards
import Derived.SevenTiedAt
namespace Go.Proofs.YtihapemckcdicaaGreatDoor
open Go.Lg Go.Proofs Go.ChangeShapes Go.WideShapes Go.ChangeAt Go.RowKit Go.Conc Tryz
open Go.ConcM (OsLater)
set_option maxRecDepth 100000
theorem Pw(d:Looks){p:Pinned}{s:OpenSpec}{c:OpenClaim}(kinds:List LaidKind)(e:Bool)(a:Bool × String)(b:Bool)
  (i:c.holds p s) (hw:c.wfByText s=true) (o:c.laidByTextAt d p kinds e)
  (n:c.start = .entering) (m:c.noBlocks=false∧c.again=false) (hm:p.checked.prog.mainIs=some (a.1,a.2.toList)) (l:(!a.1 && a.2.isEmpty && !b)=false)
  (hl:∀ f fn,p.checked.prog.funcNamed c.func=some f→p.checked.prog.funcs[f]? = some fn→b=p.checked.prog.looks []∧∀ (j:Nat) t,fn.params[j]? = some t→p.checked.prog.wantsStandIn t=false)
  (k:true=c.goesBy p.checked.prog) :
  Claim7.holds p (.plain s) { stood:={ row:=c,standIns:=[],harness:=a,looks:=b },kinds:=[],alts:=[],goes:=true,laidByText:=true,laidKinds:=kinds,laidTests:=e,laidLooks:=d }:=by
 have h6:∀ r:OpenClaim,Claim7.isSixth { stood:={ row:=r,standIns:=[],harness:=a,looks:=b },kinds:=[] }=false:=λ r=>by simpa [Claim7.isSixth] using l
 exact ⟨Claim7.tied_new_at d kinds e (Claim7.new_of_sixth i a b n m hm (h6 c) hl) hw,(λ D g=>by cases g),o,(λ h=>by cases h),k⟩
theorem row_card:Rows.StintRealCardSaid :=
 Pw .later [.funcs] true (true,"fe6918396992fb4ce1d0e6a2f4b06d4724c0280ee12adfc19b8f06aed11edddf") false OG Nx stintReal_row_tie rfl ⟨rfl,rfl⟩ Ny rfl
  (λ f fn c d=>by
   obtain rfl:f=19:=ed ((show prog.funcNamed "lagan/laganlaw05.StintReal"=some 19 by kernel_rfl).symm.trans c) |>.symm
   obtain rfl:fn=Tryz.f19:=(ed (func19.symm.trans d)).symm
   exact ⟨Nw,λ j t a=>by
    rw [params19] at a
    have hm:t∈[28,81,5,5,5]:=by simpa using Array.mem_of_getElem? a
    have b:([28,81,5,5,5].all λ u=>!prog.wantsStandIn u)=true:=by kernel_rfl
    exact (show prog.wantsStandIn t=false by simpa using List.all_eq_true.1 b t hm)⟩)
  Nv
#print axioms row_card
end Go.Proofs.YtihapemckcdicaaGreatDoor
