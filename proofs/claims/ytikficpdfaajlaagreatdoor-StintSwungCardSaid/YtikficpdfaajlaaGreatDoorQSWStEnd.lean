/- The row StintSwung: its tied card. Conditions: as there. -/
import Derived.Test.YtikficpdfaajlaaGreatDoorQSWStEb
import Derived.Test.YtikficpdfaajlaaGreatDoorQSWStEq
import Derived.Test.YtikficpdfaajlaaGreatDoorCards
import Derived.SevenTiedAt
namespace Go.Proofs.YtikficpdfaajlaaGreatDoor
open Go.Lg Go.Proofs Go.ChangeShapes Go.WideShapes Go.ChangeAt Go.RowKit Go.Conc Tryz
open Go.ConcM (OsLater)
set_option maxRecDepth 100000
theorem Tb(g:Looks){p:Pinned}{s:OpenSpec}{c:OpenClaim}(kinds:List LaidKind)(i:Bool)(b:Bool × String)(d:Bool)
  (m:c.holds p s) (hw:c.wfByText s=true) (z:c.laidByTextAt g p kinds i)
  (y:c.start = .entering) (w:c.noBlocks=false∧c.again=false) (hm:p.checked.prog.mainIs=some (b.1,b.2.toList)) (o:(!b.1 && b.2.isEmpty && !d)=false)
  (hl:∀ f fn,p.checked.prog.funcNamed c.func=some f→p.checked.prog.funcs[f]? = some fn→d=p.checked.prog.looks []∧∀ (j:Nat) t,fn.params[j]? = some t→p.checked.prog.wantsStandIn t=false)
  (n:true=c.goesBy p.checked.prog) :
  Claim7.holds p (.plain s) { stood:={ row:=c,standIns:=[],harness:=b,looks:=d },kinds:=[],alts:=[],goes:=true,laidByText:=true,laidKinds:=kinds,laidTests:=i,laidLooks:=g }:=by
 have h6:∀ r:OpenClaim,Claim7.isSixth { stood:={ row:=r,standIns:=[],harness:=b,looks:=d },kinds:=[] }=false:=λ r=>by simpa [Claim7.isSixth] using o
 exact ⟨Claim7.tied_new_at g kinds i (Claim7.new_of_sixth m b d y w hm (h6 c) hl) hw,(λ D k=>by cases k),z,(λ h=>by cases h),n⟩
theorem row_card:Rows.StintSwungCardSaid :=
 Tb .later [.funcs,.funcs] true (true,"224bf0d68bc22f23dfb9b812ded286e24bd3ac1fb218588ab42772ae813a7aef") false Sj Q9 stintSwung_row_tie rfl ⟨rfl,rfl⟩ Ra rfl
  (λ f fn d g=>by
   obtain rfl:f=3:=eI ((show prog.funcNamed "lagan/laganlaw05.StintSwung"=some 3 by kernel_rfl).symm.trans d) |>.symm
   obtain rfl:fn=Tryz.f3:=(eI (func3.symm.trans g)).symm
   exact ⟨Q8,λ j t b=>by
    rw [params3] at b
    have hm:t∈[28,31,5,5,33,5,5,5]:=by simpa using Array.mem_of_getElem? b
    have c:([28,31,5,5,33,5,5,5].all λ u=>!prog.wantsStandIn u)=true:=by kernel_rfl
    exact (show prog.wantsStandIn t=false by simpa using List.all_eq_true.1 c t hm)⟩)
  Q7
#print axioms row_card
end Go.Proofs.YtikficpdfaajlaaGreatDoor
