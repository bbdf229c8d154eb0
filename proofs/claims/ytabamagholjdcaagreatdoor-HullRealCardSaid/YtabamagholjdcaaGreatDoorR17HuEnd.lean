/- The row HullReal and its tied card: whatever the arguments, laganlaw06.HullReal returns true, on every schedule, without a race, and all that lay in memory lies as it lay. Conditions: the listed variable is as the program's text lays it. -/
import Derived.Test.YtabamagholjdcaaGreatDoorQHHuV
import Derived.Test.YtabamagholjdcaaGreatDoorR17HuT
import Derived.Test.YtabamagholjdcaaGreatDoorR17HuLc
import Derived.Test.YtabamagholjdcaaGreatDoorCards
import Derived.SevenTiedAt
namespace Go.Proofs.YtabamagholjdcaaGreatDoor
open Go.Lg Go.Proofs Go.ChangeShapes Go.WideShapes Go.ChangeAt Go.RowKit Go.Conc Tryz
set_option maxRecDepth 100000
theorem aKb:ownKnob prog.godebug=none:=by kernel_rfl
theorem laidOut:laidOutB prog=true:=by kernel_rfl
theorem aK3(os:Os)(started:os.Started)(T:Type)(enc:TypeId × Value→T) :
  ReturnsInLeavingWide {} checked os 17 .any (λ w args=>(Rows.hullRealSpec.pre enc prog Tryz.f17 [] false w args∧laidMetH prog KM w)∧sizedMet enc prog Tryz.f17 (OpenSpec.ofChange Rows.hullRealSpec) false w args)
   (Rows.hullRealSpec.post enc prog Tryz.f17 false true false false):=by
 refine aHU (C:=checked) (X:=λ w _=>laidMetH prog KM w) (λ _ _ _ hh h=>h.of_heap hh) aKb started func17
  (ChangeSpec.witness_shaped (enc:=enc) (C:=checked) (os:=os) (X:=λ w _=>laidMetH prog KM w) false (World.doorLaid prog 14 os) #[.agg #[iv 0,iv 0,iv 0,.slice none 0 0,.slice none 0 0,.slice none 0 0],.slice none 0 0,.int .u8 0,.int .u8 0] 8 rfl (World.shaped_of_RefB (by kernel_rfl) (by kernel_rfl)) (by kernel_rfl) (by kernel_rfl) (by kernel_rfl) (apg os _)) ?_
 intro W base args ds gs before aCG hW hL
 have EG:∀ (j:Nat) t v,Tryz.f17.params[j]? = some t→args[j]? = some v→Value.okWide prog W .any base t v:=aCG
 have OD:=hW
 obtain ⟨p,q,hA0,hV,_,_,_⟩:=hW
 have hA:DataW.TrodAll enc prog W 0 (λ _=>true) true Tryz.f17.params.toList args.toList ds p:=hA0
 rw [params17] at hA EG
 obtain ⟨v0,v1,v2,v3,d0,d1,d2,d3,p0,p1,p2,p3,rfl,rfl,_,h0,h1,h2,h3⟩:=trodAll_four hA
 obtain ⟨rfl,rfl⟩:=trodVars_none hV
 obtain ⟨x0,u03,u04,u05,rfl,g03,g04,g05⟩:=aoy (EG 0 28 _ rfl rfl) h0
 obtain ⟨x1,g1,k1⟩:=aNo (EG 1 63 _ rfl rfl) h1
 obtain ⟨x2,rfl,k2⟩:=alk (EG 2 5 _ rfl rfl) h2
 obtain ⟨x3,rfl,k3⟩:=alk (EG 3 5 _ rfl rfl) h3
 refine aJJ (bax (B:=NG W) x0 x1 x2 x3 (aJT hL) aKR g03 g04 g05 g1.rd (bao x0 x1 x2 x3 k1 k2 k3) ?_)
 rintro v R' H' w ⟨hR,_,rfl⟩ hw
 exact aKD laidOut (by kernel_rfl) rfl rfl underlying4 OD rfl (aoO hw hR) rfl rfl rfl
theorem aK2:Rows.HullRealSaid :=
 OpenClaim.holds_of_wide_leaving 17 Tryz.f17 rfl rfl rfl rfl rfl rfl rfl ⟨rfl,rfl,rfl,rfl,rfl⟩ rfl rfl rfl rfl rfl (by kernel_rfl) func17 (by kernel_rfl)
  (of_decide_eq_true (by kernel_rfl)) (by unfold Func.isWrapper; first | (rw [if_pos (by decide +kernel)]; kernel_rfl) | (rw [if_neg (by decide +kernel)]; exact ⟨rfl,rfl⟩))
  (λ os started T enc _=>aK3 os started T enc)
theorem aLR(Lk:Looks){p:Pinned}{s:OpenSpec}{c:OpenClaim}(kinds:List LaidKind)(aaI:Bool)(Cj:Bool × String)(lk:Bool)
  (hc:c.holds p s) (hw:c.wfByText s=true) (aCE:c.laidByTextAt Lk p kinds aaI)
  (ct:c.start = .entering) (hnb:c.noBlocks=false∧c.again=false) (hm:p.checked.prog.mainIs=some (Cj.1,Cj.2.toList)) (hn:(!Cj.1 && Cj.2.isEmpty && !lk)=false)
  (hl:∀ f fn,p.checked.prog.funcNamed c.func=some f→p.checked.prog.funcs[f]? = some fn→lk=p.checked.prog.looks []∧∀ (j:Nat) t,fn.params[j]? = some t→p.checked.prog.wantsStandIn t=false)
  (hg:true=c.goesBy p.checked.prog) :
  Claim7.holds p (.plain s) { stood:={ row:=c,standIns:=[],harness:=Cj,looks:=lk },kinds:=[],alts:=[],goes:=true,laidByText:=true,laidKinds:=kinds,laidTests:=aaI,laidLooks:=Lk }:=by
 have h6:∀ r:OpenClaim,Claim7.isSixth { stood:={ row:=r,standIns:=[],harness:=Cj,looks:=lk },kinds:=[] }=false:=λ r=>by simpa [Claim7.isSixth] using hn
 exact ⟨Claim7.tied_new_at Lk kinds aaI (Claim7.new_of_sixth hc Cj lk ct hnb hm (h6 c) hl) hw,(λ D hD=>by cases hD),aCE,(λ h=>by cases h),hg⟩
theorem row_card:Rows.HullRealCardSaid :=
 aLR .later [.funcs] true (true,"a3c4a1d6a3e12b971492852ddb05cc39d99b07e6085e36256767384e4fbffde3") false aK2 (by kernel_rfl) hullReal_row_tie rfl ⟨rfl,rfl⟩ (by kernel_rfl) rfl
  (λ f fn hf VQ=>by
   obtain rfl:f=17:=Option.some.inj ((show prog.funcNamed "lagan/laganlaw06.HullReal"=some 17 by kernel_rfl).symm.trans hf) |>.symm
   obtain rfl:fn=Tryz.f17:=(Option.some.inj (func17.symm.trans VQ)).symm
   exact ⟨by kernel_rfl,λ j t ht=>by
    rw [params17] at ht
    have hm:t∈[28,63,5,5]:=by simpa using Array.mem_of_getElem? ht
    have uC:([28,63,5,5].all λ u=>!prog.wantsStandIn u)=true:=by kernel_rfl
    exact (show prog.wantsStandIn t=false by simpa using List.all_eq_true.1 uC t hm)⟩)
  (by kernel_rfl)
#print axioms row_card
end Go.Proofs.YtabamagholjdcaaGreatDoor
