/- The row HullAsked and its tied card: whatever the arguments, laganlaw06.HullAsked returns true, on every schedule, without a race, and all that lay in memory lies as it lay. Conditions: the listed variable is as the program's text lays it. -/
import Derived.Test.YtabamagholjdcaaGreatDoorQGHuV
import Derived.Test.YtabamagholjdcaaGreatDoorR13HuT
import Derived.Test.YtabamagholjdcaaGreatDoorR13HuLc
import Derived.Test.YtabamagholjdcaaGreatDoorCards
import Derived.SevenTiedAt
namespace Go.Proofs.YtabamagholjdcaaGreatDoor
open Go.Lg Go.Proofs Go.ChangeShapes Go.WideShapes Go.ChangeAt Go.RowKit Go.Conc
set_option maxRecDepth 100000
theorem azW : ownKnob Tryz.prog.godebug = none := by kernel_rfl
theorem laidOut : laidOutB Tryz.prog = true := by kernel_rfl
theorem aAR (os : Os) (started : os.Started) (T : Type) (enc : TypeId × Value → T) :
  ReturnsInLeavingWide {} Tryz.checked os 13 .any (λ w args => (Rows.hullAskedSpec.pre enc Tryz.prog Tryz.f13 [] false w args ∧ laidMetH Tryz.prog Gu w) ∧ sizedMet enc Tryz.prog Tryz.f13 (OpenSpec.ofChange Rows.hullAskedSpec) false w args)
   (Rows.hullAskedSpec.post enc Tryz.prog Tryz.f13 false true false false) := by
 refine axf (C := Tryz.checked) (X := λ w _ => laidMetH Tryz.prog Gu w) (λ _ _ _ hh h => h.of_heap hh) azW started Tryz.func13
  (ChangeSpec.witness_shaped (enc := enc) (C := Tryz.checked) (os := os) (X := λ w _ => laidMetH Tryz.prog Gu w) false (World.doorLaid Tryz.prog 14 os) #[.agg #[iv 0, iv 0, iv 0, .slice none 0 0, .slice none 0 0, .slice none 0 0], .int .u8 0] 8 rfl (World.shaped_of_RefB (by kernel_rfl) (by kernel_rfl)) (by kernel_rfl) (by kernel_rfl) (by kernel_rfl) (agq os _)) ?_
 intro W base args ds gs before asg hW hL
 have hval : ∀ (j : Nat) t v, Tryz.f13.params[j]? = some t → args[j]? = some v → Value.okWide Tryz.prog W .any base t v := asg
 have JN := hW
 obtain ⟨p, q, hA0, hV, _, _, _⟩ := hW
 have hA : DataW.TrodAll enc Tryz.prog W 0 (λ _ => true) true Tryz.f13.params.toList args.toList ds p := hA0
 rw [Tryz.params13] at hA hval
 obtain ⟨v0, v1, d0, d1, p0, p1, rfl, rfl, _, h0, h1⟩ := trodAll_two hA
 obtain ⟨rfl, rfl⟩ := trodVars_none hV
 obtain ⟨x0, u03, u04, u05, rfl, g03, g04, g05⟩ := afI (hval 0 28 _ rfl rfl) h0
 obtain ⟨x1, rfl, k1⟩ := afJ (hval 1 5 _ rfl rfl) h1
 refine azp (aNa (B := IZ W) x0 x1 (azE hL) aAC g03 g04 g05 (aMX x0 x1 k1) ?_)
 rintro v R' H' w ⟨hR, _, rfl⟩ hw
 exact aAn laidOut (by kernel_rfl) rfl rfl Tryz.underlying4 JN rfl (afQ hw hR) rfl rfl rfl
theorem aAQ : Rows.HullAskedSaid :=
 OpenClaim.holds_of_wide_leaving 13 Tryz.f13 rfl rfl rfl rfl rfl rfl rfl ⟨rfl, rfl, rfl, rfl, rfl⟩ rfl rfl rfl rfl rfl (by kernel_rfl) Tryz.func13 (by kernel_rfl)
  (of_decide_eq_true (by kernel_rfl)) (by unfold Func.isWrapper; first | (rw [if_pos (by decide +kernel)]; kernel_rfl) | (rw [if_neg (by decide +kernel)]; exact ⟨rfl, rfl⟩))
  (λ os started T enc _ => aAR os started T enc)
theorem aBI (Lk : Looks) {p : Pinned} {s : OpenSpec} {c : OpenClaim} (kinds : List LaidKind) (tests : Bool) (har : Bool × String) (lk : Bool)
  (hc : c.holds p s) (hw : c.wfByText s = true) (htie : c.laidByTextAt Lk p kinds tests)
  (hst : c.start = .entering) (hnb : c.noBlocks = false ∧ c.again = false) (hm : p.checked.prog.mainIs = some (har.1, har.2.toList)) (hn : (!har.1 && har.2.isEmpty && !lk) = false)
  (hl : ∀ f fn, p.checked.prog.funcNamed c.func = some f → p.checked.prog.funcs[f]? = some fn → lk = p.checked.prog.looks [] ∧ ∀ (j : Nat) t, fn.params[j]? = some t → p.checked.prog.wantsStandIn t = false)
  (hg : true = c.goesBy p.checked.prog) :
  Claim7.holds p (.plain s) { stood := { row := c, standIns := [], harness := har, looks := lk }, kinds := [], alts := [], goes := true, laidByText := true, laidKinds := kinds, laidTests := tests, laidLooks := Lk } := by
 have h6 : ∀ r : OpenClaim, Claim7.isSixth { stood := { row := r, standIns := [], harness := har, looks := lk }, kinds := [] } = false := λ r => by simpa [Claim7.isSixth] using hn
 exact ⟨Claim7.tied_new_at Lk kinds tests (Claim7.new_of_sixth hc har lk hst hnb hm (h6 c) hl) hw, (λ D hD => by cases hD), htie, (λ h => by cases h), hg⟩
theorem row_card : Rows.HullAskedCardSaid :=
 aBI .later [.funcs] true (true, "a3c4a1d6a3e12b971492852ddb05cc39d99b07e6085e36256767384e4fbffde3") false aAQ (by kernel_rfl) hullAsked_row_tie rfl ⟨rfl, rfl⟩ (by kernel_rfl) rfl
  (λ f fn hf hfn => by
   obtain rfl : f = 13 := Option.some.inj ((show Tryz.prog.funcNamed "lagan/laganlaw06.HullAsked" = some 13 by kernel_rfl).symm.trans hf) |>.symm
   obtain rfl : fn = Tryz.f13 := (Option.some.inj (Tryz.func13.symm.trans hfn)).symm
   exact ⟨by kernel_rfl, λ j t ht => by
    rw [Tryz.params13] at ht
    have hm : t ∈ [28, 5] := by simpa using Array.mem_of_getElem? ht
    have hall : ([28, 5].all λ u => !Tryz.prog.wantsStandIn u) = true := by kernel_rfl
    exact (show Tryz.prog.wantsStandIn t = false by simpa using List.all_eq_true.1 hall t hm)⟩)
  (by kernel_rfl)
#print axioms row_card
end Go.Proofs.YtabamagholjdcaaGreatDoor
