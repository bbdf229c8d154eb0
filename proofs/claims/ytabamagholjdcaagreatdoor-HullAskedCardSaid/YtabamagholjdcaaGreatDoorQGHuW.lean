/- A worker of hull.reckon: the walk of it. -/
import Derived.Test.YtabamagholjdcaaGreatDoorQGHuP1
import Derived.Test.YtabamagholjdcaaGreatDoorQGLgD
namespace Go.Proofs.YtabamagholjdcaaGreatDoor
open Go.Lg Go.Proofs
set_option maxRecDepth 100000
set_option maxHeartbeats 4000000
section
variable {B : Base} {main : Bool} {ah : Jd Tryz.prog B main} {R : aA} {H : ak}
theorem aCL {cf cd : Nat} (x0 : cR) (x1 : Int) {aG aI aM iE jE : Value} {b0 b1 b2 b3 : Nat} (hc0 : aS R [] b0 0 [iv x0.book.aD, iv x0.book.af.ao, iv x0.book.af.ax, aG, aI, aM, iE, jE]) (aE : az bI 5 R aG x0.book.au) (aJ : az (CI .i64) 1 R aI x0.book.Out) (aL : az bB 2 R aM x0.book.aU) (lz : az fM 6 R iE x0.dI) (cK : aS R [] b1 0 [iv x1]) (bC : aS R [] b2 0 [.chan (some cf)]) (bO : aS R [] b3 0 [.chan (some cd)]) {r : (List Bool × Int)} (hM : Ah x0 x1 = some r) : Own Tryz.prog B false (vM Tryz.prog B cf cd (u7 r)) R [] (bt (Frame.enter Tryz.prog 147 #[.pointer (some ⟨b0, 0, none⟩), .pointer (some ⟨b1, 0, none⟩), .pointer (some ⟨b2, 0, none⟩), .pointer (some ⟨b3, 0, none⟩)] .deferred) [nS Tryz.prog]) := by
 unfold Ah at hM
 refine abm (args := [.pointer (some ⟨b0, 0, none⟩), .pointer (some ⟨b1, 0, none⟩), .pointer (some ⟨b2, 0, none⟩), .pointer (some ⟨b3, 0, none⟩)]) Tryz.func147 rfl (n := 49) rfl rfl ?_
 refine At.seq ?_
 refine At.rg aQ ?_
 refine At.s rfl rfl (Ox.alloc (cs := (List.toArray ([] ++ ([false, false, false, false, false].map Value.bool ++ [])))) rfl kB rfl λ cq _ _ => ⟨_, (.put rfl), ?_⟩)
 refine At.dK ?_
 refine At.seq ?_
 refine At.seq ?_
 refine At.rg c6 ?_
 refine At.vs 3 rfl rfl ?_
 refine At.ld dc ((hc0.sub (λ _ h => (List.Sublist.subset (List.Sublist.cons _ (List.Sublist.refl _))) h)).one (j := 3) rfl) ?_
 refine At.s rfl rfl (Ox.wW (K := bI) (k := 5) (xs := x0.book.au) rfl rfl aE Tryz.underlying24 rfl (.put rfl) ?_)
 refine At.vs 1 rfl rfl ?_
 refine At.dK ?_
 refine At.block ?_
 refine At.eI hM (λ (oN : (Int × (List Bool))) R' H' st' => R = R' ∧ oN.2.length = 5 ∧ H' = (cq, .cells (List.toArray ([] ++ (oN.2.map Value.bool ++ []))) 112) :: [] ∧ aF st' [(0, .pointer (some ⟨b0, 0, none⟩)), (1, .pointer (some ⟨b1, 0, none⟩)), (2, .pointer (some ⟨b2, 0, none⟩)), (3, .pointer (some ⟨b3, 0, none⟩)), (4, .pointer (some ⟨cq, 0, none⟩)), (14, iv (x0.book.au.length : Int)), (15, iv oN.1)]) (λ (uY : (List Bool)) R' H' st' => R = R' ∧ uY.length = 5 ∧ H' = (cq, .cells (List.toArray ([] ++ (uY.map Value.bool ++ []))) 112) :: [] ∧ aF st' [(0, .pointer (some ⟨b0, 0, none⟩)), (2, .pointer (some ⟨b2, 0, none⟩)), (3, .pointer (some ⟨b3, 0, none⟩)), (4, .pointer (some ⟨cq, 0, none⟩))]) 0 rfl ⟨rfl, rfl, rfl, ay.sub ⟨rfl, rfl, rfl, rfl, rfl, rfl, rfl, trivial⟩⟩ ?_ ?_
 rotate_right
 ·rintro oN R21 H21 aO3 ⟨rfl, SW, rfl, aph⟩ cy hM ae2 ahO
  refine At.sub aph ?_
  refine At.seq ?_
  refine At.rg aQ ?_
  refine At.vs 1 rfl rfl ?_
  refine At.dK ?_
  refine At.seq ?_
  refine bA hM (λ zC hM => At.BQ rfl zC ?_) (λ zC hM => At.BP rfl zC ?_)
  ·refine At.skip ?_
   refine At.seq ?_
   refine At.block ?_
   refine At.seq ?_
   refine At.rg aR ?_
   refine At.vs 2 rfl rfl ?_
   refine At.dK ?_
   obtain ⟨mX, Ch, hM⟩ := aj hM
   obtain ⟨e8, zM, hM⟩ := aj hM
   obtain ⟨cU, Gg, hM⟩ := aj hM
   refine At.rg eK ?_
   refine At.vs 1 rfl rfl ?_
   refine At.ld aV ((cK.sub (λ _ h => (List.Sublist.subset (List.Sublist.cons _ (List.Sublist.refl _))) h)).one (j := 0) rfl) ?_
   refine At.vs 1 rfl rfl ?_
   refine At.s rfl rfl (Ox.shr rfl rfl rfl Ch rfl (.put rfl) ?_)
   refine At.s rfl rfl (Ox.bits rfl rfl rfl zM rfl (.put rfl) ?_)
   refine At.vs 1 rfl rfl ?_
   refine At.s rfl rfl (Ox.aX rfl rfl rfl (sL BJ SW Gg) rfl (.put rfl) ?_)
   refine At.s rfl rfl (Ox.cI rfl rfl rfl jg rfl .here (M6 Gg rfl) (M7 Gg rfl) rfl (.refl _) ?_)
   refine At.dK ?_
   refine At.inBlock ?_
   refine At.rg aR ?_
   refine At.vs 2 rfl rfl ?_
   refine At.dK ?_
   exact ae2 _ (aa hM).symm _ _ _ ⟨rfl, ((List.length_set).trans SW), rfl, ay.sub ⟨rfl, rfl, rfl, rfl, rfl, rfl, rfl, trivial⟩⟩
  exact At.exit rfl (ahO _ (aa hM).symm _ _ _ ⟨rfl, SW, rfl, ay.sub ⟨rfl, rfl, rfl, rfl, trivial⟩⟩)
 rintro uY aFF aDI aO6 ⟨rfl, Ck, rfl, apk⟩ hM
 refine At.sub apk ?_
 refine At.seq ?_
 refine At.rg aQ ?_
 refine At.vs 1 rfl rfl ?_
 refine At.dK ?_
 refine At.seq ?_
 refine At.seq ?_
 refine At.rg bw ?_
 refine At.vs 1 rfl rfl ?_
 refine At.ld qK ((hc0.sub (λ _ h => (List.Sublist.subset (List.Sublist.cons _ (List.Sublist.refl _))) h)).one (j := 6) rfl) ?_
 refine At.s rfl rfl (Ox.wW (K := fM) (k := 6) (xs := x0.dI) rfl rfl lz Tryz.underlying103 rfl (.put rfl) ?_)
 refine At.vs 1 rfl rfl ?_
 refine At.dK ?_
 refine At.block ?_
 refine At.eI hM (λ (iU : (Int × Int)) R' H' st' => R = R' ∧ H' = (cq, .cells (List.toArray ([] ++ (uY.map Value.bool ++ []))) 112) :: [] ∧ aF st' [(0, .pointer (some ⟨b0, 0, none⟩)), (2, .pointer (some ⟨b2, 0, none⟩)), (3, .pointer (some ⟨b3, 0, none⟩)), (4, .pointer (some ⟨cq, 0, none⟩)), (6, iv iU.1), (27, iE), (28, iv (x0.dI.length : Int)), (29, iv iU.2)]) (λ (sY : Int) R' H' st' => R = R' ∧ H' = (cq, .cells (List.toArray ([] ++ (uY.map Value.bool ++ []))) 112) :: [] ∧ aF st' [(2, .pointer (some ⟨b2, 0, none⟩)), (3, .pointer (some ⟨b3, 0, none⟩)), (4, .pointer (some ⟨cq, 0, none⟩)), (6, iv sY)]) 2 rfl ⟨rfl, rfl, ay.sub ⟨rfl, rfl, rfl, rfl, rfl, rfl, rfl, rfl, trivial⟩⟩ ?_ ?_
 rotate_right
 ·rintro iU R40 H40 aBk ⟨rfl, rfl, Qq⟩ jH hM MY Oa
  refine At.sub Qq ?_
  refine At.seq ?_
  refine At.rg aQ ?_
  refine At.vs 1 rfl rfl ?_
  refine At.dK ?_
  refine At.seq ?_
  refine bA hM (λ uz hM => At.BQ rfl uz ?_) (λ uz hM => At.BP rfl uz ?_)
  ·refine At.skip ?_
   refine At.seq ?_
   refine At.block ?_
   refine At.seq ?_
   obtain ⟨eF, oD, hM⟩ := aj hM
   refine At.rg bw ?_
   obtain ⟨aJQ, aOt, _, ⟨z9, rfl⟩, akt, anc⟩ := lz.elem Lb oD
   refine At.s rfl rfl (Ox.aX rfl rfl rfl anc rfl (.put rfl) ?_)
   refine At.s rfl rfl (Ox.ck (vs := _) rfl rfl eG (by simp [z9]) (akt.any.part (j := 0) (n := 6) (ee (by simp [z9]))) rfl (.put rfl) ?_)
   refine At.s rfl rfl (Ox.alloc (cs := (List.toArray ([iv 0] ++ ([0, 0, 0, 0, 0].map (Value.int .i64) ++ [])))) rfl yp rfl λ b57 _ _ => ⟨_, (.put rfl), ?_⟩)
   refine At.s rfl rfl (Ox.bG (cs' := _) rfl rfl rfl eG (by simp [z9]) (cr (aq rfl aW) (cr (ew λ _ => rfl) aW)) .here (by simp) (dZ (by simp [z9])) rfl (.refl _) ?_)
   refine At.dK ?_
   refine At.seq ?_
   obtain ⟨k7, uH, hM⟩ := aj hM
   refine At.rg c6 ?_
   refine At.vs 1 rfl rfl ?_
   refine At.s rfl rfl (Ox.ck (vs := [_, _, _, _, _, _]) rfl rfl dS rfl ((hc0.sub (λ _ h => (List.Sublist.subset (List.Sublist.cons _ (List.Sublist.cons _ (List.Sublist.refl _)))) h)).part (j := 0) (n := 6) rfl) rfl (.put rfl) ?_)
   refine At.s rfl rfl (Ox.ck (vs := _) rfl rfl eG (by simp [z9]) ((aS.box (.head _)).part (j := 0) (n := 6) (ee (by simp [z9]))) rfl (.put rfl) ?_)
   refine At.s rfl rfl (Ox.ck (vs := _) rfl rfl c8 (by simp [Ck]) ((aS.box (.tail _ (.head _))).part (j := 0) (n := 5) (ee (by simp [Ck]))) rfl (.put rfl) ?_)
   refine At.cv vU (w7 x0.book eF uY aE aJ aL z9 Ck uH) ?_
   rintro _ _ _ ⟨rfl, rfl, rfl⟩
   refine At.vs 1 rfl rfl ?_
   refine At.dK ?_
   refine At.rg c6 ?_
   refine At.vs 3 rfl rfl ?_
   refine At.s rfl rfl (Ox.ngK rfl rfl rfl (.put rfl) ?_)
   refine At.s rfl rfl (Ox.max (a := iU.1) (l := [k7, i64 (0 - k7)]) rfl rfl rfl (.put rfl) ?_)
   refine At.vs 1 rfl rfl ?_
   refine At.dK ?_
   refine At.inBlock ?_
   refine At.rg aR ?_
   refine At.vs 2 rfl rfl ?_
   refine At.dK ?_
   exact At.drop (List.Sublist.cons _ (List.Sublist.refl _)) (MY _ (aa hM).symm _ _ _ ⟨rfl, rfl, ay.sub ⟨rfl, rfl, rfl, rfl, rfl, rfl, rfl, rfl, trivial⟩⟩)
  exact At.exit rfl (Oa _ (aa hM).symm _ _ _ ⟨rfl, rfl, ay.sub ⟨rfl, rfl, rfl, rfl, trivial⟩⟩)
 rintro sY aeB adL aBl ⟨rfl, rfl, Qr⟩ hM
 refine At.sub Qr ?_
 refine At.seq ?_
 refine At.rg cB ?_
 refine At.ld KG ((bC.sub (λ _ h => (List.Sublist.subset (List.Sublist.cons _ (List.Sublist.refl _))) h)).one (j := 0) rfl) ?_
 refine At.s rfl rfl (Ox.ck (vs := _) rfl rfl c8 (by simp [Ck]) ((aS.box (.head _)).part (j := 0) (n := 5) (ee (by simp [Ck]))) rfl (.put rfl) ?_)
 refine At.vs 1 rfl rfl ?_
 obtain ⟨a0, a1, a2, a3, a4, rfl⟩ := EL Ck
 refine At.cP rfl rfl rfl (Ox.build (cells := #[_, _, _, _, _, _]) rfl aBC rfl rfl rfl (.put rfl) ?_)
 obtain rfl := aa hM
 refine λ tmps ht => Own.stop _ _ _ _ ⟨_, acd rfl rfl rfl rfl rfl rfl ht ?_⟩
 show At (qN Tryz.prog B false (vN Tryz.prog B cd)) _ _ _ _ _
 refine At.dK ?_
 refine At.rg aR ?_
 refine At.ld TL ((bO.sub (λ _ h => (List.Sublist.subset (List.Sublist.cons _ (List.Sublist.refl _))) h)).one (j := 0) rfl) ?_
 exact λ tmps ht => Own.stop _ _ _ _ ⟨_, acd rfl rfl rfl rfl rfl rfl ht λ _ _ => ⟨5, abE Tryz.func147 rfl⟩⟩
end
end Go.Proofs.YtabamagholjdcaaGreatDoor
