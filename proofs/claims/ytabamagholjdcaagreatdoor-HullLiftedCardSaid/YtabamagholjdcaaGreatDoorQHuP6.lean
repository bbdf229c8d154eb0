/- Walks, part 6: each function computes its model. -/
import Derived.Test.YtabamagholjdcaaGreatDoorQHuP5
namespace Go.Proofs.YtabamagholjdcaaGreatDoor
open Go.Lg Go.Proofs
set_option maxRecDepth 100000
set_option maxHeartbeats 4000000
section
variable {B : Base} {main : Bool} {𝒥 : Jd Tryz.prog B main} {R : RMap} {H : HList}
theorem m37_ok (x0 : HullBook) (x1 : HullBook) {v0_3 v0_4 v0_5 v1_3 v1_4 v1_5 : Value} (h0_3 : SlR CHullPiece 5 R v0_3 x0.Pieces) (h0_4 : SlR CZ 1 R v0_4 x0.Out) (h0_5 : SlR CHullHeel 2 R v0_5 x0.Heels) (h1_3 : SlR CHullPiece 5 R v1_3 x1.Pieces) (h1_4 : SlR CZ 1 R v1_4 x1.Out) (h1_5 : SlR CHullHeel 2 R v1_5 x1.Heels) {r : Bool} (hM : m37 x0 x1 = some r) : FnOk 𝒥 37 #[.agg #[iv x0.Limit, iv x0.Ballast.Least, iv x0.Ballast.Most, v0_3, v0_4, v0_5], .agg #[iv x1.Limit, iv x1.Ballast.Least, iv x1.Ballast.Most, v1_3, v1_4, v1_5]] R H (fun v R' H' => R = R' ∧ H = H' ∧ v = .bool r) := by
 unfold m37 at hM
 refine FnOk.of_at Tryz.func37 rfl (n := 109) rfl rfl fun fr cs hk => ?_
 refine sg rg3 ?_
 refine bx fun b95 => ?_
 refine bx fun b96 => ?_
 refine vs 1 ?_
 refine es ?_
 refine sq ?_
 refine At.joinE1 hM (fun (p97_0 : Bool) R' H' st' => R = R' ∧ H' = (b96, .cells #[iv x1.Limit, iv x1.Ballast.Least, iv x1.Ballast.Most, v1_3, v1_4, v1_5] 28) :: (b95, .cells #[iv x0.Limit, iv x0.Ballast.Least, iv x0.Ballast.Most, v0_3, v0_4, v0_5] 28) :: H ∧ SubL st' [(2, .pointer (some ⟨b95, 0, none⟩)), (3, .pointer (some ⟨b96, 0, none⟩)), (46, .bool p97_0)])  ?_ ?_
 rotate_right
 ·intro x97 hM ex97_0
  refine At.rg rg38 ?_
  refine vs 1 ?_
  refine ld 0 one3 z1 ?_
  refine vs 1 ?_
  refine ld 0 one3 z0 ?_
  refine vs 2 ?_
  refine selC hM (fun ht103 hM => ?_) (fun ht103 hM => ?_)
  ·refine At.kn 14 ht103 ?_
   refine vs 32 ?_
   refine er ?_
   exact ex97_0 _ (sinj hM).symm _ _ _ ⟨rfl, rfl, SubT.sub ⟨rfl, rfl, rfl, trivial⟩⟩
  refine At.kn 14 ht103 ?_
  refine vs 1 ?_
  refine lN [_, _] 1 2 agg23 z1 ?_
  refine vs 1 ?_
  refine lN [_, _] 1 2 agg23 z0 ?_
  refine At.s rfl rfl (Ox.cmpAgg rfl rfl rfl grd23 (eqv23 _ _) rfl rfl (.put rfl) ?_)
  refine vs 2 ?_
  refine selC hM (fun ht104 hM => ?_) (fun ht104 hM => ?_)
  ·refine At.kn 21 ht104 ?_
   refine vs 25 ?_
   refine er ?_
   exact ex97_0 _ (sinj hM).symm _ _ _ ⟨rfl, rfl, SubT.sub ⟨rfl, rfl, rfl, trivial⟩⟩
  refine At.kn 21 ht104 ?_
  refine vs 1 ?_
  refine ld 3 one24 z1 ?_
  refine ls h0_3 Tryz.underlying24 ?_
  refine vs 1 ?_
  refine ld 3 one24 z0 ?_
  refine ls h1_3 Tryz.underlying24 ?_
  refine vs 3 ?_
  refine selC hM (fun ht105 hM => ?_) (fun ht105 hM => ?_)
  ·refine At.kn 30 ht105 ?_
   refine vs 16 ?_
   refine er ?_
   exact ex97_0 _ (sinj hM).symm _ _ _ ⟨rfl, rfl, SubT.sub ⟨rfl, rfl, rfl, trivial⟩⟩
  refine At.kn 30 ht105 ?_
  refine vs 1 ?_
  refine ld 5 one26 z1 ?_
  refine ls h0_5 Tryz.underlying26 ?_
  refine vs 1 ?_
  refine ld 5 one26 z0 ?_
  refine ls h1_5 Tryz.underlying26 ?_
  refine vs 3 ?_
  refine selC hM (fun ht106 hM => ?_) (fun ht106 hM => ?_)
  ·refine At.kn 39 ht106 ?_
   refine vs 7 ?_
   refine er ?_
   exact ex97_0 _ (sinj hM).symm _ _ _ ⟨rfl, rfl, SubT.sub ⟨rfl, rfl, rfl, trivial⟩⟩
  refine At.kn 39 ht106 ?_
  refine vs 1 ?_
  refine ld 4 one25 z1 ?_
  refine vs 1 ?_
  refine ld 4 one25 z0 ?_
  obtain ⟨x107, hx107, hM⟩ := bnd hM
  refine At.cv ent22 (m22_ok x0.Out x1.Out h0_4.rd h1_4.rd hx107) ?_
  rintro _ _ _ ⟨rfl, rfl, rfl⟩
  refine vs 2 ?_
  refine er ?_
  exact ex97_0 _ (sinj hM).symm _ _ _ ⟨rfl, rfl, SubT.sub ⟨rfl, rfl, rfl, trivial⟩⟩
 rintro p97_0 R97_0 H97_0 st97_0 ⟨rfl, rfl, hst97_0⟩ hM
 refine At.sub hst97_0 ?_
 refine sc hM (fun ht110 hM => ?_) (fun ht110 hM => ?_)
 ·refine sg rg1 ?_
  refine vs 1 ?_
  refine er ?_
  obtain rfl := sinj hM
  exact rt Tryz.func37 (.tmp rfl .nil) (so (so sr)) (hk _ _ _ ⟨rfl, rfl, rfl⟩)
 refine sp ?_
 refine sq ?_
 refine sg rg1 ?_
 refine vs 1 ?_
 refine er ?_
 refine At.block ?_
 refine At.loopE1R hM (fun (s111 : Int) R' H' st' => R = R' ∧ H' = (b96, .cells #[iv x1.Limit, iv x1.Ballast.Least, iv x1.Ballast.Most, v1_3, v1_4, v1_5] 28) :: (b95, .cells #[iv x0.Limit, iv x0.Ballast.Least, iv x0.Ballast.Most, v0_3, v0_4, v0_5] 28) :: H ∧ SubL st' [(2, .pointer (some ⟨b95, 0, none⟩)), (3, .pointer (some ⟨b96, 0, none⟩)), (5, iv s111)]) (fun (p111_0 : Unit) R' H' st' => R = R' ∧ H' = (b96, .cells #[iv x1.Limit, iv x1.Ballast.Least, iv x1.Ballast.Most, v1_3, v1_4, v1_5] 28) :: (b95, .cells #[iv x0.Limit, iv x0.Ballast.Least, iv x0.Ballast.Most, v0_3, v0_4, v0_5] 28) :: H ∧ SubL st' [(2, .pointer (some ⟨b95, 0, none⟩)), (3, .pointer (some ⟨b96, 0, none⟩))]) 0 rfl ⟨rfl, rfl, SubT.sub ⟨rfl, rfl, rfl, trivial⟩⟩ ?_ ?_
 rotate_right
 ·rintro s111 R111 H111 st111 ⟨rfl, rfl, hst111⟩ x111 hM again111 ex111_0 out111
  refine At.sub hst111 ?_
  refine sq ?_
  refine sg rg5 ?_
  refine vs 2 ?_
  refine ld 3 one24 z1 ?_
  refine ls h0_3 Tryz.underlying24 ?_
  refine vs 1 ?_
  refine er ?_
  refine sc hM (fun ht140 hM => ?_) (fun ht140 hM => ?_)
  ·refine sp ?_
   refine sq ?_
   refine At.block ?_
   refine sq ?_
   obtain ⟨x141, hx141, hM⟩ := bnd hM
   obtain ⟨x142, hx142, hM⟩ := bnd hM
   refine At.cut (fun R' H' st' => R = R' ∧ ∃ (b143 : Nat) (b144 : Nat) (vx141_4 : Value) (vx142_4 : Value), SlR CZ 1 R' vx141_4 x141.On ∧ SlR CZ 1 R' vx142_4 x142.On ∧ H' = (b144, .cells #[.string x142.Name, iv x142.Arm, iv x142.Weight.Least, iv x142.Weight.Most, vx142_4] 58) :: (b143, .cells #[.string x141.Name, iv x141.Arm, iv x141.Weight.Least, iv x141.Weight.Most, vx141_4] 58) :: (b96, .cells #[iv x1.Limit, iv x1.Ballast.Least, iv x1.Ballast.Most, v1_3, v1_4, v1_5] 28) :: (b95, .cells #[iv x0.Limit, iv x0.Ballast.Least, iv x0.Ballast.Most, v0_3, v0_4, v0_5] 28) :: H ∧ SubL st' [(2, .pointer (some ⟨b95, 0, none⟩)), (3, .pointer (some ⟨b96, 0, none⟩)), (5, iv s111), (6, .pointer (some ⟨b143, 0, none⟩)), (7, .pointer (some ⟨b144, 0, none⟩))]) ?_ ?_
   ·rintro Rc145 Hc145 stc145 ⟨rfl, b143, b144, vx141_4, vx142_4, hx141_4, hx142_4, rfl, hstc145⟩
    refine At.sub hstc145 ?_
    refine sg rg27 ?_
    refine vs 1 ?_
    refine ld 0 one9 z1 ?_
    refine vs 1 ?_
    refine ld 0 one9 z0 ?_
    refine At.s rfl rfl (Ox.cmpStr rfl rfl rfl rfl rfl (.put rfl) ?_)
    refine vs 1 ?_
    refine selC hM (fun ht146 hM => ?_) (fun ht146 hM => ?_)
    ·refine At.kn 69 ht146 ?_
     refine vs 21 ?_
     refine er ?_
     refine At.cond_true rfl ?_
     refine sg rg1 ?_
     refine vs 1 ?_
     refine er ?_
     replace hM := out111 _ (sinj hM).symm
     obtain rfl := sinj hM
     exact rt Tryz.func37 (.tmp rfl .nil) (so (so (so (so sr)))) (hk _ _ _ ⟨rfl, rfl, rfl⟩)
    refine At.kn 69 ht146 ?_
    refine vs 1 ?_
    refine ld 1 one3 z1 ?_
    refine vs 1 ?_
    refine ld 1 one3 z0 ?_
    refine vs 3 ?_
    refine selC hM (fun ht147 hM => ?_) (fun ht147 hM => ?_)
    ·refine At.kn 76 ht147 ?_
     refine vs 14 ?_
     refine er ?_
     refine At.cond_true rfl ?_
     refine sg rg1 ?_
     refine vs 1 ?_
     refine er ?_
     replace hM := out111 _ (sinj hM).symm
     obtain rfl := sinj hM
     exact rt Tryz.func37 (.tmp rfl .nil) (so (so (so (so sr)))) (hk _ _ _ ⟨rfl, rfl, rfl⟩)
    refine At.kn 76 ht147 ?_
    refine vs 1 ?_
    refine lN [_, _] 2 2 agg23 z1 ?_
    refine vs 1 ?_
    refine lN [_, _] 2 2 agg23 z0 ?_
    refine At.s rfl rfl (Ox.cmpAgg rfl rfl rfl grd23 (eqv23 _ _) rfl rfl (.put rfl) ?_)
    refine vs 2 ?_
    refine selC hM (fun ht148 hM => ?_) (fun ht148 hM => ?_)
    ·refine At.kn 83 ht148 ?_
     refine vs 7 ?_
     refine er ?_
     refine At.cond_true rfl ?_
     refine sg rg1 ?_
     refine vs 1 ?_
     refine er ?_
     replace hM := out111 _ (sinj hM).symm
     obtain rfl := sinj hM
     exact rt Tryz.func37 (.tmp rfl .nil) (so (so (so (so sr)))) (hk _ _ _ ⟨rfl, rfl, rfl⟩)
    refine At.kn 83 ht148 ?_
    refine vs 1 ?_
    refine ld 4 one25 z1 ?_
    refine vs 1 ?_
    refine ld 4 one25 z0 ?_
    obtain ⟨x149, hx149, hM⟩ := bnd hM
    refine At.cv ent22 (m22_ok x141.On x142.On hx141_4.rd hx142_4.rd hx149) ?_
    rintro _ _ _ ⟨rfl, rfl, rfl⟩
    refine vs 2 ?_
    refine er ?_
    refine sc hM (fun ht150 hM => ?_) (fun ht150 hM => ?_)
    ·refine sg rg1 ?_
     refine vs 1 ?_
     refine er ?_
     replace hM := out111 _ (sinj hM).symm
     obtain rfl := sinj hM
     exact rt Tryz.func37 (.tmp rfl .nil) (so (so (so (so sr)))) (hk _ _ _ ⟨rfl, rfl, rfl⟩)
    refine sp ?_
    refine At.inBlock ?_
    refine At.rg rg3 ?_
    refine vs 3 ?_
    refine er ?_
    exact At.drop (so (so sr)) (again111 _ (sinj hM).symm _ _ _ ⟨rfl, rfl, SubT.sub ⟨rfl, rfl, rfl, trivial⟩⟩)
   intro hcut145
   refine At.dw rg14 mixed ?_
   refine Any.vs 1 [0] rfl ?_
   refine tl 1 3 one24 z1 ?_
   refine Any.vs 1 [2] rfl ?_
   obtain ⟨bx141, ox141, _, ⟨vx141_4, hx141_4, rfl⟩, hcx141, hix141⟩ := h0_3.elem slice24 hx141
   refine Any.tk 3 rfl pp (fun R' H' hR hS => Ox.indexV rfl rfl rfl hix141 rfl (.one rfl) ⟨rfl, rfl, rfl⟩) ?_
   refine Any.tk 4 rfl pp (fun R' H' hR hS => Ox.loadN (vs := [_, _, _, _, _]) rfl rfl agg58 rfl ((hcx141.up hR).part (j := 0) (n := 5) rfl) rfl (.one rfl) ⟨rfl, rfl, rfl⟩) ?_
   refine Any.vs 1 [5] rfl ?_
   refine tl 6 3 one24 z0 ?_
   refine Any.vs 1 [7] rfl ?_
   obtain ⟨bx142, ox142, _, ⟨vx142_4, hx142_4, rfl⟩, hcx142, hix142⟩ := h1_3.elem slice24 hx142
   refine Any.tk 8 rfl pp (fun R' H' hR hS => Ox.indexV rfl rfl rfl hix142 rfl (.one rfl) ⟨rfl, rfl, rfl⟩) ?_
   refine Any.tk 9 rfl pp (fun R' H' hR hS => Ox.loadN (vs := [_, _, _, _, _]) rfl rfl agg58 rfl ((hcx142.up hR).part (j := 0) (n := 5) rfl) rfl (.one rfl) ⟨rfl, rfl, rfl⟩) ?_
   refine tw 10 11 ?_ ?_
   ·refine  (SemTo.to (Ox.alloc (cs := #[.string (⟨#[]⟩), iv 0, iv 0, iv 0, .slice none 0 0]) rfl zero58 rfl fun b143 _ _ => ⟨_, (.put rfl), ⟨rr, (ku (so sr)), ?_⟩⟩))
    refine Any.on 11 rfl rfl (SemTo.to (Ox.alloc (cs := #[.string (⟨#[]⟩), iv 0, iv 0, iv 0, .slice none 0 0]) rfl zero58 rfl fun b144 _ _ => ⟨_, (.put rfl), ⟨rr, (ku (so (so sr))), ?_⟩⟩))
    refine Any.on 12 rfl rfl (SemTo.to (Ox.storeN (cs' := #[_, _, _, _, _]) rfl rfl rfl agg58 rfl (ones_cons rfl (ones_cons rfl (ones_cons rfl (ones_cons rfl (ones_cons hx141_4.one ones_nil))))) (.there .here) rfl rfl rfl (.refl _) ⟨rr, (ku (so (so sr))), ?_⟩))
    refine Any.on 13 rfl rfl (SemTo.to (Ox.storeN (cs' := #[_, _, _, _, _]) rfl rfl rfl agg58 rfl (ones_cons rfl (ones_cons rfl (ones_cons rfl (ones_cons rfl (ones_cons hx142_4.one ones_nil))))) .here rfl rfl rfl (.refl _) ⟨rr, (ku (so (so sr))), ?_⟩))
    exact Any.done (hcut145 _ _ _ ⟨rfl, b143, b144, vx141_4, vx142_4, hx141_4, hx142_4, rfl, SubT.sub ⟨rfl, rfl, rfl, rfl, rfl, trivial⟩⟩)
   refine  (SemTo.to (Ox.alloc (cs := #[.string (⟨#[]⟩), iv 0, iv 0, iv 0, .slice none 0 0]) rfl zero58 rfl fun b144 _ _ => ⟨_, (.put rfl), ⟨rr, (ku (so sr)), ?_⟩⟩))
   refine Any.on 10 rfl rfl (SemTo.to (Ox.alloc (cs := #[.string (⟨#[]⟩), iv 0, iv 0, iv 0, .slice none 0 0]) rfl zero58 rfl fun b143 _ _ => ⟨_, (.put rfl), ⟨rr, (ku (so (so sr))), ?_⟩⟩))
   refine Any.on 12 rfl rfl (SemTo.to (Ox.storeN (cs' := #[_, _, _, _, _]) rfl rfl rfl agg58 rfl (ones_cons rfl (ones_cons rfl (ones_cons rfl (ones_cons rfl (ones_cons hx141_4.one ones_nil))))) .here rfl rfl rfl (.refl _) ⟨rr, (ku (so (so sr))), ?_⟩))
   refine Any.on 13 rfl rfl (SemTo.to (Ox.storeN (cs' := #[_, _, _, _, _]) rfl rfl rfl agg58 rfl (ones_cons rfl (ones_cons rfl (ones_cons rfl (ones_cons rfl (ones_cons hx142_4.one ones_nil))))) (.there .here) rfl rfl rfl (.refl _) ⟨rr, (ku (so (so sr))), ?_⟩))
   exact Any.done (At.perm (swCC _ _ _) (hcut145 _ _ _ ⟨rfl, b143, b144, vx141_4, vx142_4, hx141_4, hx142_4, rfl, SubT.sub ⟨rfl, rfl, rfl, rfl, rfl, trivial⟩⟩))
  exact At.exit rfl (ex111_0 _ (sinj hM).symm _ _ _ ⟨rfl, rfl, SubT.sub ⟨rfl, rfl, trivial⟩⟩)
 rintro p111_0 R111_0 H111_0 st111_0 ⟨rfl, rfl, hst111_0⟩ hM
 refine At.sub hst111_0 ?_
 refine sq ?_
 refine sg rg1 ?_
 refine vs 1 ?_
 refine er ?_
 refine At.block ?_
 refine At.loopE1R hM (fun (s151 : Int) R' H' st' => R = R' ∧ H' = (b96, .cells #[iv x1.Limit, iv x1.Ballast.Least, iv x1.Ballast.Most, v1_3, v1_4, v1_5] 28) :: (b95, .cells #[iv x0.Limit, iv x0.Ballast.Least, iv x0.Ballast.Most, v0_3, v0_4, v0_5] 28) :: H ∧ SubL st' [(2, .pointer (some ⟨b95, 0, none⟩)), (3, .pointer (some ⟨b96, 0, none⟩)), (8, iv s151)]) (fun (p151_0 : Unit) R' H' st' => R = R' ∧ H = H' ∧ SubL st' []) 2 rfl ⟨rfl, rfl, SubT.sub ⟨rfl, rfl, rfl, trivial⟩⟩ ?_ ?_
 rotate_right
 ·rintro s151 R151 H151 st151 ⟨rfl, rfl, hst151⟩ x151 hM again151 ex151_0 out151
  refine At.sub hst151 ?_
  refine sq ?_
  refine sg rg5 ?_
  refine vs 2 ?_
  refine ld 5 one26 z1 ?_
  refine ls h0_5 Tryz.underlying26 ?_
  refine vs 1 ?_
  refine er ?_
  refine sc hM (fun ht166 hM => ?_) (fun ht166 hM => ?_)
  ·refine sp ?_
   refine sq ?_
   refine At.block ?_
   refine sq ?_
   refine At.dw rg11 mixed ?_
   refine Any.vs 1 [0] rfl ?_
   refine tl 1 5 one26 z1 ?_
   refine Any.vs 1 [2] rfl ?_
   obtain ⟨x167, hx167, hM⟩ := bnd hM
   obtain ⟨x168, hx168, hM⟩ := bnd hM
   obtain ⟨bx167, ox167, _, rfl, hcx167, hix167⟩ := h0_5.elem slice26 hx167
   refine Any.tk 3 rfl pp (fun R' H' hR hS => Ox.indexV rfl rfl rfl hix167 rfl (.one rfl) ⟨rfl, rfl, rfl⟩) ?_
   refine Any.tk 4 rfl pp (fun R' H' hR hS => Ox.loadN (vs := [_, _]) rfl rfl agg47 rfl ((hcx167.up hR).part (j := 0) (n := 2) rfl) rfl (.one rfl) ⟨rfl, rfl, rfl⟩) ?_
   refine Any.vs 1 [5] rfl ?_
   refine tl 6 5 one26 z0 ?_
   refine Any.vs 1 [7] rfl ?_
   obtain ⟨bx168, ox168, _, rfl, hcx168, hix168⟩ := h1_5.elem slice26 hx168
   refine Any.tk 8 rfl pp (fun R' H' hR hS => Ox.indexV rfl rfl rfl hix168 rfl (.one rfl) ⟨rfl, rfl, rfl⟩) ?_
   refine Any.tk 9 rfl pp (fun R' H' hR hS => Ox.loadN (vs := [_, _]) rfl rfl agg47 rfl ((hcx168.up hR).part (j := 0) (n := 2) rfl) rfl (.one rfl) ⟨rfl, rfl, rfl⟩) ?_
   refine Any.tk 10 rfl pp (fun R' H' hR hS => Ox.cmpAgg rfl rfl rfl grd47 (eqv47 _ _) rfl rfl (.one rfl) ⟨rfl, rfl, rfl⟩) ?_
   refine Any.done ?_
   refine sc hM (fun ht169 hM => ?_) (fun ht169 hM => ?_)
   ·refine sg rg1 ?_
    refine vs 1 ?_
    refine er ?_
    replace hM := out151 _ (sinj hM).symm
    obtain rfl := sinj hM
    exact rt Tryz.func37 (.tmp rfl .nil) (so (so sr)) (hk _ _ _ ⟨rfl, rfl, rfl⟩)
   refine sp ?_
   refine At.inBlock ?_
   refine At.rg rg3 ?_
   refine vs 3 ?_
   refine er ?_
   exact again151 _ (sinj hM).symm _ _ _ ⟨rfl, rfl, SubT.sub ⟨rfl, rfl, rfl, trivial⟩⟩
  exact At.exit rfl (At.drop (so (so sr)) (ex151_0 _ (sinj hM).symm _ _ _ ⟨rfl, rfl, SubT.sub trivial⟩))
 rintro p151_0 R151_0 H151_0 st151_0 ⟨rfl, rfl, hst151_0⟩ hM
 refine At.sub hst151_0 ?_
 refine sg rg1 ?_
 refine vs 1 ?_
 refine er ?_
 obtain rfl := sinj hM
 exact rt Tryz.func37 (.tmp rfl .nil) sr (hk _ _ _ ⟨rfl, rfl, rfl⟩)
theorem m42_ok (x0 : HullBook) {v0_3 v0_4 v0_5 : Value} (h0_3 : SlR CHullPiece 5 R v0_3 x0.Pieces) (h0_4 : SlR CZ 1 R v0_4 x0.Out) (h0_5 : SlR CHullHeel 2 R v0_5 x0.Heels) {r : Bool} (hM : m42 x0 = some r) : FnOk 𝒥 42 #[.agg #[iv x0.Limit, iv x0.Ballast.Least, iv x0.Ballast.Most, v0_3, v0_4, v0_5]] R H (fun v R' H' => R = R' ∧ H = H' ∧ v = .bool r) := by
 unfold m42 at hM
 refine FnOk.of_at Tryz.func42 rfl (n := 11) rfl rfl fun fr cs hk => ?_
 refine sg rg2 ?_
 refine bx fun b24 => ?_
 refine vs 1 ?_
 refine nx rg9 ?_
 refine lN [_, _, _, _, _, _] 0 6 agg28 z0 ?_
 obtain ⟨x25, hx25, hM⟩ := bnd hM
 refine At.cv ent18 (m18_ok x0 h0_3 h0_4 h0_5 hx25) ?_
 rintro _ _ _ ⟨rfl, rfl, rfl⟩
 refine vs 2 ?_
 refine selC hM (fun ht26 hM => ?_) (fun ht26 hM => ?_)
 ·refine At.kn 6 ht26 ?_
  refine lN [_, _, _, _, _, _] 0 6 agg28 z0 ?_
  obtain ⟨x27, hx27, hM⟩ := bnd hM
  refine At.cv ent61 (m61_ok x0 h0_3 h0_4 h0_5 hx27) ?_
  rintro _ _ _ ⟨rfl, rfl, rfl⟩
  refine vs 3 ?_
  refine er ?_
  obtain rfl := sinj hM
  exact rt Tryz.func42 (.tmp rfl .nil) (so sr) (hk _ _ _ ⟨rfl, rfl, rfl⟩)
 refine At.kn 6 ht26 ?_
 refine vs 5 ?_
 refine er ?_
 obtain rfl := sinj hM
 exact rt Tryz.func42 (.tmp rfl .nil) (so sr) (hk _ _ _ ⟨rfl, rfl, rfl⟩)
theorem m48_ok (x0 : (List Int)) (x1 : Int) {v0 : Value} (h0 : RdS (CI .u16) 1 R H v0 x0) {r : Int} (hM : m48 x0 x1 = some r) : FnOk 𝒥 48 #[v0, iv x1] R H (fun v R' H' => R = R' ∧ H = H' ∧ v = iv r) := by
 unfold m48 at hM
 refine FnOk.of_at Tryz.func48 rfl (n := 14) rfl rfl fun fr cs hk => ?_
 refine sg rg1 ?_
 refine vs 1 ?_
 refine es ?_
 refine sg rg4 ?_
 refine vs 2 ?_
 refine lr h0 Tryz.underlying63 ?_
 refine vs 1 ?_
 refine er ?_
 refine sc hM (fun ht22 hM => ?_) (fun ht22 hM => ?_)
 ·refine sg rg6 ?_
  refine vs 2 ?_
  obtain ⟨x23, hx23, hM⟩ := bnd hM
  obtain ⟨bx23, ox23, _, rfl, hcx23, hix23⟩ := h0.elem slice63 hx23
  refine At.s rfl rfl (Ox.indexV rfl rfl rfl hix23 rfl (.put rfl) ?_)
  refine At.ld one157 ((hcx23.sub pp).one (j := 0) rfl) ?_
  refine At.s rfl rfl (Ox.convI rfl rfl Tryz.underlying157 Tryz.underlying3 rfl (.put rfl) ?_)
  refine vs 1 ?_
  refine er ?_
  obtain rfl := sinj hM
  exact rt Tryz.func48 (.tmp rfl .nil) sr (hk _ _ _ ⟨rfl, rfl, rfl⟩)
 refine sp ?_
 refine sg rg1 ?_
 refine vs 1 ?_
 refine er ?_
 obtain rfl := sinj hM
 exact rt Tryz.func48 (.tmp rfl .nil) sr (hk _ _ _ ⟨rfl, rfl, rfl⟩)
theorem m51_ok (x0 : (List Int)) {v0 : Value} (h0 : RdS CZ 1 R H v0 x0) {r : (List Int)} (hM : m51 x0 = some r) : FnOk 𝒥 51 #[v0] R H (fun v R' H' => RLe R R' ∧ H = H' ∧ ∃ vr0, SlR CZ 1 R' vr0 r ∧ v = vr0) := by
 unfold m51 at hM
 refine FnOk.of_at Tryz.func51 rfl (n := 60) rfl rfl fun fr cs hk => ?_
 refine sg rg1 ?_
 refine vs 1 ?_
 refine nx rg1 ?_
 refine vs 1 ?_
 refine es ?_
 refine sg rg1 ?_
 refine vs 1 ?_
 refine er ?_
 refine At.block ?_
 refine At.loopE1 hM (fun (s121 : ((List Int) × Int)) R' H' st' => R = R' ∧ ∃ v121s_0 Hs121s_0, OwnSl CZ 1 3 R' v121s_0 s121.1 Hs121s_0 ∧ H' = Hs121s_0 ++ (H) ∧ SubL st' [(0, v0), (3, v121s_0), (4, iv s121.2)]) (fun (p121_0 : (List Int)) R' H' st' => R = R' ∧ ∃ v121_0_0 Hs121_0_0, OwnSl CZ 1 3 R' v121_0_0 p121_0 Hs121_0_0 ∧ H' = Hs121_0_0 ++ (H) ∧ SubL st' [(3, v121_0_0)]) 0 rfl ⟨rfl, .slice none 0 0, [], OwnSl.nil, rfl, SubT.sub ⟨rfl, rfl, rfl, trivial⟩⟩ ?_ ?_
 rotate_right
 ·rintro s121 R121 H121 st121 ⟨rfl, v121s_0, Hs121s_0, ho121s_0, rfl, hst121⟩ x121 hM again121 ex121_0
  refine At.sub hst121 ?_
  refine sq ?_
  refine sg rg4 ?_
  refine vs 2 ?_
  refine lr h0 Tryz.underlying25 ?_
  refine vs 1 ?_
  refine er ?_
  refine sc hM (fun ht190 hM => ?_) (fun ht190 hM => ?_)
  ·refine sp ?_
   refine sq ?_
   refine At.block ?_
   refine sg rg1 ?_
   refine vs 1 ?_
   refine es ?_
   refine At.block ?_
   refine At.loopE1 hM (fun (s191 : Int) R' H' st' => R = R' ∧ H' = Hs121s_0 ++ (H) ∧ SubL st' [(0, v0), (3, v121s_0), (4, iv s121.2), (5, iv s191)]) (fun (p191_0 : Int) R' H' st' => R = R' ∧ H' = Hs121s_0 ++ (H) ∧ SubL st' [(0, v0), (3, v121s_0), (4, iv s121.2), (5, iv p191_0)]) 2 rfl ⟨rfl, rfl, SubT.sub ⟨rfl, rfl, rfl, rfl, trivial⟩⟩ ?_ ?_
   rotate_right
   ·rintro s191 R191 H191 st191 ⟨rfl, rfl, hst191⟩ x191 hM again191 ex191_0
    refine At.sub hst191 ?_
    refine sq ?_
    refine sq ?_
    refine At.dw rg15 mixed ?_
    refine Any.vs 2 [0, 1] rfl ?_
    refine Any.tk 2 rfl pp (fun R' H' hR hS => Ox.lenO rfl rfl (ho121s_0.mono hR) Tryz.underlying25 rfl (.one rfl) ⟨rfl, rfl, rfl⟩) ?_
    refine Any.vs 2 [3, 4] rfl ?_
    refine selC hM (fun ht200 hM => ?_) (fun ht200 hM => ?_)
    ·refine Any.known (t := 16) rfl ht200 ?_
     refine Any.vs 2 [5, 6] rfl ?_
     obtain ⟨x201, hx201, hM⟩ := bnd hM
     obtain ⟨x202, hx202, hM⟩ := bnd hM
     obtain ⟨bx201, ox201, _, rfl, hcx201, hix201⟩ := (ho121s_0.rd (fun _ h => (List.mem_append_left _ h))).elem slice25 hx201
     refine Any.tk 7 rfl pp (fun R' H' hR hS => Ox.indexV rfl rfl rfl hix201 rfl (.one rfl) ⟨rfl, rfl, rfl⟩) ?_
     refine Any.tk 8 rfl pp (fun R' H' hR hS => Ox.load1 rfl rfl one3 (((hcx201.le hR).sub (fun p h => hS p (pp p h))).one (j := 0) rfl) rfl (.one rfl) ⟨rfl, rfl, rfl⟩) ?_
     refine Any.vs 2 [9, 10] rfl ?_
     obtain ⟨bx202, ox202, _, rfl, hcx202, hix202⟩ := h0.elem slice25 hx202
     refine Any.tk 11 rfl pp (fun R' H' hR hS => Ox.indexV rfl rfl rfl hix202 rfl (.one rfl) ⟨rfl, rfl, rfl⟩) ?_
     refine Any.tk 12 rfl pp (fun R' H' hR hS => Ox.load1 rfl rfl one3 (((hcx202.le hR).sub (fun p h => hS p ((su (subDrop sr)) p h))).one (j := 0) rfl) rfl (.one rfl) ⟨rfl, rfl, rfl⟩) ?_
     refine Any.vs 2 [13, 14] rfl ?_
     refine Any.done ?_
     refine sc hM (fun ht203 hM => ?_) (fun ht203 hM => ?_)
     ·refine sp ?_
      refine At.block ?_
      refine At.rg rg3 ?_
      refine vs 3 ?_
      refine er ?_
      refine At.inBlock ?_
      exact again191 _ (sinj hM).symm _ _ _ ⟨rfl, rfl, SubT.sub ⟨rfl, rfl, rfl, rfl, trivial⟩⟩
     exact At.exit rfl (ex191_0 _ (sinj hM).symm _ _ _ ⟨rfl, rfl, SubT.sub ⟨rfl, rfl, rfl, rfl, trivial⟩⟩)
    refine Any.known (t := 16) rfl ht200 ?_
    refine Any.vs 10 [5, 6, 7, 8, 9, 10, 11, 12, 13, 14] rfl ?_
    refine Any.done ?_
    refine At.cond_false rfl ?_
    exact At.exit rfl (ex191_0 _ (sinj hM).symm _ _ _ ⟨rfl, rfl, SubT.sub ⟨rfl, rfl, rfl, rfl, trivial⟩⟩)
   rintro p191_0 R191_0 H191_0 st191_0 ⟨rfl, rfl, hst191_0⟩ hM
   refine At.sub hst191_0 ?_
   refine sq ?_
   refine At.joinE1 hM (fun (p204_0 : Bool) R' H' st' => R = R' ∧ H' = Hs121s_0 ++ (H) ∧ SubL st' [(0, v0), (3, v121s_0), (4, iv s121.2), (5, iv p191_0), (43, .bool p204_0)])  ?_ ?_
   rotate_right
   ·intro x204 hM ex204_0
    refine At.dw rg15 mixed ?_
    refine Any.vs 2 [0, 1] rfl ?_
    refine Any.tk 2 rfl pp (fun R' H' hR hS => Ox.lenO rfl rfl (ho121s_0.mono hR) Tryz.underlying25 rfl (.one rfl) ⟨rfl, rfl, rfl⟩) ?_
    refine Any.vs 2 [3, 4] rfl ?_
    refine selC hM (fun ht208 hM => ?_) (fun ht208 hM => ?_)
    ·refine Any.known (t := 33) rfl ht208 ?_
     refine Any.vs 10 [5, 6, 7, 8, 9, 10, 11, 12, 13, 14] rfl ?_
     refine Any.done ?_
     exact ex204_0 _ (sinj hM).symm _ _ _ ⟨rfl, rfl, SubT.sub ⟨rfl, rfl, rfl, rfl, rfl, trivial⟩⟩
    refine Any.known (t := 33) rfl ht208 ?_
    refine Any.vs 2 [5, 6] rfl ?_
    obtain ⟨x209, hx209, hM⟩ := bnd hM
    obtain ⟨x210, hx210, hM⟩ := bnd hM
    obtain ⟨bx209, ox209, _, rfl, hcx209, hix209⟩ := (ho121s_0.rd (fun _ h => (List.mem_append_left _ h))).elem slice25 hx209
    refine Any.tk 7 rfl pp (fun R' H' hR hS => Ox.indexV rfl rfl rfl hix209 rfl (.one rfl) ⟨rfl, rfl, rfl⟩) ?_
    refine Any.tk 8 rfl pp (fun R' H' hR hS => Ox.load1 rfl rfl one3 (((hcx209.le hR).sub (fun p h => hS p (pp p h))).one (j := 0) rfl) rfl (.one rfl) ⟨rfl, rfl, rfl⟩) ?_
    refine Any.vs 2 [9, 10] rfl ?_
    obtain ⟨bx210, ox210, _, rfl, hcx210, hix210⟩ := h0.elem slice25 hx210
    refine Any.tk 11 rfl pp (fun R' H' hR hS => Ox.indexV rfl rfl rfl hix210 rfl (.one rfl) ⟨rfl, rfl, rfl⟩) ?_
    refine Any.tk 12 rfl pp (fun R' H' hR hS => Ox.load1 rfl rfl one3 (((hcx210.le hR).sub (fun p h => hS p ((su (subDrop sr)) p h))).one (j := 0) rfl) rfl (.one rfl) ⟨rfl, rfl, rfl⟩) ?_
    refine Any.vs 2 [13, 14] rfl ?_
    refine Any.done ?_
    exact ex204_0 _ (sinj hM).symm _ _ _ ⟨rfl, rfl, SubT.sub ⟨rfl, rfl, rfl, rfl, rfl, trivial⟩⟩
   rintro p204_0 R204_0 H204_0 st204_0 ⟨rfl, rfl, hst204_0⟩ hM
   refine At.sub hst204_0 ?_
   refine sc hM (fun ht211 hM => ?_) (fun ht211 hM => ?_)
   ·obtain ⟨x213, hx213, hM⟩ := bnd hM
    obtain ⟨x214, hx214, hM⟩ := bnd hM
    obtain ⟨x215, hx215, hM⟩ := bnd hM
    obtain ⟨x217, hx217, hM⟩ := bnd hM
    obtain ⟨x218, hx218, hM⟩ := bnd hM
    obtain ⟨x219, hx219, hM⟩ := bnd hM
    refine At.cut (fun R' H' st' => R = R' ∧ ∃ (vx219 : Value) (Hsx219 : HList), OwnSl CZ 1 3 R' vx219 x219 Hsx219 ∧ H' = Hsx219 ++ (H) ∧ SubL st' [(0, v0), (3, vx219), (4, iv s121.2)]) ?_ ?_
    ·rintro Rc220 Hc220 stc220 ⟨rfl, vx219, Hsx219, hox219, rfl, hstc220⟩
     refine At.sub hstc220 ?_
     refine At.inBlock ?_
     refine At.rg rg3 ?_
     refine vs 3 ?_
     refine er ?_
     exact again121 _ (sinj hM).symm _ _ _ ⟨rfl, vx219, Hsx219, hox219, rfl, SubT.sub ⟨rfl, rfl, rfl, trivial⟩⟩
    intro hcut220
    refine At.dw rg16 mixed ?_
    refine Any.vs 2 [1, 2] rfl ?_
    obtain ⟨vx213, hx213s, hkx213⟩ := (ho121s_0.rd (fun _ h => (List.mem_append_left _ h))).cut slice25 hx213
    refine Any.tk 3 rfl pp (fun R' H' hR hS => Ox.cutV rfl rfl rfl rfl hkx213 rfl (.one rfl) ⟨rfl, rfl, rfl⟩) ?_
    refine Any.vs 2 [5, 6] rfl ?_
    obtain ⟨bx215, ox215, _, rfl, hcx215, hix215⟩ := h0.elem slice25 hx215
    refine Any.tk 7 rfl pp (fun R' H' hR hS => Ox.indexV rfl rfl rfl hix215 rfl (.one rfl) ⟨rfl, rfl, rfl⟩) ?_
    refine Any.tk 8 rfl pp (fun R' H' hR hS => Ox.load1 rfl rfl one3 (((hcx215.le hR).sub (fun p h => hS p ((su (subDrop sr)) p h))).one (j := 0) rfl) rfl (.one rfl) ⟨rfl, rfl, rfl⟩) ?_
    refine Any.vs 2 [11, 12] rfl ?_
    obtain ⟨vx218, hx218s, hkx218⟩ := (ho121s_0.rd (fun _ h => (List.mem_append_left _ h))).cut slice25 hx218
    refine Any.tk 13 rfl pp (fun R' H' hR hS => Ox.cutV rfl rfl rfl rfl hkx218 rfl (.one rfl) ⟨rfl, rfl, rfl⟩) ?_
    refine tw 0 9 ?_ ?_
    ·refine  (SemTo.to (Ox.buildSlice (cells := #[]) rfl elem25 rfl (by decide) base25_0 fill_nil rfl fun b212 _ _ => ⟨_, (.put rfl), ⟨rr, (ku (so sr)), ?_⟩⟩))
     refine tw 4 9 ?_ ?_
     ·refine  (SemTo.to (Ox.append (K := CZ) (fun X => X ++ (Hs121s_0 ++ (H))) rfl rfl rfl app25 Tryz.underlying25 (by simp) .id (OwnSl.lit (Enc.le Enc.nil rfl) rfl) (hx213s.sub (su (so sr))).arg hx214 rfl fun vx214 Hsx214 hox214 => ⟨_, (.put rfl), ⟨rr, (ku (subDrop sr)), ?_⟩⟩))
      refine Any.on 9 rfl rfl (SemTo.to (Ox.buildSlice (cells := #[_]) rfl elem25 rfl (by decide) base25_1 (fill_cons rfl rfl rfl rfl fill_nil) rfl fun b216 _ _ => ⟨_, (.put rfl), ⟨rr, (ku (so (subDrop sr))), ?_⟩⟩))
      refine Any.on 10 rfl rfl (SemTo.to (Ox.append (K := CZ) (fun X => (b216, _) :: X ++ (Hs121s_0 ++ (H))) rfl rfl rfl app25 Tryz.underlying25 (by simp) (.cons .id) hox214 (ArgSl.lit z0 (Enc.le (Enc.cons (x := x215) rfl rfl Enc.nil) rfl) rfl) hx217 rfl fun vx217 Hsx217 hox217 => ⟨_, (.put rfl), ⟨rr, (ku (so (subDrop sr))), ?_⟩⟩))
      refine Any.on 14 rfl rfl (SemTo.to (Ox.append (K := CZ) (fun X => (b216, _) :: X ++ (Hs121s_0 ++ (H))) rfl rfl rfl app25 Tryz.underlying25 (by simp) (.cons .id) hox217 (hx218s.sub (su (so (subDrop sr)))).arg hx219 rfl fun vx219 Hsx219 hox219 => ⟨_, (.put rfl), ⟨rr, (ku (so (subDrop sr))), ?_⟩⟩))
      refine Any.vs 1 [15] rfl ?_
      exact Any.done (At.drop (so (subKeep (subDrop sr))) (hcut220 _ _ _ ⟨rfl, vx219, Hsx219, hox219, rfl, SubT.sub ⟨rfl, rfl, rfl, trivial⟩⟩))
     refine  (SemTo.to (Ox.buildSlice (cells := #[_]) rfl elem25 rfl (by decide) base25_1 (fill_cons rfl rfl rfl rfl fill_nil) rfl fun b216 _ _ => ⟨_, (.put rfl), ⟨rr, (ku (so (so sr))), ?_⟩⟩))
     refine Any.on 4 rfl rfl (SemTo.to (Ox.append (K := CZ) (fun X => (b216, _) :: X ++ (Hs121s_0 ++ (H))) rfl rfl rfl app25 Tryz.underlying25 (by simp) (.cons .id) (OwnSl.lit (Enc.le Enc.nil rfl) rfl) (hx213s.sub (su (so (so sr)))).arg hx214 rfl fun vx214 Hsx214 hox214 => ⟨_, (.put rfl), ⟨rr, (ku (so (subDrop sr))), ?_⟩⟩))
     refine Any.on 10 rfl rfl (SemTo.to (Ox.append (K := CZ) (fun X => (b216, _) :: X ++ (Hs121s_0 ++ (H))) rfl rfl rfl app25 Tryz.underlying25 (by simp) (.cons .id) hox214 (ArgSl.lit z0 (Enc.le (Enc.cons (x := x215) rfl rfl Enc.nil) rfl) rfl) hx217 rfl fun vx217 Hsx217 hox217 => ⟨_, (.put rfl), ⟨rr, (ku (so (subDrop sr))), ?_⟩⟩))
     refine Any.on 14 rfl rfl (SemTo.to (Ox.append (K := CZ) (fun X => (b216, _) :: X ++ (Hs121s_0 ++ (H))) rfl rfl rfl app25 Tryz.underlying25 (by simp) (.cons .id) hox217 (hx218s.sub (su (so (subDrop sr)))).arg hx219 rfl fun vx219 Hsx219 hox219 => ⟨_, (.put rfl), ⟨rr, (ku (so (subDrop sr))), ?_⟩⟩))
     refine Any.vs 1 [15] rfl ?_
     exact Any.done (At.drop (so (subKeep (subDrop sr))) (hcut220 _ _ _ ⟨rfl, vx219, Hsx219, hox219, rfl, SubT.sub ⟨rfl, rfl, rfl, trivial⟩⟩))
    refine  (SemTo.to (Ox.buildSlice (cells := #[_]) rfl elem25 rfl (by decide) base25_1 (fill_cons rfl rfl rfl rfl fill_nil) rfl fun b216 _ _ => ⟨_, (.put rfl), ⟨rr, (ku (so sr)), ?_⟩⟩))
    refine Any.on 0 rfl rfl (SemTo.to (Ox.buildSlice (cells := #[]) rfl elem25 rfl (by decide) base25_0 fill_nil rfl fun b212 _ _ => ⟨_, (.put rfl), ⟨rr, (ku (so (so sr))), ?_⟩⟩))
    refine Any.on 4 rfl rfl (SemTo.to (Ox.append (K := CZ) (fun X => X ++ ((b216, _) :: Hs121s_0 ++ (H))) rfl rfl rfl app25 Tryz.underlying25 (by simp) .id (OwnSl.lit (Enc.le Enc.nil rfl) rfl) (hx213s.sub (su (so (so sr)))).arg hx214 rfl fun vx214 Hsx214 hox214 => ⟨_, (.put rfl), ⟨rr, (ku (subDrop (so sr))), ?_⟩⟩))
    refine Any.on 10 rfl rfl (SemTo.to (Ox.append (K := CZ) (fun X => X ++ ((b216, _) :: Hs121s_0 ++ (H))) rfl rfl rfl app25 Tryz.underlying25 (by simp) .id hox214 (ArgSl.lit (List.mem_append_right _ z0) (Enc.le (Enc.cons (x := x215) rfl rfl Enc.nil) rfl) rfl) hx217 rfl fun vx217 Hsx217 hox217 => ⟨_, (.put rfl), ⟨rr, (ku (subDrop (so sr))), ?_⟩⟩))
    refine Any.on 14 rfl rfl (SemTo.to (Ox.append (K := CZ) (fun X => X ++ ((b216, _) :: Hs121s_0 ++ (H))) rfl rfl rfl app25 Tryz.underlying25 (by simp) .id hox217 (hx218s.sub (su (subDrop (so sr)))).arg hx219 rfl fun vx219 Hsx219 hox219 => ⟨_, (.put rfl), ⟨rr, (ku (subDrop (so sr))), ?_⟩⟩))
    refine Any.vs 1 [15] rfl ?_
    exact Any.done (At.drop (subKeep (so (subDrop sr))) (hcut220 _ _ _ ⟨rfl, vx219, Hsx219, hox219, rfl, SubT.sub ⟨rfl, rfl, rfl, trivial⟩⟩))
   refine sp ?_
   refine At.inBlock ?_
   refine At.rg rg3 ?_
   refine vs 3 ?_
   refine er ?_
   exact again121 _ (sinj hM).symm _ _ _ ⟨rfl, v121s_0, Hs121s_0, ho121s_0, rfl, SubT.sub ⟨rfl, rfl, rfl, trivial⟩⟩
  exact At.exit rfl (ex121_0 _ (sinj hM).symm _ _ _ ⟨rfl, v121s_0, Hs121s_0, ho121s_0, rfl, SubT.sub ⟨rfl, trivial⟩⟩)
 rintro p121_0 R121_0 H121_0 st121_0 ⟨rfl, v121_0_0, Hs121_0_0, ho121_0_0, rfl, hst121_0⟩ hM
 refine At.sub hst121_0 ?_
 refine sg rg2 ?_
 refine vs 2 ?_
 refine er ?_
 refine At.freezeOwn (H2 := H) (fun X => X ++ (H)) .id rfl ho121_0_0 (fun Rf221 hRf221 hf221 => ?_)
 obtain rfl := sinj hM
 exact rt Tryz.func51 (.tmp rfl .nil) sr (hk _ _ _ ⟨hRf221, rfl, v121_0_0, hf221, rfl⟩)
theorem m54_ok (x0 : HullBook) (x1 : (List Int)) {v0_3 v0_4 v0_5 v1 : Value} (h0_3 : SlR CHullPiece 5 R v0_3 x0.Pieces) (h0_4 : SlR CZ 1 R v0_4 x0.Out) (h0_5 : SlR CHullHeel 2 R v0_5 x0.Heels) (h1 : RdS (CI .u16) 1 R H v1 x1) {r : (List Int)} (hM : m54 x0 x1 = some r) : FnOk 𝒥 54 #[.agg #[iv x0.Limit, iv x0.Ballast.Least, iv x0.Ballast.Most, v0_3, v0_4, v0_5], v1] R H (fun v R' H' => RLe R R' ∧ H = H' ∧ ∃ vr0, SlR CZ 1 R' vr0 r ∧ v = vr0) := by
 unfold m54 at hM
 refine FnOk.of_at Tryz.func54 rfl (n := 46) rfl rfl fun fr cs hk => ?_
 refine sg rg2 ?_
 refine bx fun b71 => ?_
 refine vs 1 ?_
 refine nx rg1 ?_
 refine vs 1 ?_
 refine nx rg5 ?_
 refine At.s rfl rfl (Ox.buildSlice (cells := #[]) rfl elem25 rfl (by decide) base25_0 fill_nil rfl fun b72 _ _ => ⟨_, (.put rfl), ?_⟩)
 refine vs 1 ?_
 refine ld 4 one25 z1 ?_
 obtain ⟨x73, hx73, hM⟩ := bnd hM
 refine At.s rfl rfl (Ox.append (K := CZ) (fun X => X ++ ((b71, _) :: H)) rfl rfl rfl app25 Tryz.underlying25 (by simp) .id (OwnSl.lit (Enc.le Enc.nil rfl) rfl) h0_4.arg hx73 rfl fun vx73 Hsx73 hox73 => ⟨_, (.put rfl), ?_⟩)
 refine vs 1 ?_
 refine es ?_
 refine At.block ?_
 refine At.loopE1R hM (fun (s74 : ((List Int) × (List Int))) R' H' st' => RLe R R' ∧ ∃ v74s_0 Hs74s_0 v74s_1 Hs74s_1, OwnSl CZ 1 3 R' v74s_0 s74.1 Hs74s_0 ∧ OwnSl CZ 1 3 R' v74s_1 s74.2 Hs74s_1 ∧ H' = Hs74s_0 ++ (Hs74s_1 ++ ((b71, .cells #[iv x0.Limit, iv x0.Ballast.Least, iv x0.Ballast.Most, v0_3, v0_4, v0_5] 28) :: H)) ∧ SubL st' [(1, v1), (2, .pointer (some ⟨b71, 0, none⟩)), (5, v74s_0), (6, v74s_1)]) (fun (p74_0 : (List Int)) R' H' st' => RLe R R' ∧ ∃ v74_0_0 Hs74_0_0, OwnSl CZ 1 3 R' v74_0_0 p74_0 Hs74_0_0 ∧ H' = Hs74_0_0 ++ (H) ∧ SubL st' [(5, v74_0_0)]) 0 rfl ⟨rr, .slice none 0 0, [], vx73, Hsx73, OwnSl.nil, hox73, rfl, SubT.sub ⟨rfl, rfl, rfl, rfl, trivial⟩⟩ ?_ ?_
 rotate_right
 ·rintro s74 R74 H74 st74 ⟨hR74, v74s_0, Hs74s_0, v74s_1, Hs74s_1, ho74s_0, ho74s_1, rfl, hst74⟩ x74 hM again74 ex74_0 out74
  refine At.sub hst74 ?_
  replace h0_3 := h0_3.mono hR74
  replace h0_4 := h0_4.mono hR74
  replace h0_5 := h0_5.mono hR74
  replace h1 := h1.le hR74
  refine sq ?_
  refine sg rg6 ?_
  refine vs 1 ?_
  refine At.s rfl rfl (Ox.lenO rfl rfl ho74s_1 Tryz.underlying25 rfl (.put rfl) ?_)
  refine vs 1 ?_
  refine At.ld one24 ((CellsAt.box (List.mem_append_right _ (List.mem_append_right _ z0))).one (j := 3) rfl) ?_
  refine ls h0_3 Tryz.underlying24 ?_
  refine vs 1 ?_
  refine er ?_
  refine sc hM (fun ht107 hM => ?_) (fun ht107 hM => ?_)
  ·refine sp ?_
   refine At.block ?_
   refine sg rg4 ?_
   refine At.s rfl rfl (Ox.loadN (vs := [_, _, _, _, _, _]) rfl rfl agg28 rfl ((CellsAt.box (List.mem_append_right _ (List.mem_append_right _ z0))).part (j := 0) (n := 6) rfl) rfl (.put rfl) ?_)
   refine vs 1 ?_
   obtain ⟨x108, hx108, hM⟩ := bnd hM
   refine At.cv ent96 (m96_ok x0 s74.2 h0_3 h0_4 h0_5 (ho74s_1.rd (fun _ h => (List.mem_append_right _ (List.mem_append_left _ h)))) hx108) ?_
   rintro vx108r0 Rx108 _ ⟨hRx108, rfl, _, hx108r0, rfl⟩
   replace h1 := h1.le hRx108
   replace ho74s_0 := ho74s_0.mono hRx108
   replace ho74s_1 := ho74s_1.mono hRx108
   refine vs 1 ?_
   refine es ?_
   refine sg rg3 ?_
   refine vs 1 ?_
   refine ls hx108r0 Tryz.underlying25 ?_
   refine vs 1 ?_
   refine er ?_
   refine sc hM (fun ht112 hM => ?_) (fun ht112 hM => ?_)
   ·refine sg rg2 ?_
    refine vs 2 ?_
    refine er ?_
    refine At.freezeOwn (H2 := Hs74s_1 ++ ((b71, _) :: H)) (fun X => X ++ (Hs74s_1 ++ ((b71, _) :: H))) .id rfl ho74s_0 (fun Rf113 hRf113 hf113 => ?_)
    replace hM := out74 _ (sinj hM).symm
    obtain rfl := sinj hM
    exact rt Tryz.func54 (.tmp rfl .nil) (subDrop (so sr)) (hk _ _ _ ⟨((hR74.trans hRx108).trans hRf113), rfl, v74s_0, hf113, rfl⟩)
   refine sp ?_
   refine sg rg12 ?_
   refine vs 3 ?_
   refine At.s rfl rfl (Ox.lenO rfl rfl ho74s_0 Tryz.underlying25 rfl (.put rfl) ?_)
   refine vs 1 ?_
   obtain ⟨x114, hx114, hM⟩ := bnd hM
   refine At.cv ent48 (m48_ok x1 (i64 (6 + (s74.1.length : Int))) (h1.sub (su (subDrop (subDrop (so sr))))) hx114) ?_
   rintro _ _ _ ⟨rfl, rfl, rfl⟩
   refine vs 1 ?_
   refine ls hx108r0 Tryz.underlying25 ?_
   obtain ⟨x115, hx115, hM⟩ := bnd hM
   refine At.s rfl rfl (Ox.rem rfl rfl rfl hx115 rfl (.put rfl) ?_)
   obtain ⟨x116, hx116, hM⟩ := bnd hM
   obtain ⟨bx116, ox116, _, rfl, hcx116, hix116⟩ := hx108r0.elem slice25 hx116
   refine At.s rfl rfl (Ox.indexV rfl rfl rfl hix116 rfl (.put rfl) ?_)
   refine At.ld one3 (hcx116.any.one (j := 0) rfl) ?_
   refine vs 1 ?_
   refine er ?_
   refine At.rg rg10 ?_
   refine vs 2 ?_
   refine At.s rfl rfl (Ox.buildSlice (cells := #[_]) rfl elem25 rfl (by decide) base25_1 (fill_cons rfl rfl rfl rfl fill_nil) rfl fun b117 _ _ => ⟨_, (.put rfl), ?_⟩)
   obtain ⟨x118, hx118, hM⟩ := bnd hM
   refine At.s rfl rfl (Ox.append (K := CZ) (fun X => (b117, _) :: X ++ (Hs74s_1 ++ ((b71, _) :: H))) rfl rfl rfl app25 Tryz.underlying25 (by simp) (.cons .id) ho74s_0 (ArgSl.lit z0 (Enc.le (Enc.cons (x := x116) rfl rfl Enc.nil) rfl) rfl) hx118 rfl fun vx118 Hsx118 hox118 => ⟨_, (.put rfl), ?_⟩)
   refine vs 2 ?_
   refine At.s rfl rfl (Ox.buildSlice (cells := #[_]) rfl elem25 rfl (by decide) base25_1 (fill_cons rfl rfl rfl rfl fill_nil) rfl fun b119 _ _ => ⟨_, (.put rfl), ?_⟩)
   obtain ⟨x120, hx120, hM⟩ := bnd hM
   refine At.s rfl rfl (Ox.append (K := CZ) (fun X => (b119, _) :: (b117, _) :: Hsx118 ++ (X ++ ((b71, _) :: H))) rfl rfl rfl app25 Tryz.underlying25 (by simp) (.cons (.cons (.app .id))) ho74s_1 (ArgSl.lit z0 (Enc.le (Enc.cons (x := x116) rfl rfl Enc.nil) rfl) rfl) hx120 rfl fun vx120 Hsx120 hox120 => ⟨_, (.put rfl), ?_⟩)
   refine vs 2 ?_
   refine er ?_
   refine At.inBlock ?_
   exact At.drop (so (so sr)) (again74 _ (sinj hM).symm _ _ _ ⟨(hR74.trans hRx108), vx118, Hsx118, vx120, Hsx120, hox118, hox120, rfl, SubT.sub ⟨rfl, rfl, rfl, rfl, trivial⟩⟩)
  exact At.exit rfl (At.drop (subKeep (subDrop (so sr))) (ex74_0 _ (sinj hM).symm _ _ _ ⟨hR74, v74s_0, Hs74s_0, ho74s_0, rfl, SubT.sub ⟨rfl, trivial⟩⟩))
 rintro p74_0 R74_0 H74_0 st74_0 ⟨hR74_0, v74_0_0, Hs74_0_0, ho74_0_0, rfl, hst74_0⟩ hM
 refine At.sub hst74_0 ?_
 refine sg rg2 ?_
 refine vs 2 ?_
 refine er ?_
 refine At.freezeOwn (H2 := H) (fun X => X ++ (H)) .id rfl ho74_0_0 (fun Rf121 hRf121 hf121 => ?_)
 obtain rfl := sinj hM
 exact rt Tryz.func54 (.tmp rfl .nil) sr (hk _ _ _ ⟨(hR74_0.trans hRf121), rfl, v74_0_0, hf121, rfl⟩)
theorem m57_ok (x0 : HullBook) (x1 : (List Int)) {v0_3 v0_4 v0_5 v1 : Value} (h0_3 : SlR CHullPiece 5 R v0_3 x0.Pieces) (h0_4 : SlR CZ 1 R v0_4 x0.Out) (h0_5 : SlR CHullHeel 2 R v0_5 x0.Heels) (h1 : RdS CZ 1 R H v1 x1) {r : Bool} (hM : m57 x0 x1 = some r) : FnOk 𝒥 57 #[.agg #[iv x0.Limit, iv x0.Ballast.Least, iv x0.Ballast.Most, v0_3, v0_4, v0_5], v1] R H (fun v R' H' => R = R' ∧ H = H' ∧ v = .bool r) := by
 unfold m57 at hM
 refine FnOk.of_at Tryz.func57 rfl (n := 9) rfl rfl fun fr cs hk => ?_
 refine sg rg2 ?_
 refine bx fun b22 => ?_
 refine vs 1 ?_
 refine nx rg5 ?_
 refine lN [_, _, _, _, _, _] 0 6 agg28 z0 ?_
 refine vs 1 ?_
 obtain ⟨x23, hx23, hM⟩ := bnd hM
 refine At.cv ent105 (m105_ok x0 x1 h0_3 h0_4 h0_5 (h1.sub (su (so sr))) hx23) ?_
 rintro _ _ _ ⟨rfl, rfl, rfl⟩
 refine vs 2 ?_
 refine er ?_
 obtain rfl := sinj hM
 exact rt Tryz.func57 (.tmp rfl .nil) (so sr) (hk _ _ _ ⟨rfl, rfl, rfl⟩)
end
end Go.Proofs.YtabamagholjdcaaGreatDoor
