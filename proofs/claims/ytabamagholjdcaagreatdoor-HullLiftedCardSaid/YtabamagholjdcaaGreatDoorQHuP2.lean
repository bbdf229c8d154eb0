/- Walks, part 2: each function computes its model. -/
import Derived.Test.YtabamagholjdcaaGreatDoorQHuP1
namespace Go.Proofs.YtabamagholjdcaaGreatDoor
open Go.Lg Go.Proofs
set_option maxRecDepth 100000
set_option maxHeartbeats 4000000
section
variable {B : Base} {main : Bool} {𝒥 : Jd Tryz.prog B main} {R : RMap} {H : HList}
theorem m98_ok (x0 : HullBook) (x1 : (List Int)) {v0_3 v0_4 v0_5 v1 : Value} {b1 : Nat} (h0_3 : SlR CHullPiece 5 R v0_3 x0.Pieces) (h0_4 : SlR CZ 1 R v0_4 x0.Out) (h0_5 : SlR CHullHeel 2 R v0_5 x0.Heels) (hc1 : CellsAt R H b1 0 [v1]) (h1 : SlR CZ 1 R v1 x1) {r : Int} (hM : m98 x0 x1 = some r) : FnOk 𝒥 98 #[.agg #[iv x0.Limit, iv x0.Ballast.Least, iv x0.Ballast.Most, v0_3, v0_4, v0_5], .pointer (some ⟨b1, 0, none⟩)] R H (fun v R' H' => RLe R R' ∧ H = H' ∧ v = iv r) := by
 unfold m98 at hM
 refine FnOk.of_at Tryz.func98 rfl (n := 32) rfl rfl fun fr cs hk => ?_
 refine sg rg2 ?_
 refine bx fun b29 => ?_
 refine vs 1 ?_
 refine es ?_
 refine sq ?_
 obtain ⟨x30, hx30, hM⟩ := bnd hM
 obtain ⟨x31, hx31, hM⟩ := bnd hM
 refine At.cut (fun R' H' st' => RLe R R' ∧ H' = (b29, .cells #[iv x0.Limit, iv x0.Ballast.Least, iv x0.Ballast.Most, v0_3, v0_4, v0_5] 102) :: H ∧ SubL st' [(1, .pointer (some ⟨b1, 0, none⟩)), (2, .pointer (some ⟨b29, 0, none⟩)), (5, iv x31.2)]) ?_ ?_
 ·rintro Rc33 Hc33 stc33 ⟨hRc33, rfl, hstc33⟩
  refine At.sub hstc33 ?_
  replace h0_3 := h0_3.mono hRc33
  replace h0_4 := h0_4.mono hRc33
  replace h1 := h1.mono hRc33
  replace hc1 := hc1.le hRc33
  refine sg rg2 ?_
  refine vs 2 ?_
  refine er ?_
  refine sc hM (fun ht36 hM => ?_) (fun ht36 hM => ?_)
  ·refine sg rg2 ?_
   refine vs 2 ?_
   refine er ?_
   obtain rfl := sinj hM
   exact rt Tryz.func98 (.tmp rfl .nil) (so sr) (hk _ _ _ ⟨hRc33, rfl, rfl⟩)
  refine sp ?_
  refine sq ?_
  refine sg rg12 ?_
  refine vs 2 ?_
  refine ld 4 one25 z0 ?_
  refine ls h0_4 Tryz.underlying25 ?_
  refine At.ld one25 ((hc1.sub (su (so sr))).one (j := 0) rfl) ?_
  refine ls h1 Tryz.underlying25 ?_
  refine vs 3 ?_
  refine ld 3 one24 z0 ?_
  refine ls h0_3 Tryz.underlying24 ?_
  refine vs 1 ?_
  refine er ?_
  refine sc hM (fun ht37 hM => ?_) (fun ht37 hM => ?_)
  ·refine sg rg1 ?_
   refine vs 1 ?_
   refine er ?_
   obtain rfl := sinj hM
   exact rt Tryz.func98 (.tmp rfl .nil) (so sr) (hk _ _ _ ⟨hRc33, rfl, rfl⟩)
  refine sp ?_
  refine sg rg1 ?_
  refine vs 1 ?_
  refine er ?_
  obtain rfl := sinj hM
  exact rt Tryz.func98 (.tmp rfl .nil) (so sr) (hk _ _ _ ⟨hRc33, rfl, rfl⟩)
 intro hcut33
 refine At.dw rg14 mixed ?_
 refine tN 0 [_, _, _, _, _, _] 0 6 agg102 z0 ?_
 refine Any.tk 1 rfl pp (fun R' H' hR hS => Ox.buildZ (z := (List.toArray ([] ++ ([false, false, false, false, false].map Value.bool ++ [])))) rfl arrz112 rfl (.one rfl) ⟨rfl, rfl, rfl⟩) ?_
 refine Any.vs 2 [2, 3] rfl ?_
 refine tl 4 4 one25 z0 ?_
 refine Any.tk 6 rfl pp (fun R' H' hR hS => Ox.load1 rfl rfl one25 (((hc1.le hR).sub (fun p h => hS p ((su (so sr)) p h))).one (j := 0) rfl) rfl (.one rfl) ⟨rfl, rfl, rfl⟩) ?_
 refine tw 5 11 ?_ ?_
 ·refine  (Ox.callV rfl rfl rfl rfl ent93 rfl rfl ((m93_ok [false, false, false, false, false] x0.Out rfl h0_4.rd hx30).mono ?_))
  rintro _ _ _ ⟨rfl, rfl, lx30r0, rfl⟩
  refine ⟨_, (.put rfl), ⟨rr, ka, ?_⟩⟩
  refine tw 7 11 ?_ ?_
  ·refine  (Ox.callV rfl rfl rfl rfl ent99 rfl rfl ((m99_ok x0 x30 x1 h0_3 h0_4 h0_5 lx30r0 h1.rd hx31).mono ?_))
   rintro _ Rx31 _ ⟨hRx31, rfl, lx31r0, rfl⟩
   replace hc1 := hc1.le hRx31
   refine ⟨_, (.put rfl), ⟨hRx31, ka, ?_⟩⟩
   refine Any.vs 3 [8, 9, 10] rfl ?_
   refine Any.on 11 rfl rfl (SemTo.to (Ox.alloc (cs := (List.toArray ([] ++ ([false, false, false, false, false].map Value.bool ++ [])))) rfl zero112 rfl fun b32 _ _ => ⟨_, (.put rfl), ⟨rr, (ku (so sr)), ?_⟩⟩))
   refine Any.on 12 rfl rfl (SemTo.to (Ox.storeN (cs' := _) rfl rfl rfl agg112 (by simp [lx31r0]) (ones_app ones_nil (ones_app (ones_map fun _ => rfl) ones_nil)) .here (by simp) (putCells_whole (by simp [lx31r0])) rfl (.refl _) ⟨rr, (ku (so sr)), ?_⟩))
   refine Any.vs 1 [13] rfl ?_
   exact Any.done (At.drop (so sr) (hcut33 _ _ _ ⟨hRx31, rfl, SubT.sub ⟨rfl, rfl, rfl, trivial⟩⟩))
  refine  (SemTo.to (Ox.alloc (cs := (List.toArray ([] ++ ([false, false, false, false, false].map Value.bool ++ [])))) rfl zero112 rfl fun b32 _ _ => ⟨_, (.put rfl), ⟨rr, (ku (so sr)), ?_⟩⟩))
  refine Any.cv 7 ent99 (m99_ok x0 x30 x1 h0_3 h0_4 h0_5 lx30r0 h1.rd hx31) ?_
  rintro _ Rx31 _ ⟨hRx31, rfl, lx31r0, rfl⟩
  replace hc1 := hc1.le hRx31
  refine ⟨hRx31, (ku (so sr)), ?_⟩
  refine Any.vs 3 [8, 9, 10] rfl ?_
  refine Any.on 12 rfl rfl (SemTo.to (Ox.storeN (cs' := _) rfl rfl rfl agg112 (by simp [lx31r0]) (ones_app ones_nil (ones_app (ones_map fun _ => rfl) ones_nil)) .here (by simp) (putCells_whole (by simp [lx31r0])) rfl (.refl _) ⟨rr, (ku (so sr)), ?_⟩))
  refine Any.vs 1 [13] rfl ?_
  exact Any.done (At.drop (so sr) (hcut33 _ _ _ ⟨hRx31, rfl, SubT.sub ⟨rfl, rfl, rfl, trivial⟩⟩))
 refine  (SemTo.to (Ox.alloc (cs := (List.toArray ([] ++ ([false, false, false, false, false].map Value.bool ++ [])))) rfl zero112 rfl fun b32 _ _ => ⟨_, (.put rfl), ⟨rr, (ku (so sr)), ?_⟩⟩))
 refine Any.cv 5 ent93 (m93_ok [false, false, false, false, false] x0.Out rfl h0_4.rd hx30) ?_
 rintro _ _ _ ⟨rfl, rfl, lx30r0, rfl⟩
 refine ⟨rr, (ku (so sr)), ?_⟩
 refine Any.cv 7 ent99 (m99_ok x0 x30 x1 h0_3 h0_4 h0_5 lx30r0 h1.rd hx31) ?_
 rintro _ Rx31 _ ⟨hRx31, rfl, lx31r0, rfl⟩
 replace hc1 := hc1.le hRx31
 refine ⟨hRx31, (ku (so sr)), ?_⟩
 refine Any.vs 3 [8, 9, 10] rfl ?_
 refine Any.on 12 rfl rfl (SemTo.to (Ox.storeN (cs' := _) rfl rfl rfl agg112 (by simp [lx31r0]) (ones_app ones_nil (ones_app (ones_map fun _ => rfl) ones_nil)) .here (by simp) (putCells_whole (by simp [lx31r0])) rfl (.refl _) ⟨rr, (ku (so sr)), ?_⟩))
 refine Any.vs 1 [13] rfl ?_
 exact Any.done (At.drop (so sr) (hcut33 _ _ _ ⟨hRx31, rfl, SubT.sub ⟨rfl, rfl, rfl, trivial⟩⟩))
theorem m100_ok (x0 : Opened) (x1 : (Cargo → Option Bool)) {v0_3 v0_4 v0_5 v0_6 v0_7 v1 : Value} (_ : SlR CHullPiece 5 R v0_3 x0.book.Pieces) (_ : SlR CZ 1 R v0_4 x0.book.Out) (_ : SlR CHullHeel 2 R v0_5 x0.book.Heels) (h0_6 : SlR CCargo 6 R v0_6 x0.alls) (_ : MapR R v0_7 x0.worsts) (h1 : FunR 𝒥 R H (VAgg CCargo) VB v1 x1) {r : Int} (hM : m100 x0 x1 = some r) : FnOk 𝒥 100 #[.agg #[iv x0.book.Limit, iv x0.book.Ballast.Least, iv x0.book.Ballast.Most, v0_3, v0_4, v0_5, v0_6, v0_7], v1] R H (fun v R' H' => RLe R R' ∧ H = H' ∧ v = iv r) := by
 unfold m100 at hM
 refine FnOk.of_at Tryz.func100 rfl (n := 29) rfl rfl fun fr cs hk => ?_
 refine sg rg2 ?_
 refine bx fun b45 => ?_
 refine vs 1 ?_
 refine nx rg1 ?_
 refine vs 1 ?_
 refine es ?_
 refine sg rg4 ?_
 refine vs 1 ?_
 refine ld 6 one103 z0 ?_
 refine ls h0_6 Tryz.underlying103 ?_
 refine vs 1 ?_
 refine er ?_
 refine At.block ?_
 refine At.loopE1 hM (fun (s46 : (Int × Int)) R' H' st' => RLe R R' ∧ H' = (b45, .cells #[iv x0.book.Limit, iv x0.book.Ballast.Least, iv x0.book.Ballast.Most, v0_3, v0_4, v0_5, v0_6, v0_7] 106) :: H ∧ SubL st' [(1, v1), (2, .pointer (some ⟨b45, 0, none⟩)), (5, iv s46.1), (9, v0_6), (10, iv (x0.alls.length : Int)), (11, iv s46.2)]) (fun (p46_0 : Int) R' H' st' => RLe R R' ∧ H' = (b45, .cells #[iv x0.book.Limit, iv x0.book.Ballast.Least, iv x0.book.Ballast.Most, v0_3, v0_4, v0_5, v0_6, v0_7] 106) :: H ∧ SubL st' [(2, .pointer (some ⟨b45, 0, none⟩)), (5, iv p46_0)]) 0 rfl ⟨rr, rfl, SubT.sub ⟨rfl, rfl, rfl, rfl, rfl, rfl, trivial⟩⟩ ?_ ?_
 rotate_right
 ·rintro s46 R46 H46 st46 ⟨hR46, rfl, hst46⟩ x46 hM again46 ex46_0
  refine At.sub hst46 ?_
  replace h0_6 := h0_6.mono hR46
  replace h1 := h1.up hR46 pp
  refine sg rg1 ?_
  refine vs 1 ?_
  refine es ?_
  refine sc hM (fun ht63 hM => ?_) (fun ht63 hM => ?_)
  ·refine sp ?_
   refine sq ?_
   refine At.block ?_
   refine sg rg4 ?_
   obtain ⟨x64, hx64, hM⟩ := bnd hM
   obtain ⟨bx64, ox64, _, ⟨lx64_1, rfl⟩, hcx64, hix64⟩ := h0_6.elem slice103 hx64
   refine At.s rfl rfl (Ox.indexV rfl rfl rfl hix64 rfl (.put rfl) ?_)
   refine At.s rfl rfl (Ox.loadN (vs := _) rfl rfl agg125 (by simp [lx64_1]) (hcx64.any.part (j := 0) (n := 6) (take_all (by simp [lx64_1]))) rfl (.put rfl) ?_)
   refine At.s rfl rfl (Ox.alloc (cs := (List.toArray ([iv 0] ++ ([0, 0, 0, 0, 0].map (Value.int .i64) ++ [])))) rfl zero125 rfl fun b65 _ _ => ⟨_, (.put rfl), ?_⟩)
   refine At.s rfl rfl (Ox.storeN (cs' := _) rfl rfl rfl agg125 (by simp [lx64_1]) (ones_app (ones_cons rfl ones_nil) (ones_app (ones_map fun _ => rfl) ones_nil)) .here (by simp) (putCells_whole (by simp [lx64_1])) rfl (.refl _) ?_)
   refine nx rg3 ?_
   refine vs 1 ?_
   refine At.s rfl rfl (Ox.loadN (vs := _) rfl rfl agg125 (by simp [lx64_1]) ((CellsAt.box z0).part (j := 0) (n := 6) (take_all (by simp [lx64_1]))) rfl (.put rfl) ?_)
   obtain ⟨x66, hx66, hM⟩ := bnd hM
   refine At.step rfl rfl rfl (Ox.callFun h1 rfl rfl rfl ⟨_, rfl, ⟨lx64_1, rfl⟩⟩ hx66 rfl (su (so (so sr))) ?_)
   rintro _ Rx66 hRx66 rfl
   replace h1 := h1.up hRx66 pp
   refine ⟨_, (.put rfl), ?_⟩
   refine er ?_
   refine sc hM (fun ht67 hM => ?_) (fun ht67 hM => ?_)
   ·refine At.rg rg3 ?_
    refine vs 3 ?_
    refine er ?_
    refine At.inBlock ?_
    refine At.rg rg2 ?_
    refine vs 2 ?_
    refine er ?_
    exact At.drop (so sr) (again46 _ (sinj hM).symm _ _ _ ⟨(hR46.trans hRx66), rfl, SubT.sub ⟨rfl, rfl, rfl, rfl, rfl, rfl, trivial⟩⟩)
   refine sp ?_
   refine At.inBlock ?_
   refine At.rg rg2 ?_
   refine vs 2 ?_
   refine er ?_
   exact At.drop (so sr) (again46 _ (sinj hM).symm _ _ _ ⟨(hR46.trans hRx66), rfl, SubT.sub ⟨rfl, rfl, rfl, rfl, rfl, rfl, trivial⟩⟩)
  exact At.exit rfl (ex46_0 _ (sinj hM).symm _ _ _ ⟨hR46, rfl, SubT.sub ⟨rfl, rfl, trivial⟩⟩)
 rintro p46_0 R46_0 H46_0 st46_0 ⟨hR46_0, rfl, hst46_0⟩ hM
 refine At.sub hst46_0 ?_
 replace h0_6 := h0_6.mono hR46_0
 refine sq ?_
 refine sg rg1 ?_
 refine vs 1 ?_
 refine er ?_
 refine At.block ?_
 refine sg rg2 ?_
 refine vs 2 ?_
 refine er ?_
 refine sc hM (fun ht68 hM => ?_) (fun ht68 hM => ?_)
 ·refine sg rg1 ?_
  refine vs 1 ?_
  refine er ?_
  obtain rfl := sinj hM
  exact rt Tryz.func100 (.tmp rfl .nil) (so sr) (hk _ _ _ ⟨hR46_0, rfl, rfl⟩)
 refine sg rg5 ?_
 refine vs 1 ?_
 refine ld 6 one103 z0 ?_
 refine ls h0_6 Tryz.underlying103 ?_
 refine vs 2 ?_
 refine er ?_
 refine sc hM (fun ht69 hM => ?_) (fun ht69 hM => ?_)
 ·refine sg rg1 ?_
  refine vs 1 ?_
  refine er ?_
  obtain rfl := sinj hM
  exact rt Tryz.func100 (.tmp rfl .nil) (so sr) (hk _ _ _ ⟨hR46_0, rfl, rfl⟩)
 refine sp ?_
 refine At.inBlock ?_
 refine sg rg1 ?_
 refine vs 1 ?_
 refine er ?_
 obtain rfl := sinj hM
 exact rt Tryz.func100 (.tmp rfl .nil) (so sr) (hk _ _ _ ⟨hR46_0, rfl, rfl⟩)
theorem m101_ok (x0 : Cargo) (x1 : Opened) (x2 : (List Int)) {v1_3 v1_4 v1_5 v1_6 v1_7 v2 : Value} {b1 b2 : Nat} (l0_1 : x0.weights.length = 5) (hc1 : CellsAt R H b1 0 [iv x1.book.Limit, iv x1.book.Ballast.Least, iv x1.book.Ballast.Most, v1_3, v1_4, v1_5, v1_6, v1_7]) (h1_3 : SlR CHullPiece 5 R v1_3 x1.book.Pieces) (h1_4 : SlR CZ 1 R v1_4 x1.book.Out) (h1_5 : SlR CHullHeel 2 R v1_5 x1.book.Heels) (_ : SlR CCargo 6 R v1_6 x1.alls) (_ : MapR R v1_7 x1.worsts) (hc2 : CellsAt R H b2 0 [v2]) (h2 : SlR CZ 1 R v2 x2) {r : Bool} (hM : m101 x0 x1 x2 = some r) : FnOk 𝒥 101 #[.agg (List.toArray ([iv x0.ballast] ++ (x0.weights.map (Value.int .i64) ++ []))), .pointer (some ⟨b1, 0, none⟩), .pointer (some ⟨b2, 0, none⟩)] R H (fun v R' H' => RLe R R' ∧ H = H' ∧ v = .bool r) := by
 unfold m101 at hM
 refine FnOk.of_at Tryz.func101 rfl (n := 19) rfl rfl fun fr cs hk => ?_
 refine sg rg2 ?_
 refine bx fun b32 => ?_
 refine At.s rfl rfl (Ox.alloc (cs := #[.bool false]) rfl zero4 rfl fun b33 _ _ => ⟨_, (.put rfl), ?_⟩)
 refine es ?_
 refine sg rg4 ?_
 refine vs 1 ?_
 refine At.s rfl rfl (Ox.loadN (vs := [_, _, _, _, _, _]) rfl rfl agg102 rfl ((hc1.sub (su (so (so sr)))).part (j := 0) (n := 6) rfl) rfl (.put rfl) ?_)
 refine At.ld one25 ((hc2.sub (su (so (so sr)))).one (j := 0) rfl) ?_
 obtain ⟨x34, hx34, hM⟩ := bnd hM
 refine At.cv ent102 (m102_ok x1.book x2 h1_3 h1_4 h1_5 h2 hx34) ?_
 rintro _ Rx34 _ ⟨hRx34, rfl, vx34r0c0_3, vx34r0c0_4, vx34r0c0_5, bx34r0c0, vx34r0c1, bx34r0c1, hx34r0c0q, hx34r0c0_3, hx34r0c0_4, hx34r0c0_5, hx34r0c1q, hx34r0c1, rfl⟩
 replace h1_3 := h1_3.mono hRx34
 replace h1_4 := h1_4.mono hRx34
 replace h1_5 := h1_5.mono hRx34
 replace hc1 := hc1.le hRx34
 replace hc2 := hc2.le hRx34
 refine er ?_
 refine At.block ?_
 refine At.rangeF1 (A := (VAgg (CArr Value.bool 5))) (fun y s => m151 y x34.1 x34.2 s) .ret hM rfl ent151 rfl rfl rfl (fun (s35 : Unit) R' T H' => RLe Rx34 R' ∧ H' = (b33, .cells #[.bool false] 4) :: (b32, .cells (List.toArray ([iv x0.ballast] ++ (x0.weights.map (Value.int .i64) ++ []))) 125) :: T) (fun (p35_0 : Unit) R' T H' => RLe Rx34 R' ∧ H' = (b33, .cells #[.bool false] 4) :: T) (fun s35 R0 T0 H0 q => by obtain ⟨hR, rfl⟩ := q; exact ⟨(b33, .cells #[.bool false] 4) :: (b32, .cells (List.toArray ([iv x0.ballast] ++ (x0.weights.map (Value.int .i64) ++ []))) 125) :: [], by simp, fun R1 T1 h => ⟨hR.trans h, by simp⟩⟩) (fun p35_0 R0 T0 H0 q => by obtain ⟨hR, rfl⟩ := q; exact ⟨(b33, .cells #[.bool false] 4) :: [], by simp, fun R1 T1 h => ⟨hR.trans h, by simp⟩⟩) (fun v Inv Hy z hY hI hz => (m151_ok hY x34.1 x34.2 hI hx34r0c0q hx34r0c0_3 hx34r0c0_4 hx34r0c0_5 hx34r0c1q hx34r0c1 hz).mono fun _ _ _ h => ⟨h.1, h.2.1⟩) ⟨rr, rfl⟩ ?_ ?_ ?_
 ·rintro r35 s35 R35 H35q _ ⟨hR35, rfl⟩ hM
  replace hc1 := hc1.le hR35
  refine At.inBlock ?_
  refine sg rg1 ?_
  refine At.s rfl rfl (Ox.store1 (cs' := #[_]) rfl rfl rfl one4 rfl .here rfl rfl rfl (.refl _) ?_)
  refine er ?_
  obtain rfl := sinj hM
  exact At.retD (.there (.there .here)) Tryz.func101 (.one rfl one4 ((CellsAt.box z0).one (j := 0) rfl) .nil) (J.drop (so (so (so sr))) (hk _ _ _ ⟨(hRx34.trans hR35), rfl, rfl⟩))
 ·rintro r35 p35_0 R35_0 H35q _ ⟨hR35_0, rfl⟩ hM
  obtain rfl := sinj hM
  exact At.retD (.there .here) Tryz.func101 (.one rfl one4 ((CellsAt.box z0).one (j := 0) rfl) .nil) (J.drop (so (so sr)) (hk _ _ _ ⟨(hRx34.trans hR35_0), rfl, rfl⟩))
 rintro va35 x35e s35 R35 T35 H35 l35 ld35 cs35 _ hT35 ⟨_, rfl, ⟨lx35e, rfl⟩⟩ ⟨hR35, rfl⟩ hld35 z35 hM again35 ex35_0
 replace h1_3 := h1_3.mono hR35
 replace h1_4 := h1_4.mono hR35
 replace h1_5 := h1_5.mono hR35
 replace hc1 := hc1.le hR35
 replace hc1 := hc1.sub (List.Sublist.subset hT35)
 refine At.rg rg2 ?_
 refine At.s rfl rfl (Ox.alloc (cs := (List.toArray ([] ++ ([false, false, false, false, false].map Value.bool ++ [])))) rfl zero112 rfl fun b40 _ _ => ⟨_, (.put rfl), ?_⟩)
 refine At.s rfl rfl (Ox.storeN (cs' := _) rfl rfl rfl agg112 (by simp [lx35e]) (ones_app ones_nil (ones_app (ones_map fun _ => rfl) ones_nil)) .here (by simp) (putCells_whole (by simp [lx35e])) rfl (.refl _) ?_)
 refine er ?_
 refine At.beginRound rfl rfl (.there (.there (.there .here))) hld35 ?_
 refine At.block ?_
 refine sq ?_
 refine At.dw rg8 mixed ?_
 refine Any.vs 1 [0] rfl ?_
 refine Any.tk 1 rfl pp (fun R' H' hR hS => Ox.loadN (vs := [_, _, _, _, _, _]) rfl rfl agg102 rfl (((hc1.le hR).sub (fun p h => hS p ((su (so (so (so (so sr))))) p h))).part (j := 0) (n := 6) rfl) rfl (.one rfl) ⟨rfl, rfl, rfl⟩) ?_
 refine Any.vs 1 [2] rfl ?_
 refine Any.tk 3 rfl pp (fun R' H' hR hS => Ox.loadN (vs := [_, _, _, _, _, _]) rfl rfl agg102 rfl (((hc1.le hR).sub (fun p h => hS p ((su (so (so (so (so sr))))) p h))).part (j := 0) (n := 6) rfl) rfl (.one rfl) ⟨rfl, rfl, rfl⟩) ?_
 refine Any.tk 4 rfl pp (fun R' H' hR hS => Ox.loadN (vs := _) rfl rfl agg125 (by simp [l0_1]) ((CellsAt.box (hS _ z2)).part (j := 0) (n := 6) (take_all (by simp [l0_1]))) rfl (.one rfl) ⟨rfl, rfl, rfl⟩) ?_
 refine Any.tk 5 rfl pp (fun R' H' hR hS => Ox.loadN (vs := _) rfl rfl agg112 (by simp [lx35e]) ((CellsAt.box (hS _ z0)).part (j := 0) (n := 5) (take_all (by simp [lx35e]))) rfl (.one rfl) ⟨rfl, rfl, rfl⟩) ?_
 obtain ⟨x41, hx41, hM⟩ := bnd hM
 refine Any.cv 6 ent104 (m104_ok x1.book x0 x35e h1_3 h1_4 h1_5 l0_1 lx35e hx41) ?_
 rintro _ _ _ ⟨rfl, rfl, rfl⟩
 refine kp ?_
 obtain ⟨x42, hx42, hM⟩ := bnd hM
 refine Any.cv 7 ent103 (m103_ok x1.book x41 h1_3 h1_4 h1_5 hx42) ?_
 rintro _ _ _ ⟨rfl, rfl, rfl⟩
 refine kp ?_
 refine Any.done ?_
 refine sc hM (fun ht43 hM => ?_) (fun ht43 hM => ?_)
 ·refine sg rg1 ?_
  refine At.s rfl rfl (Ox.store1 (cs' := #[_]) rfl rfl rfl one4 rfl (.there .here) rfl rfl rfl (.refl _) ?_)
  refine er ?_
  exact At.drop (so (sk (so sr))) (ex35_0 _ (sinj hM).symm _ _ _ _ (rr) ⟨hR35, rfl⟩ (.inr (.inl ⟨_, rfl, rfl⟩)))
 refine sp ?_
 refine At.inBlock ?_
 exact At.drop (so sr) (again35 _ (sinj hM).symm _ _ _ (rr) ⟨hR35, rfl⟩)
theorem m23_ok (x0 : HullBook) (x1 : (List Int)) {v0_3 v0_4 v0_5 v1 : Value} (hG : GOk R) (h0_3 : SlR CHullPiece 5 R v0_3 x0.Pieces) (h0_4 : SlR CZ 1 R v0_4 x0.Out) (h0_5 : SlR CHullHeel 2 R v0_5 x0.Heels) (h1 : SlR CZ 1 R v1 x1) {r : (Int × Int)} (hM : m23 x0 x1 = some r) : FnOk 𝒥 23 #[.agg #[iv x0.Limit, iv x0.Ballast.Least, iv x0.Ballast.Most, v0_3, v0_4, v0_5], v1] R H (fun v R' H' => RLe R R' ∧ H = H' ∧ v = .tuple #[iv r.1, iv r.2]) := by
 unfold m23 at hM
 refine FnOk.of_at Tryz.func23 rfl (n := 20) rfl rfl fun fr cs hk => ?_
 refine sg rg4 ?_
 refine bx fun b27 => ?_
 refine At.s rfl rfl (Ox.box1 rfl rfl h1.cells rfl fun b28 _ _ => ⟨_, (.put rfl), ?_⟩)
 refine vs 2 ?_
 refine nx rg9 ?_
 refine lN [_, _, _, _, _, _] 0 6 agg28 z1 ?_
 refine At.s rfl rfl (Ox.makeFunc (vs := #[]) (us := #[_]) rfl rfl rfl rfl (.put rfl) ?_)
 obtain ⟨x29, hx29, hM⟩ := bnd hM
 refine At.cv ent89 (m89_ok x0 (fun y => m98 y x1) hG h0_3 h0_4 h0_5 ⟨98, #[], #[_], rfl, ent98, fun R' H' hR hH y r va hA hr => by obtain ⟨_, rfl, ⟨vy_3, vy_4, vy_5, hy_3, hy_4, hy_5, rfl⟩⟩ := hA; exact (m98_ok y x1 hy_3 hy_4 hy_5 (CellsAt.box (hH _ z0)) (h1.mono hR) hr).mono fun _ _ _ ⟨h1, h2, h3⟩ => ⟨h1, h2.symm, h3⟩⟩ hx29) ?_
 rintro _ Rx29 _ ⟨hRx29, Hsx29, vx29r0_3, vx29r0_4, vx29r0_5, vx29r0_6, vx29r0_7, hx29r0_3, hx29r0_4, hx29r0_5, hx29r0_6, hx29r0_7, rfl, rfl⟩
 replace h1 := h1.mono hRx29
 refine vs 3 ?_
 refine At.s rfl rfl (Ox.alloc (cs := #[iv 0, iv 0, iv 0, .slice none 0 0, .slice none 0 0, .slice none 0 0, .slice none 0 0, .map none]) rfl zero106 rfl fun b30 _ _ => ⟨_, (.put rfl), ?_⟩)
 refine At.s rfl rfl (Ox.storeN (cs' := #[_, _, _, _, _, _, _, _]) rfl rfl rfl agg106 rfl (ones_cons rfl (ones_cons rfl (ones_cons rfl (ones_cons hx29r0_3.one (ones_cons hx29r0_4.one (ones_cons hx29r0_5.one (ones_cons hx29r0_6.one (ones_cons hx29r0_7.one ones_nil)))))))) .here rfl rfl rfl (.refl _) ?_)
 refine vs 1 ?_
 refine es ?_
 refine sg rg2 ?_
 refine vs 2 ?_
 refine er ?_
 refine sc hM (fun ht31 hM => ?_) (fun ht31 hM => ?_)
 ·refine sg rg3 ?_
  refine vs 3 ?_
  refine er ?_
  obtain rfl := sinj hM
  exact rt Tryz.func23 (.tmp rfl (.tmp rfl .nil)) (so (subDrop (so (so sr)))) (hk _ _ _ ⟨hRx29, rfl, rfl⟩)
 refine sp ?_
 refine sg rg5 ?_
 refine lN [_, _, _, _, _, _, _, _] 0 8 agg106 z0 ?_
 refine At.s rfl rfl (Ox.makeFunc (vs := #[]) (us := #[_, _]) rfl rfl rfl rfl (.put rfl) ?_)
 refine At.freezeMap (H2 := (b30, _) :: (b28, _) :: (b27, _) :: H) (fun X => (b30, _) :: X ++ ((b28, _) :: (b27, _) :: H)) (.cons .id) rfl hx29r0_7 (fun Rf33 hRf33 hf33 => ?_)
 replace h1 := h1.mono hRf33
 replace hx29r0_3 := hx29r0_3.mono hRf33
 replace hx29r0_4 := hx29r0_4.mono hRf33
 replace hx29r0_5 := hx29r0_5.mono hRf33
 replace hx29r0_6 := hx29r0_6.mono hRf33
 obtain ⟨x32, hx32, hM⟩ := bnd hM
 refine At.cv ent100 (m100_ok x29.1 (fun y => m101 y x29.1 x1) hx29r0_3 hx29r0_4 hx29r0_5 hx29r0_6 hf33 ⟨101, #[], #[_, _], rfl, ent101, fun R' H' hR hH y r va hA hr => by obtain ⟨_, rfl, ⟨ly_1, rfl⟩⟩ := hA; exact (m101_ok y x29.1 x1 ly_1 (CellsAt.box (hH _ z0)) (hx29r0_3.mono hR) (hx29r0_4.mono hR) (hx29r0_5.mono hR) (hx29r0_6.mono hR) (hf33.mono hR) (CellsAt.box (hH _ z1)) (h1.mono hR) hr).mono fun _ _ _ ⟨h1, h2, h3⟩ => ⟨h1, h2.symm, h3⟩⟩ hx32) ?_
 rintro _ Rx32 _ ⟨hRx32, rfl, rfl⟩
 refine vs 2 ?_
 refine er ?_
 obtain rfl := sinj hM
 exact rt Tryz.func23 (.tmp rfl (.tmp rfl .nil)) (so (so (so sr))) (hk _ _ _ ⟨((hRx29.trans hRf33).trans hRx32), rfl, rfl⟩)
theorem m125_ok (x0 : (List Int)) {v0 : Value} (h0 : RdS CZ 1 R H v0 x0) {r : List Int} (hM : m125 x0 = some r) : FnOk 𝒥 125 #[v0] R H (fun v R' H' => RLe R R' ∧ ∃ w Hs, OwnSl CZ 1 3 R' w r Hs ∧ H' = Hs ++ H ∧ v = w) := by
 rcases h0.nilOr with ⟨cap0, rfl, rfl⟩ | ⟨a0, n0, cap0, rfl⟩
 ·have hM : some ([] : List Int) = some r := by simpa [m125, appM] using hM
  refine FnOk.of_at Tryz.func125 rfl (n := 8) rfl rfl fun fr cs hk => ?_
  refine sg rg1 ?_
  refine vs 1 ?_
  refine es ?_
  refine sg rg2 ?_
  refine vs 1 ?_
  refine At.s rfl rfl (Ox.eqNil rfl rfl rfl Tryz.underlying25 rfl rfl (.put rfl) ?_)
  refine er ?_
  refine At.cond_true rfl ?_
  refine sg rg1 ?_
  refine vs 1 ?_
  refine er ?_
  obtain rfl := sinj hM
  exact rt Tryz.func125 (.tmp rfl .nil) sr (hk _ _ _ ⟨(rr), .slice none 0 0, [], OwnSl.nil, rfl, rfl⟩)
 ·unfold m125 at hM
  refine FnOk.of_at Tryz.func125 rfl (n := 8) rfl rfl fun fr cs hk => ?_
  refine sg rg1 ?_
  refine vs 1 ?_
  refine es ?_
  refine sg rg2 ?_
  refine vs 1 ?_
  refine At.s rfl rfl (Ox.eqNil rfl rfl rfl Tryz.underlying25 rfl rfl (.put rfl) ?_)
  refine er ?_
  refine At.cond_false rfl ?_
  refine sp ?_
  refine sg rg4 ?_
  refine At.s rfl rfl (Ox.buildSlice (cells := #[]) rfl elem25 rfl (by decide) base25_0 fill_nil rfl fun b20 _ _ => ⟨_, (.put rfl), ?_⟩)
  refine vs 1 ?_
  obtain ⟨x21, hx21, hM⟩ := bnd hM
  refine At.s rfl rfl (Ox.append (K := CZ) (fun X => X ++ (H)) rfl rfl rfl app25 Tryz.underlying25 (by simp) .id (OwnSl.lit (Enc.le Enc.nil rfl) rfl) (h0.sub (su (so sr))).arg hx21 rfl fun vx21 Hsx21 hox21 => ⟨_, (.put rfl), ?_⟩)
  refine vs 1 ?_
  refine er ?_
  obtain rfl := sinj hM
  exact rt Tryz.func125 (.tmp rfl .nil) sr (hk _ _ _ ⟨(rr), vx21, Hsx21, hox21, rfl, rfl⟩)
theorem m152_ok {S : Type} {ys : (List Int) → S → Option (S × Bool)} {vY : Value} (k : Nat) : ∀ {Inv : S → RMap → HList → Prop} {R : RMap} {Hy : HList} (_ : HandS 𝒥 R (VSl CZ 1) vY ys Inv) (x0 : (List Int)) (x1 : (List Bool)) (x2 : HullBook) {s0 : S} (_ : Inv s0 R Hy) {v0 v2_3 v2_4 v2_5 : Value} {b2 b3 b4 : Nat} (_ : SlR CZ 1 R v0 x0) (_ : x1.length = 5) (_ : CellsAt R [] b2 0 [iv x2.Limit, iv x2.Ballast.Least, iv x2.Ballast.Most, v2_3, v2_4, v2_5]) (_ : SlR CHullPiece 5 R v2_3 x2.Pieces) (_ : SlR CZ 1 R v2_4 x2.Out) (_ : SlR CHullHeel 2 R v2_5 x2.Heels) (_ : CellsAt R [] b3 0 [vY]) (_ : CellsAt R [] b4 0 [.func (.func 152) #[] #[.pointer (some ⟨b2, 0, none⟩), .pointer (some ⟨b3, 0, none⟩), .pointer (some ⟨b4, 0, none⟩)]]) {r : (S × Bool)} (_ : m152 ys k x0 x1 x2 s0 = some r), FnOk 𝒥 152 #[v0, .agg (List.toArray ([] ++ (x1.map Value.bool ++ []))), .pointer (some ⟨b2, 0, none⟩), .pointer (some ⟨b3, 0, none⟩), .pointer (some ⟨b4, 0, none⟩)] R Hy (fun v R' H' => RLe R R' ∧ Inv r.1 R' H' ∧ v = .bool r.2) := by
 induction k with
 | zero => intro Inv R Hy hY x0 x1 x2 s0 hI v0 v2_3 v2_4 v2_5 b2 b3 b4 h0 l1 hc2 h2_3 h2_4 h2_5 hc3 hc4 r hM; exact absurd hM (by simp [m152])
 | succ k ih =>
  intro Inv R Hy hY x0 x1 x2 s0 hI v0 v2_3 v2_4 v2_5 b2 b3 b4 h0 l1 hc2 h2_3 h2_4 h2_5 hc3 hc4 r hM
  rw [m152] at hM
  refine FnOk.of_at Tryz.func152 rfl (n := 39) rfl rfl fun fr cs hk => ?_
  refine sg rg2 ?_
  refine bx fun b20 => ?_
  refine vs 1 ?_
  refine es ?_
  obtain ⟨x21, hx21, hM⟩ := bnd hM
  refine At.rg rg4 ?_
  refine At.s rfl rfl (Ox.loadN (vs := [_, _, _, _, _, _]) rfl rfl agg102 rfl (hc2.any.part (j := 0) (n := 6) rfl) rfl (.put rfl) ?_)
  refine At.s rfl rfl (Ox.loadN (vs := _) rfl rfl agg112 (by simp [l1]) ((CellsAt.box z0).part (j := 0) (n := 5) (take_all (by simp [l1]))) rfl (.put rfl) ?_)
  refine At.cv ent92 (m92_ok x2 x1 h2_3 h2_4 h2_5 l1 hx21) ?_
  rintro vx21r0 Rx21 _ ⟨hRx21, rfl, _, hx21r0, rfl⟩
  replace h0 := h0.mono hRx21
  replace h2_3 := h2_3.mono hRx21
  replace h2_4 := h2_4.mono hRx21
  replace h2_5 := h2_5.mono hRx21
  replace hI := hY.mono (rr) hRx21 hI
  replace hc2 := hc2.up (H := []) hRx21
  replace hc3 := hc3.up (H := []) hRx21
  replace hc4 := hc4.up (H := []) hRx21
  replace hY := hY.up hRx21
  refine vs 1 ?_
  refine es ?_
  refine sg rg3 ?_
  refine vs 1 ?_
  refine ls hx21r0 Tryz.underlying25 ?_
  refine vs 1 ?_
  refine er ?_
  refine sc hM (fun ht25 hM => ?_) (fun ht25 hM => ?_)
  ·refine sq ?_
   obtain ⟨x26, hx26, hM⟩ := bnd hM
   refine At.rg rg4 ?_
   refine At.ld one174 (hc3.any.one (j := 0) rfl) ?_
   refine vs 1 ?_
   refine At.stepY rfl rfl rfl rfl rfl rfl rfl rfl ((hY.call [(b20, _)] (rr) hI h0 hx26).mono ?_)
   rintro _ Rx26 _ ⟨hRx26, rfl, Hyx26, hIx26, hHx26⟩
   replace hHx26 : _ = (b20, _) :: Hyx26 := hHx26
   subst hHx26
   replace h0 := h0.mono hRx26
   replace hc3 := hc3.up (H := []) hRx26
   replace hY := hY.up hRx26
   refine ⟨_, (.put rfl), ?_⟩
   refine vs 1 ?_
   refine er ?_
   obtain rfl := sinj hM
   exact rt Tryz.func152 (.tmp rfl .nil) (so sr) (hk _ _ _ ⟨(hRx21.trans hRx26), hIx26, rfl⟩)
  refine sp ?_
  refine sq ?_
  refine sg rg3 ?_
  refine vs 1 ?_
  refine ls hx21r0 Tryz.underlying25 ?_
  refine vs 1 ?_
  refine er ?_
  refine At.block ?_
  refine At.loopE1R hM (fun (s27 : (S × Int)) R' H' st' => RLe Rx21 R' ∧ ∃ Hy27s_0, Inv s27.1 R' Hy27s_0 ∧ H' = (b20, .cells (List.toArray ([] ++ (x1.map Value.bool ++ []))) 112) :: Hy27s_0 ∧ SubL st' [(0, v0), (4, .pointer (some ⟨b4, 0, none⟩)), (6, .pointer (some ⟨b20, 0, none⟩)), (20, vx21r0), (21, iv (x21.length : Int)), (22, iv s27.2)]) (fun (p27_0 : S) R' H' st' => RLe Rx21 R' ∧ ∃ Hy27_0_0, Inv p27_0 R' Hy27_0_0 ∧ Hy27_0_0 = H' ∧ SubL st' []) 0 rfl ⟨rr, Hy, hI, rfl, SubT.sub ⟨rfl, rfl, rfl, rfl, rfl, rfl, trivial⟩⟩ ?_ ?_
  rotate_right
  ·rintro s27 R27 H27 st27 ⟨hR27, Hy27s_0, hI27s_0, rfl, hst27⟩ x27 hM again27 ex27_0 out27
   refine At.sub hst27 ?_
   replace h0 := h0.mono hR27
   replace h2_3 := h2_3.mono hR27
   replace h2_4 := h2_4.mono hR27
   replace h2_5 := h2_5.mono hR27
   replace hc2 := hc2.up (H := []) hR27
   replace hc3 := hc3.up (H := []) hR27
   replace hc4 := hc4.up (H := []) hR27
   replace hx21r0 := hx21r0.mono hR27
   replace hY := hY.up hR27
   refine sg rg1 ?_
   refine vs 1 ?_
   refine es ?_
   refine sc hM (fun ht56 hM => ?_) (fun ht56 hM => ?_)
   ·refine sp ?_
    refine sq ?_
    refine At.block ?_
    refine sq ?_
    obtain ⟨x57, hx57, hM⟩ := bnd hM
    refine At.rg rg3 ?_
    obtain ⟨bx57, ox57, _, rfl, hcx57, hix57⟩ := hx21r0.elem slice25 hx57
    refine At.s rfl rfl (Ox.indexV rfl rfl rfl hix57 rfl (.put rfl) ?_)
    refine At.ld one3 (hcx57.any.one (j := 0) rfl) ?_
    refine vs 1 ?_
    refine es ?_
    obtain ⟨x58, hx58, hM⟩ := bnd hM
    obtain ⟨x60, hx60, hM⟩ := bnd hM
    obtain ⟨x62, hx62, hM⟩ := bnd hM
    obtain ⟨x63, hx63, hM⟩ := bnd hM
    refine At.cut (fun R' H' st' => RLe R27 R' ∧ ∃ (Hyx63 : HList), Inv x63.1 R' Hyx63 ∧ H' = (b20, .cells (List.toArray ([] ++ (x1.map Value.bool ++ []))) 112) :: Hyx63 ∧ SubL st' [(0, v0), (4, .pointer (some ⟨b4, 0, none⟩)), (6, .pointer (some ⟨b20, 0, none⟩)), (20, vx21r0), (21, iv (x21.length : Int)), (22, iv s27.2), (37, .bool (!x63.2))]) ?_ ?_
    ·rintro Rc65 Hc65 stc65 ⟨hRc65, Hyx63, hIx63, rfl, hstc65⟩
     refine At.sub hstc65 ?_
     replace h0 := h0.mono hRc65
     replace h2_3 := h2_3.mono hRc65
     replace h2_4 := h2_4.mono hRc65
     replace h2_5 := h2_5.mono hRc65
     replace hc2 := hc2.up (H := []) hRc65
     replace hc3 := hc3.up (H := []) hRc65
     replace hc4 := hc4.up (H := []) hRc65
     replace hx21r0 := hx21r0.mono hRc65
     replace hY := hY.up hRc65
     refine sc hM (fun ht66 hM => ?_) (fun ht66 hM => ?_)
     ·refine sg rg1 ?_
      refine vs 1 ?_
      refine er ?_
      replace hM := out27 _ (sinj hM).symm
      obtain rfl := sinj hM
      exact rt Tryz.func152 (.tmp rfl .nil) (so sr) (hk _ _ _ ⟨((hRx21.trans hR27).trans hRc65), hIx63, rfl⟩)
     refine sp ?_
     refine At.inBlock ?_
     refine At.rg rg2 ?_
     refine vs 2 ?_
     refine er ?_
     exact again27 _ (sinj hM).symm _ _ _ ⟨(hR27.trans hRc65), Hyx63, hIx63, rfl, SubT.sub ⟨rfl, rfl, rfl, rfl, rfl, rfl, trivial⟩⟩
    intro hcut65
    refine At.draw (n := 12) (is := [0, 1, 2, 3, 4, 5, 6, 7, 8, 9, 10, 11]) (fun _ => (b20, .cells (List.toArray ([] ++ (x1.map Value.bool ++ []))) 112) :: []) mixed rfl (by decide +kernel) rfl rfl ?_
    refine ts 0 [10, 11] rfl (fun _ _ _ _ _ h => h) (su (sk sn)) (fun R' H' hR hS => Ox.load1 rfl rfl one175 ((hc4.up hR).one (j := 0) rfl) rfl (.one rfl) ⟨rfl, rfl, rfl⟩) ?_
    refine Any.vs 2 [1, 3] rfl ?_
    refine ts 6 [9, 10, 11] rfl (fun _ _ _ _ _ h => h) (su (sk sn)) (fun R' H' hR hS => Ox.loadN (vs := _) rfl rfl agg112 (by simp [l1]) ((CellsAt.box (hS _ z0)).part (j := 0) (n := 5) (take_all (by simp [l1]))) rfl (.one rfl) ⟨rfl, rfl, rfl⟩) ?_
    refine Any.vs 1 [7] rfl ?_
    refine Any.three' (i := 2) (j := 4) (l := 8) (ra := [4, 5, 8, 9, 10, 11]) (rb := [2, 5, 8, 9, 10, 11]) (rc := [2, 4, 5, 9, 10, 11]) rfl rfl rfl (by decide +kernel) rfl rfl rfl (by decide) rfl rfl rfl ?_ ?_ ?_
    ·refine  (Ox.callV rfl rfl rfl rfl ent125 rfl rfl ((m125_ok x0 h0.rd hx58).mono ?_))
     rintro vx58 Rx58 _ ⟨hRx58, _, Hsx58, hox58, rfl, rfl⟩
     replace h0 := h0.mono hRx58
     replace h2_3 := h2_3.mono hRx58
     replace h2_4 := h2_4.mono hRx58
     replace h2_5 := h2_5.mono hRx58
     replace hI27s_0 := hY.mono (rr) hRx58 hI27s_0
     replace hc2 := hc2.up (H := []) hRx58
     replace hc3 := hc3.up (H := []) hRx58
     replace hc4 := hc4.up (H := []) hRx58
     replace hx21r0 := hx21r0.mono hRx58
     replace hY := hY.up hRx58
     refine ⟨_, (.put rfl), ⟨hRx58, (ku (subDrop (sk sn))), ?_⟩⟩
     refine tw 4 8 ?_ ?_
     ·refine  (SemTo.to (Ox.buildSlice (cells := #[_]) rfl elem25 rfl (by decide) base25_1 (fill_cons rfl rfl rfl rfl fill_nil) rfl fun b59 _ _ => ⟨_, (.put rfl), ⟨rr, (ku (so (subDrop (sk sn)))), ?_⟩⟩))
      refine tw 5 8 ?_ ?_
      ·refine  (SemTo.to (Ox.append (K := CZ) (fun X => (b59, _) :: X ++ ((b20, _) :: Hy27s_0)) rfl rfl rfl app25 Tryz.underlying25 (by simp) (.cons .id) hox58 (ArgSl.lit z0 (Enc.le (Enc.cons (x := x57) rfl rfl Enc.nil) rfl) rfl) hx60 rfl fun vx60 Hsx60 hox60 => ⟨_, (.put rfl), ⟨rr, (ku (so (subDrop (sk sn)))), ?_⟩⟩))
       refine Any.on 8 rfl rfl (SemTo.to (Ox.buildSlice (cells := #[_]) rfl elem25 rfl (by decide) base25_1 (fill_cons rfl rfl rfl rfl fill_nil) rfl fun b61 _ _ => ⟨_, (.put rfl), ⟨rr, (ku (so (so (subDrop (sk sn))))), ?_⟩⟩))
       refine Any.cv 9 ent93 (m93_ok x1 [x57] l1 (RdS.lit z0 (Enc.le (Enc.cons (x := x57) rfl rfl Enc.nil) rfl) rfl) hx62) ?_
       rintro _ _ _ ⟨rfl, rfl, lx62r0, rfl⟩
       refine ⟨rr, (ku (so (so (subDrop (sk sn))))), ?_⟩
       refine Any.freezeOwn (H2 := (b61, _) :: (b59, _) :: (b20, _) :: Hy27s_0) (fun X => (b61, _) :: (b59, _) :: X ++ ((b20, _) :: Hy27s_0)) (.cons (.cons .id)) rfl hox60 (by decide) (by decide) (fun _ => (su (so (so (sk sn))))) (fun Rf64 hRf64 hf64 => ?_)
       replace h0 := h0.mono hRf64
       replace h2_3 := h2_3.mono hRf64
       replace h2_4 := h2_4.mono hRf64
       replace h2_5 := h2_5.mono hRf64
       replace hI27s_0 := hY.mono (rr) hRf64 hI27s_0
       replace hc2 := hc2.up (H := []) hRf64
       replace hc3 := hc3.up (H := []) hRf64
       replace hc4 := hc4.up (H := []) hRf64
       replace hx21r0 := hx21r0.mono hRf64
       replace hY := hY.up hRf64
       refine Any.on 10 rfl rfl (Ox.callV rfl rfl rfl rfl ent152 rfl rfl ((ih (hY.frame [(b61, _), (b59, _), (b20, _)]) x60 x62 x2 ⟨_, hI27s_0, rfl⟩ hf64 lx62r0 hc2.any h2_3 h2_4 h2_5 hc3 hc4 hx63).mono ?_))
       rintro _ Rx63 _ ⟨hRx63, ⟨Hyx63, hIx63, hHx63⟩, rfl⟩
       replace hHx63 : _ = (b61, _) :: (b59, _) :: (b20, _) :: Hyx63 := hHx63
       subst hHx63
       replace h0 := h0.mono hRx63
       replace h2_3 := h2_3.mono hRx63
       replace h2_4 := h2_4.mono hRx63
       replace h2_5 := h2_5.mono hRx63
       replace hc2 := hc2.up (H := []) hRx63
       replace hc3 := hc3.up (H := []) hRx63
       replace hc4 := hc4.up (H := []) hRx63
       replace hf64 := hf64.mono hRx63
       replace hx21r0 := hx21r0.mono hRx63
       replace hY := hY.up hRx63
       refine ⟨_, (.put rfl), ⟨hRx63, (ku (so (so (sk sn)))), ?_⟩⟩
       refine Any.vs 1 [11] rfl ?_
       exact Any.done (At.drop (so (so sr)) (hcut65 _ _ _ ⟨((hRx58.trans hRf64).trans hRx63), Hyx63, hIx63, rfl, SubT.sub ⟨rfl, rfl, rfl, rfl, rfl, rfl, rfl, trivial⟩⟩))
      refine  (SemTo.to (Ox.buildSlice (cells := #[_]) rfl elem25 rfl (by decide) base25_1 (fill_cons rfl rfl rfl rfl fill_nil) rfl fun b61 _ _ => ⟨_, (.put rfl), ⟨rr, (ku (so (so (subDrop (sk sn))))), ?_⟩⟩))
      refine Any.on 5 rfl rfl (SemTo.to (Ox.append (K := CZ) (fun X => (b61, _) :: (b59, _) :: X ++ ((b20, _) :: Hy27s_0)) rfl rfl rfl app25 Tryz.underlying25 (by simp) (.cons (.cons .id)) hox58 (ArgSl.lit z1 (Enc.le (Enc.cons (x := x57) rfl rfl Enc.nil) rfl) rfl) hx60 rfl fun vx60 Hsx60 hox60 => ⟨_, (.put rfl), ⟨rr, (ku (so (so (subDrop (sk sn))))), ?_⟩⟩))
      refine Any.cv 9 ent93 (m93_ok x1 [x57] l1 (RdS.lit z0 (Enc.le (Enc.cons (x := x57) rfl rfl Enc.nil) rfl) rfl) hx62) ?_
      rintro _ _ _ ⟨rfl, rfl, lx62r0, rfl⟩
      refine ⟨rr, (ku (so (so (subDrop (sk sn))))), ?_⟩
      refine Any.freezeOwn (H2 := (b61, _) :: (b59, _) :: (b20, _) :: Hy27s_0) (fun X => (b61, _) :: (b59, _) :: X ++ ((b20, _) :: Hy27s_0)) (.cons (.cons .id)) rfl hox60 (by decide) (by decide) (fun _ => (su (so (so (sk sn))))) (fun Rf64 hRf64 hf64 => ?_)
      replace h0 := h0.mono hRf64
      replace h2_3 := h2_3.mono hRf64
      replace h2_4 := h2_4.mono hRf64
      replace h2_5 := h2_5.mono hRf64
      replace hI27s_0 := hY.mono (rr) hRf64 hI27s_0
      replace hc2 := hc2.up (H := []) hRf64
      replace hc3 := hc3.up (H := []) hRf64
      replace hc4 := hc4.up (H := []) hRf64
      replace hx21r0 := hx21r0.mono hRf64
      replace hY := hY.up hRf64
      refine Any.on 10 rfl rfl (Ox.callV rfl rfl rfl rfl ent152 rfl rfl ((ih (hY.frame [(b61, _), (b59, _), (b20, _)]) x60 x62 x2 ⟨_, hI27s_0, rfl⟩ hf64 lx62r0 hc2.any h2_3 h2_4 h2_5 hc3 hc4 hx63).mono ?_))
      rintro _ Rx63 _ ⟨hRx63, ⟨Hyx63, hIx63, hHx63⟩, rfl⟩
      replace hHx63 : _ = (b61, _) :: (b59, _) :: (b20, _) :: Hyx63 := hHx63
      subst hHx63
      replace h0 := h0.mono hRx63
      replace h2_3 := h2_3.mono hRx63
      replace h2_4 := h2_4.mono hRx63
      replace h2_5 := h2_5.mono hRx63
      replace hc2 := hc2.up (H := []) hRx63
      replace hc3 := hc3.up (H := []) hRx63
      replace hc4 := hc4.up (H := []) hRx63
      replace hf64 := hf64.mono hRx63
      replace hx21r0 := hx21r0.mono hRx63
      replace hY := hY.up hRx63
      refine ⟨_, (.put rfl), ⟨hRx63, (ku (so (so (sk sn)))), ?_⟩⟩
      refine Any.vs 1 [11] rfl ?_
      exact Any.done (At.drop (so (so sr)) (hcut65 _ _ _ ⟨((hRx58.trans hRf64).trans hRx63), Hyx63, hIx63, rfl, SubT.sub ⟨rfl, rfl, rfl, rfl, rfl, rfl, rfl, trivial⟩⟩))
     refine  (SemTo.to (Ox.buildSlice (cells := #[_]) rfl elem25 rfl (by decide) base25_1 (fill_cons rfl rfl rfl rfl fill_nil) rfl fun b61 _ _ => ⟨_, (.put rfl), ⟨rr, (ku (so (subDrop (sk sn)))), ?_⟩⟩))
     refine Any.on 4 rfl rfl (SemTo.to (Ox.buildSlice (cells := #[_]) rfl elem25 rfl (by decide) base25_1 (fill_cons rfl rfl rfl rfl fill_nil) rfl fun b59 _ _ => ⟨_, (.put rfl), ⟨rr, (ku (so (so (subDrop (sk sn))))), ?_⟩⟩))
     refine Any.on 5 rfl rfl (SemTo.to (Ox.append (K := CZ) (fun X => (b59, _) :: (b61, _) :: X ++ ((b20, _) :: Hy27s_0)) rfl rfl rfl app25 Tryz.underlying25 (by simp) (.cons (.cons .id)) hox58 (ArgSl.lit z0 (Enc.le (Enc.cons (x := x57) rfl rfl Enc.nil) rfl) rfl) hx60 rfl fun vx60 Hsx60 hox60 => ⟨_, (.put rfl), ⟨rr, (ku (so (so (subDrop (sk sn))))), ?_⟩⟩))
     refine Any.cv 9 ent93 (m93_ok x1 [x57] l1 (RdS.lit z1 (Enc.le (Enc.cons (x := x57) rfl rfl Enc.nil) rfl) rfl) hx62) ?_
     rintro _ _ _ ⟨rfl, rfl, lx62r0, rfl⟩
     refine ⟨rr, (ku (so (so (subDrop (sk sn))))), ?_⟩
     refine Any.freezeOwn (H2 := (b59, _) :: (b61, _) :: (b20, _) :: Hy27s_0) (fun X => (b59, _) :: (b61, _) :: X ++ ((b20, _) :: Hy27s_0)) (.cons (.cons .id)) rfl hox60 (by decide) (by decide) (fun _ => (su (so (so (sk sn))))) (fun Rf64 hRf64 hf64 => ?_)
     replace h0 := h0.mono hRf64
     replace h2_3 := h2_3.mono hRf64
     replace h2_4 := h2_4.mono hRf64
     replace h2_5 := h2_5.mono hRf64
     replace hI27s_0 := hY.mono (rr) hRf64 hI27s_0
     replace hc2 := hc2.up (H := []) hRf64
     replace hc3 := hc3.up (H := []) hRf64
     replace hc4 := hc4.up (H := []) hRf64
     replace hx21r0 := hx21r0.mono hRf64
     replace hY := hY.up hRf64
     refine Any.on 10 rfl rfl (Ox.callV rfl rfl rfl rfl ent152 rfl rfl ((ih (hY.frame [(b59, _), (b61, _), (b20, _)]) x60 x62 x2 ⟨_, hI27s_0, rfl⟩ hf64 lx62r0 hc2.any h2_3 h2_4 h2_5 hc3 hc4 hx63).mono ?_))
     rintro _ Rx63 _ ⟨hRx63, ⟨Hyx63, hIx63, hHx63⟩, rfl⟩
     replace hHx63 : _ = (b59, _) :: (b61, _) :: (b20, _) :: Hyx63 := hHx63
     subst hHx63
     replace h0 := h0.mono hRx63
     replace h2_3 := h2_3.mono hRx63
     replace h2_4 := h2_4.mono hRx63
     replace h2_5 := h2_5.mono hRx63
     replace hc2 := hc2.up (H := []) hRx63
     replace hc3 := hc3.up (H := []) hRx63
     replace hc4 := hc4.up (H := []) hRx63
     replace hf64 := hf64.mono hRx63
     replace hx21r0 := hx21r0.mono hRx63
     replace hY := hY.up hRx63
     refine ⟨_, (.put rfl), ⟨hRx63, (ku (so (so (sk sn)))), ?_⟩⟩
     refine Any.vs 1 [11] rfl ?_
     exact Any.done (At.drop (so (so sr)) (hcut65 _ _ _ ⟨((hRx58.trans hRf64).trans hRx63), Hyx63, hIx63, rfl, SubT.sub ⟨rfl, rfl, rfl, rfl, rfl, rfl, rfl, trivial⟩⟩))
    ·refine  (SemTo.to (Ox.buildSlice (cells := #[_]) rfl elem25 rfl (by decide) base25_1 (fill_cons rfl rfl rfl rfl fill_nil) rfl fun b59 _ _ => ⟨_, (.put rfl), ⟨rr, (ku (so (sk sn))), ?_⟩⟩))
     refine tw 2 8 ?_ ?_
     ·refine  (Ox.callV rfl rfl rfl rfl ent125 rfl rfl ((m125_ok x0 h0.rd hx58).mono ?_))
      rintro vx58 Rx58 _ ⟨hRx58, _, Hsx58, hox58, rfl, rfl⟩
      replace h0 := h0.mono hRx58
      replace h2_3 := h2_3.mono hRx58
      replace h2_4 := h2_4.mono hRx58
      replace h2_5 := h2_5.mono hRx58
      replace hI27s_0 := hY.mono (rr) hRx58 hI27s_0
      replace hc2 := hc2.up (H := []) hRx58
      replace hc3 := hc3.up (H := []) hRx58
      replace hc4 := hc4.up (H := []) hRx58
      replace hx21r0 := hx21r0.mono hRx58
      replace hY := hY.up hRx58
      refine ⟨_, (.put rfl), ⟨hRx58, (ku (subDrop (so (sk sn)))), ?_⟩⟩
      refine tw 5 8 ?_ ?_
      ·refine  (SemTo.to (Ox.append (K := CZ) (fun X => X ++ ((b59, _) :: (b20, _) :: Hy27s_0)) rfl rfl rfl app25 Tryz.underlying25 (by simp) .id hox58 (ArgSl.lit (List.mem_append_right _ z0) (Enc.le (Enc.cons (x := x57) rfl rfl Enc.nil) rfl) rfl) hx60 rfl fun vx60 Hsx60 hox60 => ⟨_, (.put rfl), ⟨rr, (ku (subDrop (so (sk sn)))), ?_⟩⟩))
       refine Any.on 8 rfl rfl (SemTo.to (Ox.buildSlice (cells := #[_]) rfl elem25 rfl (by decide) base25_1 (fill_cons rfl rfl rfl rfl fill_nil) rfl fun b61 _ _ => ⟨_, (.put rfl), ⟨rr, (ku (so (subDrop (so (sk sn))))), ?_⟩⟩))
       refine Any.cv 9 ent93 (m93_ok x1 [x57] l1 (RdS.lit z0 (Enc.le (Enc.cons (x := x57) rfl rfl Enc.nil) rfl) rfl) hx62) ?_
       rintro _ _ _ ⟨rfl, rfl, lx62r0, rfl⟩
       refine ⟨rr, (ku (so (subDrop (so (sk sn))))), ?_⟩
       refine Any.freezeOwn (H2 := (b61, _) :: (b59, _) :: (b20, _) :: Hy27s_0) (fun X => (b61, _) :: X ++ ((b59, _) :: (b20, _) :: Hy27s_0)) (.cons .id) rfl hox60 (by decide) (by decide) (fun _ => (su (so (so (sk sn))))) (fun Rf64 hRf64 hf64 => ?_)
       replace h0 := h0.mono hRf64
       replace h2_3 := h2_3.mono hRf64
       replace h2_4 := h2_4.mono hRf64
       replace h2_5 := h2_5.mono hRf64
       replace hI27s_0 := hY.mono (rr) hRf64 hI27s_0
       replace hc2 := hc2.up (H := []) hRf64
       replace hc3 := hc3.up (H := []) hRf64
       replace hc4 := hc4.up (H := []) hRf64
       replace hx21r0 := hx21r0.mono hRf64
       replace hY := hY.up hRf64
       refine Any.on 10 rfl rfl (Ox.callV rfl rfl rfl rfl ent152 rfl rfl ((ih (hY.frame [(b61, _), (b59, _), (b20, _)]) x60 x62 x2 ⟨_, hI27s_0, rfl⟩ hf64 lx62r0 hc2.any h2_3 h2_4 h2_5 hc3 hc4 hx63).mono ?_))
       rintro _ Rx63 _ ⟨hRx63, ⟨Hyx63, hIx63, hHx63⟩, rfl⟩
       replace hHx63 : _ = (b61, _) :: (b59, _) :: (b20, _) :: Hyx63 := hHx63
       subst hHx63
       replace h0 := h0.mono hRx63
       replace h2_3 := h2_3.mono hRx63
       replace h2_4 := h2_4.mono hRx63
       replace h2_5 := h2_5.mono hRx63
       replace hc2 := hc2.up (H := []) hRx63
       replace hc3 := hc3.up (H := []) hRx63
       replace hc4 := hc4.up (H := []) hRx63
       replace hf64 := hf64.mono hRx63
       replace hx21r0 := hx21r0.mono hRx63
       replace hY := hY.up hRx63
       refine ⟨_, (.put rfl), ⟨hRx63, (ku (so (so (sk sn)))), ?_⟩⟩
       refine Any.vs 1 [11] rfl ?_
       exact Any.done (At.drop (so (so sr)) (hcut65 _ _ _ ⟨((hRx58.trans hRf64).trans hRx63), Hyx63, hIx63, rfl, SubT.sub ⟨rfl, rfl, rfl, rfl, rfl, rfl, rfl, trivial⟩⟩))
      refine  (SemTo.to (Ox.buildSlice (cells := #[_]) rfl elem25 rfl (by decide) base25_1 (fill_cons rfl rfl rfl rfl fill_nil) rfl fun b61 _ _ => ⟨_, (.put rfl), ⟨rr, (ku (so (subDrop (so (sk sn))))), ?_⟩⟩))
      refine Any.on 5 rfl rfl (SemTo.to (Ox.append (K := CZ) (fun X => (b61, _) :: X ++ ((b59, _) :: (b20, _) :: Hy27s_0)) rfl rfl rfl app25 Tryz.underlying25 (by simp) (.cons .id) hox58 (ArgSl.lit (.tail _ (List.mem_append_right _ z0)) (Enc.le (Enc.cons (x := x57) rfl rfl Enc.nil) rfl) rfl) hx60 rfl fun vx60 Hsx60 hox60 => ⟨_, (.put rfl), ⟨rr, (ku (so (subDrop (so (sk sn))))), ?_⟩⟩))
      refine Any.cv 9 ent93 (m93_ok x1 [x57] l1 (RdS.lit z0 (Enc.le (Enc.cons (x := x57) rfl rfl Enc.nil) rfl) rfl) hx62) ?_
      rintro _ _ _ ⟨rfl, rfl, lx62r0, rfl⟩
      refine ⟨rr, (ku (so (subDrop (so (sk sn))))), ?_⟩
      refine Any.freezeOwn (H2 := (b61, _) :: (b59, _) :: (b20, _) :: Hy27s_0) (fun X => (b61, _) :: X ++ ((b59, _) :: (b20, _) :: Hy27s_0)) (.cons .id) rfl hox60 (by decide) (by decide) (fun _ => (su (so (so (sk sn))))) (fun Rf64 hRf64 hf64 => ?_)
      replace h0 := h0.mono hRf64
      replace h2_3 := h2_3.mono hRf64
      replace h2_4 := h2_4.mono hRf64
      replace h2_5 := h2_5.mono hRf64
      replace hI27s_0 := hY.mono (rr) hRf64 hI27s_0
      replace hc2 := hc2.up (H := []) hRf64
      replace hc3 := hc3.up (H := []) hRf64
      replace hc4 := hc4.up (H := []) hRf64
      replace hx21r0 := hx21r0.mono hRf64
      replace hY := hY.up hRf64
      refine Any.on 10 rfl rfl (Ox.callV rfl rfl rfl rfl ent152 rfl rfl ((ih (hY.frame [(b61, _), (b59, _), (b20, _)]) x60 x62 x2 ⟨_, hI27s_0, rfl⟩ hf64 lx62r0 hc2.any h2_3 h2_4 h2_5 hc3 hc4 hx63).mono ?_))
      rintro _ Rx63 _ ⟨hRx63, ⟨Hyx63, hIx63, hHx63⟩, rfl⟩
      replace hHx63 : _ = (b61, _) :: (b59, _) :: (b20, _) :: Hyx63 := hHx63
      subst hHx63
      replace h0 := h0.mono hRx63
      replace h2_3 := h2_3.mono hRx63
      replace h2_4 := h2_4.mono hRx63
      replace h2_5 := h2_5.mono hRx63
      replace hc2 := hc2.up (H := []) hRx63
      replace hc3 := hc3.up (H := []) hRx63
      replace hc4 := hc4.up (H := []) hRx63
      replace hf64 := hf64.mono hRx63
      replace hx21r0 := hx21r0.mono hRx63
      replace hY := hY.up hRx63
      refine ⟨_, (.put rfl), ⟨hRx63, (ku (so (so (sk sn)))), ?_⟩⟩
      refine Any.vs 1 [11] rfl ?_
      exact Any.done (At.drop (so (so sr)) (hcut65 _ _ _ ⟨((hRx58.trans hRf64).trans hRx63), Hyx63, hIx63, rfl, SubT.sub ⟨rfl, rfl, rfl, rfl, rfl, rfl, rfl, trivial⟩⟩))
     refine  (SemTo.to (Ox.buildSlice (cells := #[_]) rfl elem25 rfl (by decide) base25_1 (fill_cons rfl rfl rfl rfl fill_nil) rfl fun b61 _ _ => ⟨_, (.put rfl), ⟨rr, (ku (so (so (sk sn)))), ?_⟩⟩))
     refine Any.cv 2 ent125 (m125_ok x0 h0.rd hx58) ?_
     rintro vx58 Rx58 _ ⟨hRx58, _, Hsx58, hox58, rfl, rfl⟩
     replace h0 := h0.mono hRx58
     replace h2_3 := h2_3.mono hRx58
     replace h2_4 := h2_4.mono hRx58
     replace h2_5 := h2_5.mono hRx58
     replace hI27s_0 := hY.mono (rr) hRx58 hI27s_0
     replace hc2 := hc2.up (H := []) hRx58
     replace hc3 := hc3.up (H := []) hRx58
     replace hc4 := hc4.up (H := []) hRx58
     replace hx21r0 := hx21r0.mono hRx58
     replace hY := hY.up hRx58
     refine ⟨hRx58, (ku (subDrop (so (so (sk sn))))), ?_⟩
     refine Any.on 5 rfl rfl (SemTo.to (Ox.append (K := CZ) (fun X => X ++ ((b61, _) :: (b59, _) :: (b20, _) :: Hy27s_0)) rfl rfl rfl app25 Tryz.underlying25 (by simp) .id hox58 (ArgSl.lit (List.mem_append_right _ z1) (Enc.le (Enc.cons (x := x57) rfl rfl Enc.nil) rfl) rfl) hx60 rfl fun vx60 Hsx60 hox60 => ⟨_, (.put rfl), ⟨rr, (ku (subDrop (so (so (sk sn))))), ?_⟩⟩))
     refine Any.cv 9 ent93 (m93_ok x1 [x57] l1 (RdS.lit (List.mem_append_right _ z0) (Enc.le (Enc.cons (x := x57) rfl rfl Enc.nil) rfl) rfl) hx62) ?_
     rintro _ _ _ ⟨rfl, rfl, lx62r0, rfl⟩
     refine ⟨rr, (ku (subDrop (so (so (sk sn))))), ?_⟩
     refine Any.freezeOwn (H2 := (b61, _) :: (b59, _) :: (b20, _) :: Hy27s_0) (fun X => X ++ ((b61, _) :: (b59, _) :: (b20, _) :: Hy27s_0)) .id rfl hox60 (by decide) (by decide) (fun _ => (su (so (so (sk sn))))) (fun Rf64 hRf64 hf64 => ?_)
     replace h0 := h0.mono hRf64
     replace h2_3 := h2_3.mono hRf64
     replace h2_4 := h2_4.mono hRf64
     replace h2_5 := h2_5.mono hRf64
     replace hI27s_0 := hY.mono (rr) hRf64 hI27s_0
     replace hc2 := hc2.up (H := []) hRf64
     replace hc3 := hc3.up (H := []) hRf64
     replace hc4 := hc4.up (H := []) hRf64
     replace hx21r0 := hx21r0.mono hRf64
     replace hY := hY.up hRf64
     refine Any.on 10 rfl rfl (Ox.callV rfl rfl rfl rfl ent152 rfl rfl ((ih (hY.frame [(b61, _), (b59, _), (b20, _)]) x60 x62 x2 ⟨_, hI27s_0, rfl⟩ hf64 lx62r0 hc2.any h2_3 h2_4 h2_5 hc3 hc4 hx63).mono ?_))
     rintro _ Rx63 _ ⟨hRx63, ⟨Hyx63, hIx63, hHx63⟩, rfl⟩
     replace hHx63 : _ = (b61, _) :: (b59, _) :: (b20, _) :: Hyx63 := hHx63
     subst hHx63
     replace h0 := h0.mono hRx63
     replace h2_3 := h2_3.mono hRx63
     replace h2_4 := h2_4.mono hRx63
     replace h2_5 := h2_5.mono hRx63
     replace hc2 := hc2.up (H := []) hRx63
     replace hc3 := hc3.up (H := []) hRx63
     replace hc4 := hc4.up (H := []) hRx63
     replace hf64 := hf64.mono hRx63
     replace hx21r0 := hx21r0.mono hRx63
     replace hY := hY.up hRx63
     refine ⟨_, (.put rfl), ⟨hRx63, (ku (so (so (sk sn)))), ?_⟩⟩
     refine Any.vs 1 [11] rfl ?_
     exact Any.done (At.drop (so (so sr)) (hcut65 _ _ _ ⟨((hRx58.trans hRf64).trans hRx63), Hyx63, hIx63, rfl, SubT.sub ⟨rfl, rfl, rfl, rfl, rfl, rfl, rfl, trivial⟩⟩))
    refine  (SemTo.to (Ox.buildSlice (cells := #[_]) rfl elem25 rfl (by decide) base25_1 (fill_cons rfl rfl rfl rfl fill_nil) rfl fun b61 _ _ => ⟨_, (.put rfl), ⟨rr, (ku (so (sk sn))), ?_⟩⟩))
    refine tw 2 4 ?_ ?_
    ·refine  (Ox.callV rfl rfl rfl rfl ent125 rfl rfl ((m125_ok x0 h0.rd hx58).mono ?_))
     rintro vx58 Rx58 _ ⟨hRx58, _, Hsx58, hox58, rfl, rfl⟩
     replace h0 := h0.mono hRx58
     replace h2_3 := h2_3.mono hRx58
     replace h2_4 := h2_4.mono hRx58
     replace h2_5 := h2_5.mono hRx58
     replace hI27s_0 := hY.mono (rr) hRx58 hI27s_0
     replace hc2 := hc2.up (H := []) hRx58
     replace hc3 := hc3.up (H := []) hRx58
     replace hc4 := hc4.up (H := []) hRx58
     replace hx21r0 := hx21r0.mono hRx58
     replace hY := hY.up hRx58
     refine ⟨_, (.put rfl), ⟨hRx58, (ku (subDrop (so (sk sn)))), ?_⟩⟩
     refine Any.on 4 rfl rfl (SemTo.to (Ox.buildSlice (cells := #[_]) rfl elem25 rfl (by decide) base25_1 (fill_cons rfl rfl rfl rfl fill_nil) rfl fun b59 _ _ => ⟨_, (.put rfl), ⟨rr, (ku (so (subDrop (so (sk sn))))), ?_⟩⟩))
     refine Any.on 5 rfl rfl (SemTo.to (Ox.append (K := CZ) (fun X => (b59, _) :: X ++ ((b61, _) :: (b20, _) :: Hy27s_0)) rfl rfl rfl app25 Tryz.underlying25 (by simp) (.cons .id) hox58 (ArgSl.lit z0 (Enc.le (Enc.cons (x := x57) rfl rfl Enc.nil) rfl) rfl) hx60 rfl fun vx60 Hsx60 hox60 => ⟨_, (.put rfl), ⟨rr, (ku (so (subDrop (so (sk sn))))), ?_⟩⟩))
     refine Any.cv 9 ent93 (m93_ok x1 [x57] l1 (RdS.lit (.tail _ (List.mem_append_right _ z0)) (Enc.le (Enc.cons (x := x57) rfl rfl Enc.nil) rfl) rfl) hx62) ?_
     rintro _ _ _ ⟨rfl, rfl, lx62r0, rfl⟩
     refine ⟨rr, (ku (so (subDrop (so (sk sn))))), ?_⟩
     refine Any.freezeOwn (H2 := (b59, _) :: (b61, _) :: (b20, _) :: Hy27s_0) (fun X => (b59, _) :: X ++ ((b61, _) :: (b20, _) :: Hy27s_0)) (.cons .id) rfl hox60 (by decide) (by decide) (fun _ => (su (so (so (sk sn))))) (fun Rf64 hRf64 hf64 => ?_)
     replace h0 := h0.mono hRf64
     replace h2_3 := h2_3.mono hRf64
     replace h2_4 := h2_4.mono hRf64
     replace h2_5 := h2_5.mono hRf64
     replace hI27s_0 := hY.mono (rr) hRf64 hI27s_0
     replace hc2 := hc2.up (H := []) hRf64
     replace hc3 := hc3.up (H := []) hRf64
     replace hc4 := hc4.up (H := []) hRf64
     replace hx21r0 := hx21r0.mono hRf64
     replace hY := hY.up hRf64
     refine Any.on 10 rfl rfl (Ox.callV rfl rfl rfl rfl ent152 rfl rfl ((ih (hY.frame [(b59, _), (b61, _), (b20, _)]) x60 x62 x2 ⟨_, hI27s_0, rfl⟩ hf64 lx62r0 hc2.any h2_3 h2_4 h2_5 hc3 hc4 hx63).mono ?_))
     rintro _ Rx63 _ ⟨hRx63, ⟨Hyx63, hIx63, hHx63⟩, rfl⟩
     replace hHx63 : _ = (b59, _) :: (b61, _) :: (b20, _) :: Hyx63 := hHx63
     subst hHx63
     replace h0 := h0.mono hRx63
     replace h2_3 := h2_3.mono hRx63
     replace h2_4 := h2_4.mono hRx63
     replace h2_5 := h2_5.mono hRx63
     replace hc2 := hc2.up (H := []) hRx63
     replace hc3 := hc3.up (H := []) hRx63
     replace hc4 := hc4.up (H := []) hRx63
     replace hf64 := hf64.mono hRx63
     replace hx21r0 := hx21r0.mono hRx63
     replace hY := hY.up hRx63
     refine ⟨_, (.put rfl), ⟨hRx63, (ku (so (so (sk sn)))), ?_⟩⟩
     refine Any.vs 1 [11] rfl ?_
     exact Any.done (At.drop (so (so sr)) (hcut65 _ _ _ ⟨((hRx58.trans hRf64).trans hRx63), Hyx63, hIx63, rfl, SubT.sub ⟨rfl, rfl, rfl, rfl, rfl, rfl, rfl, trivial⟩⟩))
    refine  (SemTo.to (Ox.buildSlice (cells := #[_]) rfl elem25 rfl (by decide) base25_1 (fill_cons rfl rfl rfl rfl fill_nil) rfl fun b59 _ _ => ⟨_, (.put rfl), ⟨rr, (ku (so (so (sk sn)))), ?_⟩⟩))
    refine Any.cv 2 ent125 (m125_ok x0 h0.rd hx58) ?_
    rintro vx58 Rx58 _ ⟨hRx58, _, Hsx58, hox58, rfl, rfl⟩
    replace h0 := h0.mono hRx58
    replace h2_3 := h2_3.mono hRx58
    replace h2_4 := h2_4.mono hRx58
    replace h2_5 := h2_5.mono hRx58
    replace hI27s_0 := hY.mono (rr) hRx58 hI27s_0
    replace hc2 := hc2.up (H := []) hRx58
    replace hc3 := hc3.up (H := []) hRx58
    replace hc4 := hc4.up (H := []) hRx58
    replace hx21r0 := hx21r0.mono hRx58
    replace hY := hY.up hRx58
    refine ⟨hRx58, (ku (subDrop (so (so (sk sn))))), ?_⟩
    refine Any.on 5 rfl rfl (SemTo.to (Ox.append (K := CZ) (fun X => X ++ ((b59, _) :: (b61, _) :: (b20, _) :: Hy27s_0)) rfl rfl rfl app25 Tryz.underlying25 (by simp) .id hox58 (ArgSl.lit (List.mem_append_right _ z0) (Enc.le (Enc.cons (x := x57) rfl rfl Enc.nil) rfl) rfl) hx60 rfl fun vx60 Hsx60 hox60 => ⟨_, (.put rfl), ⟨rr, (ku (subDrop (so (so (sk sn))))), ?_⟩⟩))
    refine Any.cv 9 ent93 (m93_ok x1 [x57] l1 (RdS.lit (List.mem_append_right _ z1) (Enc.le (Enc.cons (x := x57) rfl rfl Enc.nil) rfl) rfl) hx62) ?_
    rintro _ _ _ ⟨rfl, rfl, lx62r0, rfl⟩
    refine ⟨rr, (ku (subDrop (so (so (sk sn))))), ?_⟩
    refine Any.freezeOwn (H2 := (b59, _) :: (b61, _) :: (b20, _) :: Hy27s_0) (fun X => X ++ ((b59, _) :: (b61, _) :: (b20, _) :: Hy27s_0)) .id rfl hox60 (by decide) (by decide) (fun _ => (su (so (so (sk sn))))) (fun Rf64 hRf64 hf64 => ?_)
    replace h0 := h0.mono hRf64
    replace h2_3 := h2_3.mono hRf64
    replace h2_4 := h2_4.mono hRf64
    replace h2_5 := h2_5.mono hRf64
    replace hI27s_0 := hY.mono (rr) hRf64 hI27s_0
    replace hc2 := hc2.up (H := []) hRf64
    replace hc3 := hc3.up (H := []) hRf64
    replace hc4 := hc4.up (H := []) hRf64
    replace hx21r0 := hx21r0.mono hRf64
    replace hY := hY.up hRf64
    refine Any.on 10 rfl rfl (Ox.callV rfl rfl rfl rfl ent152 rfl rfl ((ih (hY.frame [(b59, _), (b61, _), (b20, _)]) x60 x62 x2 ⟨_, hI27s_0, rfl⟩ hf64 lx62r0 hc2.any h2_3 h2_4 h2_5 hc3 hc4 hx63).mono ?_))
    rintro _ Rx63 _ ⟨hRx63, ⟨Hyx63, hIx63, hHx63⟩, rfl⟩
    replace hHx63 : _ = (b59, _) :: (b61, _) :: (b20, _) :: Hyx63 := hHx63
    subst hHx63
    replace h0 := h0.mono hRx63
    replace h2_3 := h2_3.mono hRx63
    replace h2_4 := h2_4.mono hRx63
    replace h2_5 := h2_5.mono hRx63
    replace hc2 := hc2.up (H := []) hRx63
    replace hc3 := hc3.up (H := []) hRx63
    replace hc4 := hc4.up (H := []) hRx63
    replace hf64 := hf64.mono hRx63
    replace hx21r0 := hx21r0.mono hRx63
    replace hY := hY.up hRx63
    refine ⟨_, (.put rfl), ⟨hRx63, (ku (so (so (sk sn)))), ?_⟩⟩
    refine Any.vs 1 [11] rfl ?_
    exact Any.done (At.drop (so (so sr)) (hcut65 _ _ _ ⟨((hRx58.trans hRf64).trans hRx63), Hyx63, hIx63, rfl, SubT.sub ⟨rfl, rfl, rfl, rfl, rfl, rfl, rfl, trivial⟩⟩))
   exact At.exit rfl (At.drop (so sr) (ex27_0 _ (sinj hM).symm _ _ _ ⟨hR27, Hy27s_0, hI27s_0, rfl, SubT.sub trivial⟩))
  rintro p27_0 R27_0 H27_0 st27_0 ⟨hR27_0, Hy27_0_0, hI27_0_0, rfl, hst27_0⟩ hM
  refine At.sub hst27_0 ?_
  replace hY := hY.up hR27_0
  refine sg rg1 ?_
  refine vs 1 ?_
  refine er ?_
  obtain rfl := sinj hM
  exact rt Tryz.func152 (.tmp rfl .nil) sr (hk _ _ _ ⟨(hRx21.trans hR27_0), hI27_0_0, rfl⟩)
theorem m108_ok {S : Type} {ys : (List Int) → S → Option (S × Bool)} {vY : Value} {Inv : S → RMap → HList → Prop} {R : RMap} {Hy : HList} (hY : HandS 𝒥 R (VSl CZ 1) vY ys Inv) (x0 : HullBook) {s0 : S} (hI : Inv s0 R Hy) {v0_3 v0_4 v0_5 : Value} (h0_3 : SlR CHullPiece 5 R v0_3 x0.Pieces) (h0_4 : SlR CZ 1 R v0_4 x0.Out) (h0_5 : SlR CHullHeel 2 R v0_5 x0.Heels) {r : S} (hM : m108 ys x0 s0 = some r) : FnOk 𝒥 108 #[.agg #[iv x0.Limit, iv x0.Ballast.Least, iv x0.Ballast.Most, v0_3, v0_4, v0_5], vY] R Hy (fun v R' H' => RLe R R' ∧ Inv r R' H' ∧ v = .tuple #[]) := by
 unfold m108 at hM
 refine FnOk.of_at Tryz.func108 rfl (n := 13) rfl rfl fun fr cs hk => ?_
 refine sg rg2 ?_
 refine bx fun b20 => ?_
 refine At.s rfl rfl (Ox.box1 rfl rfl hY.cells rfl fun b21 _ _ => ⟨_, (.put rfl), ?_⟩)
 refine nx rg1 ?_
 refine At.s rfl rfl (Ox.alloc (cs := #[.nilFunc]) rfl zero175 rfl fun b22 _ _ => ⟨_, (.put rfl), ?_⟩)
 refine nx rg2 ?_
 refine At.s rfl rfl (Ox.makeFunc (vs := #[]) (us := #[_, _, _]) rfl rfl rfl rfl (.put rfl) ?_)
 refine At.s rfl rfl (Ox.store1 (cs' := #[_]) rfl rfl rfl one175 rfl .here rfl rfl rfl (.refl _) ?_)
 refine er ?_
 refine At.freezeBox (H2 := (b22, _) :: (b21, _) :: Hy) (fun X => (b22, _) :: (b21, _) :: X ++ (Hy)) (.cons (.cons .id)) rfl (fun Rf23 hRf23 hcf23 => ?_)
 replace h0_3 := h0_3.mono hRf23
 replace h0_4 := h0_4.mono hRf23
 replace h0_5 := h0_5.mono hRf23
 replace hI := hY.mono (rr) hRf23 hI
 replace hY := hY.up hRf23
 refine At.freezeBox (H2 := (b22, _) :: Hy) (fun X => (b22, _) :: X ++ (Hy)) (.cons .id) rfl (fun Rf24 hRf24 hcf24 => ?_)
 replace h0_3 := h0_3.mono hRf24
 replace h0_4 := h0_4.mono hRf24
 replace h0_5 := h0_5.mono hRf24
 replace hI := hY.mono (rr) hRf24 hI
 replace hcf23 := hcf23.up (H := []) hRf24
 replace hY := hY.up hRf24
 refine At.freezeBox (H2 := Hy) (fun X => X ++ (Hy)) .id rfl (fun Rf25 hRf25 hcf25 => ?_)
 replace h0_3 := h0_3.mono hRf25
 replace h0_4 := h0_4.mono hRf25
 replace h0_5 := h0_5.mono hRf25
 replace hI := hY.mono (rr) hRf25 hI
 replace hcf23 := hcf23.up (H := []) hRf25
 replace hcf24 := hcf24.up (H := []) hRf25
 replace hY := hY.up hRf25
 refine At.draw (n := 7) (is := [0, 1, 2, 3, 4, 5, 6]) (fun _ => []) mixed rfl (by decide +kernel) rfl rfl ?_
 refine ts 0 [6] rfl (fun _ _ _ _ _ h => h) (su sn) (fun R' H' hR hS => Ox.load1 rfl rfl one175 ((hcf25.up hR).one (j := 0) rfl) rfl (.one rfl) ⟨rfl, rfl, rfl⟩) ?_
 refine ts 1 [5, 6] rfl (fun _ _ _ _ _ h => h) (su sn) (fun R' H' hR hS => Ox.buildZ (z := (List.toArray ([] ++ ([false, false, false, false, false].map Value.bool ++ [])))) rfl arrz112 rfl (.one rfl) ⟨rfl, rfl, rfl⟩) ?_
 refine Any.vs 2 [2, 3] rfl ?_
 refine ts 4 [5, 6] rfl (fun _ _ _ _ _ h => h) (su sn) (fun R' H' hR hS => Ox.load1 rfl rfl one25 ((hcf23.up hR).one (j := 4) rfl) rfl (.one rfl) ⟨rfl, rfl, rfl⟩) ?_
 obtain ⟨x26, hx26, hM⟩ := bnd hM
 refine Any.cv 5 ent93 (m93_ok [false, false, false, false, false] x0.Out rfl h0_4.rd hx26) ?_
 rintro _ _ _ ⟨rfl, rfl, lx26r0, rfl⟩
 refine ⟨rr, (ku sn), ?_⟩
 obtain ⟨x27, hx27, hM⟩ := bnd hM
 refine Any.on 6 rfl rfl (Ox.callV rfl rfl rfl rfl ent152 rfl rfl ((m152_ok 9  (hY.frame []) [] x26 x0 ⟨_, hI, rfl⟩ SlR.nil lx26r0 hcf23.any h0_3 h0_4 h0_5 hcf24 hcf25 hx27).mono ?_))
 rintro _ Rx27 _ ⟨hRx27, ⟨Hyx27, hIx27, hHx27⟩, rfl⟩
 replace hHx27 : Hyx27 = _ := hHx27.symm
 subst hHx27
 replace hcf23 := hcf23.up (H := []) hRx27
 replace hcf24 := hcf24.up (H := []) hRx27
 replace hcf25 := hcf25.up (H := []) hRx27
 replace hY := hY.up hRx27
 refine ⟨_, (.put rfl), ⟨hRx27, (ku sn), ?_⟩⟩
 refine Any.done ?_
 obtain rfl := sinj hM
 exact At.endR Tryz.func108 .nil (J.drop sr (hk _ _ _ ⟨(((hRf23.trans hRf24).trans hRf25).trans hRx27), hIx27, rfl⟩))
theorem m25_ok (x0 : HullBook) {v0_3 v0_4 v0_5 : Value} (hG : GOk R) (hK : Reckons 𝒥) (h0_3 : SlR CHullPiece 5 R v0_3 x0.Pieces) (h0_4 : SlR CZ 1 R v0_4 x0.Out) (h0_5 : SlR CHullHeel 2 R v0_5 x0.Heels) {r : (Int × Int)} (hM : m25 x0 = some r) : FnOk 𝒥 25 #[.agg #[iv x0.Limit, iv x0.Ballast.Least, iv x0.Ballast.Most, v0_3, v0_4, v0_5]] R H (fun v R' H' => RLe R R' ∧ H = H' ∧ v = .tuple #[iv r.1, iv r.2]) := by
 unfold m25 at hM
 refine FnOk.of_at Tryz.func25 rfl (n := 38) rfl rfl fun fr cs hk => ?_
 refine sg rg3 ?_
 refine bx fun b47 => ?_
 refine vs 2 ?_
 refine er ?_
 refine At.scope ?_
 refine sg rg8 ?_
 refine lN [_, _, _, _, _, _] 0 6 agg28 z0 ?_
 obtain ⟨x48, hx48, hM⟩ := bnd hM
 refine At.cv ent89 (m89_ok x0 (fun y => m90 y) hG h0_3 h0_4 h0_5 ⟨90, #[], #[], rfl, ent90, fun R' H' hR hH y r va hA hr => by obtain ⟨_, rfl, ⟨vy_3, vy_4, vy_5, hy_3, hy_4, hy_5, rfl⟩⟩ := hA; exact (m90_ok y hy_3 hy_4 hy_5 hr).mono fun _ _ _ ⟨h1, h2, h3⟩ => ⟨h1 ▸ rr, h2.symm, h3⟩⟩ hx48) ?_
 rintro _ Rx48 _ ⟨hRx48, Hsx48, vx48r0_3, vx48r0_4, vx48r0_5, vx48r0_6, vx48r0_7, hx48r0_3, hx48r0_4, hx48r0_5, hx48r0_6, hx48r0_7, rfl, rfl⟩
 refine vs 3 ?_
 refine At.s rfl rfl (Ox.alloc (cs := #[iv 0, iv 0, iv 0, .slice none 0 0, .slice none 0 0, .slice none 0 0, .slice none 0 0, .map none]) rfl zero106 rfl fun b49 _ _ => ⟨_, (.put rfl), ?_⟩)
 refine At.s rfl rfl (Ox.storeN (cs' := #[_, _, _, _, _, _, _, _]) rfl rfl rfl agg106 rfl (ones_cons rfl (ones_cons rfl (ones_cons rfl (ones_cons hx48r0_3.one (ones_cons hx48r0_4.one (ones_cons hx48r0_5.one (ones_cons hx48r0_6.one (ones_cons hx48r0_7.one ones_nil)))))))) .here rfl rfl rfl (.refl _) ?_)
 refine vs 1 ?_
 refine es ?_
 refine sg rg2 ?_
 refine vs 2 ?_
 refine er ?_
 refine sc hM (fun ht52 hM => ?_) (fun ht52 hM => ?_)
 ·refine sg rg3 ?_
  refine vs 3 ?_
  refine er ?_
  obtain rfl := sinj hM
  exact rt Tryz.func25 (.tmp rfl (.tmp rfl .nil)) (so (subDrop (so sr))) (hk _ _ _ ⟨hRx48, rfl, rfl⟩)
 refine sp ?_
 refine sg rg2 ?_
 refine lN [_, _, _, _, _, _, _, _] 0 8 agg106 z0 ?_
 obtain ⟨x53, hx53, hM⟩ := bnd hM
 refine At.step rfl rfl rfl (Ox.callV rfl rfl rfl rfl ent91 rfl rfl ((FnOk.hole (G := (fun X => (b49, _) :: X ++ ((b47, _) :: H))) (.cons .id) (hK x48.1 hx48r0_3 hx48r0_4 hx48r0_5 hx48r0_6 hx48r0_7 hx53)).mono ?_))
 rintro _ Rx53 _ ⟨_, ⟨hRx53, hmx53, rfl, rfl⟩, rfl⟩
 replace hx48r0_3 := hx48r0_3.mono hRx53
 replace hx48r0_4 := hx48r0_4.mono hRx53
 replace hx48r0_5 := hx48r0_5.mono hRx53
 refine ⟨_, (.put rfl), ?_⟩
 refine nx rg2 ?_
 refine At.s rfl rfl (Ox.alloc (cs := #[iv 0]) rfl zero3 rfl fun b54 _ _ => ⟨_, (.put rfl), ?_⟩)
 refine At.s rfl rfl (Ox.store1 (cs' := #[_]) rfl rfl rfl one3 rfl .here rfl rfl rfl (.refl _) ?_)
 refine es ?_
 refine At.label ?_
 refine sq ?_
 refine sg rg3 ?_
 refine vs 1 ?_
 refine lN [_, _, _, _, _, _] 0 6 agg102 z1 ?_
 refine At.s rfl rfl (Ox.makeFunc (vs := #[_]) (us := #[]) rfl rfl rfl rfl (.put rfl) ?_)
 refine er ?_
 refine At.block ?_
 refine At.rangeF0 (A := (VSl CZ 1)) (fun y s => m108 y x48.1.book s)  hM rfl ent108 rfl rfl rfl (fun (s55 : Int) R' T H' => RLe Rx53 R' ∧ H' = (b54, .cells #[iv s55] 3) :: (b49, .cells #[iv x48.1.book.Limit, iv x48.1.book.Ballast.Least, iv x48.1.book.Ballast.Most, vx48r0_3, vx48r0_4, vx48r0_5, vx48r0_6, vx48r0_7] 106) :: (b47, .cells #[iv x0.Limit, iv x0.Ballast.Least, iv x0.Ballast.Most, v0_3, v0_4, v0_5] 28) :: T)  (fun s55 R0 T0 H0 q => by obtain ⟨hR, rfl⟩ := q; exact ⟨(b54, .cells #[iv s55] 3) :: (b49, .cells #[iv x48.1.book.Limit, iv x48.1.book.Ballast.Least, iv x48.1.book.Ballast.Most, vx48r0_3, vx48r0_4, vx48r0_5, vx48r0_6, vx48r0_7] 106) :: (b47, .cells #[iv x0.Limit, iv x0.Ballast.Least, iv x0.Ballast.Most, v0_3, v0_4, v0_5] 28) :: [], by simp, fun R1 T1 h => ⟨hR.trans h, by simp⟩⟩)  (fun v Inv Hy z hY hI hz => (m108_ok hY x48.1.book hI hx48r0_3 hx48r0_4 hx48r0_5 hz).mono fun _ _ _ h => ⟨h.1, h.2.1⟩) ⟨rr, rfl⟩ ?_ ?_
 ·rintro r55 s55 R55 H55q _ ⟨hR55, rfl⟩ hM
  refine At.inBlock ?_
  refine sg rg3 ?_
  refine ld 0 one3 z0 ?_
  refine vs 2 ?_
  refine er ?_
  obtain rfl := sinj hM
  exact At.retD (.there (.there (.there .here))) Tryz.func25 (.tmp rfl (.tmp rfl .nil)) (J.drop (so (so (so (so sr)))) (hk _ _ _ ⟨((hRx48.trans hRx53).trans hR55), rfl, rfl⟩))
 rintro va55 x55e s55 R55 T55 H55 l55 ld55 cs55 _ hT55 hA55 ⟨hR55, rfl⟩ hld55 z55 hM again55
 replace hmx53 := hmx53.mono hR55
 replace hx48r0_3 := hx48r0_3.mono hR55
 replace hx48r0_4 := hx48r0_4.mono hR55
 replace hx48r0_5 := hx48r0_5.mono hR55
 refine At.rg rg1 ?_
 refine vs 1 ?_
 refine er ?_
 refine At.beginRound rfl rfl (.there (.there (.there .here))) hld55 ?_
 refine At.block ?_
 refine sq ?_
 refine sg rg4 ?_
 refine vs 1 ?_
 refine lN [_, _, _, _, _, _] 0 6 agg102 z1 ?_
 refine vs 1 ?_
 obtain ⟨x68, hx68, hM⟩ := bnd hM
 refine At.cv ent102 (m102_ok x48.1.book x55e hx48r0_3 hx48r0_4 hx48r0_5 hA55 hx68) ?_
 rintro _ Rx68 _ ⟨hRx68, rfl, vx68r0c0_3, vx68r0c0_4, vx68r0c0_5, bx68r0c0, vx68r0c1, bx68r0c1, hx68r0c0q, hx68r0c0_3, hx68r0c0_4, hx68r0c0_5, hx68r0c1q, hx68r0c1, rfl⟩
 replace hmx53 := hmx53.mono hRx68
 refine er ?_
 refine At.block ?_
 refine At.rangeIn1 (A := (VAgg (CArr Value.bool 5))) (fun y s => m151 y x68.1 x68.2 s) (.exit 1) hM rfl ent151 rfl rfl z3 rfl (fun (s69 : Unit) R' T H' => RLe Rx68 R' ∧ H' = (b54, .cells #[iv s55] 3) :: (b49, .cells #[iv x48.1.book.Limit, iv x48.1.book.Ballast.Least, iv x48.1.book.Ballast.Most, vx48r0_3, vx48r0_4, vx48r0_5, vx48r0_6, vx48r0_7] 106) :: (b47, .cells #[iv x0.Limit, iv x0.Ballast.Least, iv x0.Ballast.Most, v0_3, v0_4, v0_5] 28) :: (l55, .loop { ld55 with state := .busy }) :: T) (fun (p69_0 : Unit) R' T H' => RLe Rx68 R' ∧ H' = (b54, .cells #[iv s55] 3) :: (b49, .cells #[iv x48.1.book.Limit, iv x48.1.book.Ballast.Least, iv x48.1.book.Ballast.Most, vx48r0_3, vx48r0_4, vx48r0_5, vx48r0_6, vx48r0_7] 106) :: (b47, .cells #[iv x0.Limit, iv x0.Ballast.Least, iv x0.Ballast.Most, v0_3, v0_4, v0_5] 28) :: (l55, .loop { ld55 with state := .busy }) :: T) (fun s69 R0 T0 H0 q => by obtain ⟨hR, rfl⟩ := q; exact ⟨(b54, .cells #[iv s55] 3) :: (b49, .cells #[iv x48.1.book.Limit, iv x48.1.book.Ballast.Least, iv x48.1.book.Ballast.Most, vx48r0_3, vx48r0_4, vx48r0_5, vx48r0_6, vx48r0_7] 106) :: (b47, .cells #[iv x0.Limit, iv x0.Ballast.Least, iv x0.Ballast.Most, v0_3, v0_4, v0_5] 28) :: (l55, .loop { ld55 with state := .busy }) :: [], by simp, fun R1 T1 h => ⟨hR.trans h, by simp⟩⟩) (fun p69_0 R0 T0 H0 q => by obtain ⟨hR, rfl⟩ := q; exact ⟨(b54, .cells #[iv s55] 3) :: (b49, .cells #[iv x48.1.book.Limit, iv x48.1.book.Ballast.Least, iv x48.1.book.Ballast.Most, vx48r0_3, vx48r0_4, vx48r0_5, vx48r0_6, vx48r0_7] 106) :: (b47, .cells #[iv x0.Limit, iv x0.Ballast.Least, iv x0.Ballast.Most, v0_3, v0_4, v0_5] 28) :: (l55, .loop { ld55 with state := .busy }) :: [], by simp, fun R1 T1 h => ⟨hR.trans h, by simp⟩⟩) (fun v Inv Hy z hY hI hz => (m151_ok hY x68.1 x68.2 hI hx68r0c0q hx68r0c0_3 hx68r0c0_4 hx68r0c0_5 hx68r0c1q hx68r0c1 hz).mono fun _ _ _ h => ⟨h.1, h.2.1⟩) ⟨rr, rfl⟩ ?_ ?_ ?_
 ·rintro s69 R69 H69q _ ⟨hR69, rfl⟩ hM
  refine At.inBlock ?_
  refine At.rg rg3 ?_
  refine ld 0 one3 z0 ?_
  refine vs 1 ?_
  refine At.s rfl rfl (Ox.store1 (cs' := #[_]) rfl rfl rfl one3 rfl .here rfl rfl rfl (.refl _) ?_)
  refine er ?_
  refine At.inBlock ?_
  exact again55 _ (sinj hM).symm _ _ _ (hRx68.trans hR69) ⟨((hR55.trans hRx68).trans hR69), rfl⟩
 ·rintro p69_0 R69_0 H69q _ ⟨hR69_0, rfl⟩ hM
  refine At.exit rfl ?_
  exact again55 _ (sinj hM).symm _ _ _ (hRx68.trans hR69_0) ⟨((hR55.trans hRx68).trans hR69_0), rfl⟩
 rintro va69 x69e s69 R69 T69 H69 l69 ld69 cs69 _ hT69 ⟨_, rfl, ⟨lx69e, rfl⟩⟩ ⟨hR69, rfl⟩ hld69 z69 hM again69 ex69_0
 replace hmx53 := hmx53.mono hR69
 refine At.rg rg2 ?_
 refine At.s rfl rfl (Ox.alloc (cs := (List.toArray ([] ++ ([false, false, false, false, false].map Value.bool ++ [])))) rfl zero112 rfl fun b72 _ _ => ⟨_, (.put rfl), ?_⟩)
 refine At.s rfl rfl (Ox.storeN (cs' := _) rfl rfl rfl agg112 (by simp [lx69e]) (ones_app ones_nil (ones_app (ones_map fun _ => rfl) ones_nil)) .here (by simp) (putCells_whole (by simp [lx69e])) rfl (.refl _) ?_)
 refine er ?_
 refine At.beginRound rfl rfl (.there (.there (.there (.there (.there .here))))) hld69 ?_
 refine At.block ?_
 refine sq ?_
 refine At.dw rg7 mixed ?_
 refine Any.vs 1 [0] rfl ?_
 refine tl 1 7 one104 z2 ?_
 refine Any.tk 2 rfl pp (fun R' H' hR hS => Ox.loadN (vs := _) rfl rfl agg112 (by simp [lx69e]) ((CellsAt.box (hS _ z0)).part (j := 0) (n := 5) (take_all (by simp [lx69e]))) rfl (.one rfl) ⟨rfl, rfl, rfl⟩) ?_
 refine Any.tk 3 rfl pp (fun R' H' hR hS => Ox.lookup (k := x69e) rfl rfl rfl map104 (hmx53.mono hR) lx69e rfl (.one rfl) ⟨rfl, rfl, rfl⟩) ?_
 refine Any.vs 1 [4] rfl ?_
 refine tl 5 0 one3 z3 ?_
 refine Any.vs 1 [6] rfl ?_
 refine Any.done ?_
 refine sc hM (fun ht73 hM => ?_) (fun ht73 hM => ?_)
 ·exact At.drop (so sr) (ex69_0 _ (sinj hM).symm _ _ _ _ (rr) ⟨hR69, rfl⟩ (.inr (.inr ⟨_, _, rfl, rfl, rfl⟩)))
 refine sp ?_
 refine At.inBlock ?_
 exact At.drop (so sr) (again69 _ (sinj hM).symm _ _ _ (rr) ⟨hR69, rfl⟩)
theorem m27_ok (x0 : HullBook) {v0_3 v0_4 v0_5 : Value} (hG : GOk R) (hK : Reckons 𝒥) (h0_3 : SlR CHullPiece 5 R v0_3 x0.Pieces) (h0_4 : SlR CZ 1 R v0_4 x0.Out) (h0_5 : SlR CHullHeel 2 R v0_5 x0.Heels) {r : ((List Int) × Bool × Int)} (hM : m27 x0 = some r) : FnOk 𝒥 27 #[.agg #[iv x0.Limit, iv x0.Ballast.Least, iv x0.Ballast.Most, v0_3, v0_4, v0_5]] R H (fun v R' H' => RLe R R' ∧ H = H' ∧ ∃ vr0, SlR CZ 1 R' vr0 r.1 ∧ v = .tuple #[vr0, .bool r.2.1, iv r.2.2]) := by
 unfold m27 at hM
 refine FnOk.of_at Tryz.func27 rfl (n := 28) rfl rfl fun fr cs hk => ?_
 refine sg rg4 ?_
 refine bx fun b35 => ?_
 refine At.s rfl rfl (Ox.alloc (cs := #[.slice none 0 0]) rfl zero25 rfl fun b36 _ _ => ⟨_, (.put rfl), ?_⟩)
 refine At.s rfl rfl (Ox.alloc (cs := #[.bool false]) rfl zero4 rfl fun b37 _ _ => ⟨_, (.put rfl), ?_⟩)
 refine At.s rfl rfl (Ox.alloc (cs := #[iv 0]) rfl zero31 rfl fun b38 _ _ => ⟨_, (.put rfl), ?_⟩)
 refine nx rg8 ?_
 refine lN [_, _, _, _, _, _] 0 6 agg28 z3 ?_
 obtain ⟨x39, hx39, hM⟩ := bnd hM
 refine At.cv ent89 (m89_ok x0 (fun y => m90 y) hG h0_3 h0_4 h0_5 ⟨90, #[], #[], rfl, ent90, fun R' H' hR hH y r va hA hr => by obtain ⟨_, rfl, ⟨vy_3, vy_4, vy_5, hy_3, hy_4, hy_5, rfl⟩⟩ := hA; exact (m90_ok y hy_3 hy_4 hy_5 hr).mono fun _ _ _ ⟨h1, h2, h3⟩ => ⟨h1 ▸ rr, h2.symm, h3⟩⟩ hx39) ?_
 rintro _ Rx39 _ ⟨hRx39, Hsx39, vx39r0_3, vx39r0_4, vx39r0_5, vx39r0_6, vx39r0_7, hx39r0_3, hx39r0_4, hx39r0_5, hx39r0_6, hx39r0_7, rfl, rfl⟩
 refine vs 3 ?_
 refine At.s rfl rfl (Ox.alloc (cs := #[iv 0, iv 0, iv 0, .slice none 0 0, .slice none 0 0, .slice none 0 0, .slice none 0 0, .map none]) rfl zero106 rfl fun b40 _ _ => ⟨_, (.put rfl), ?_⟩)
 refine At.s rfl rfl (Ox.storeN (cs' := #[_, _, _, _, _, _, _, _]) rfl rfl rfl agg106 rfl (ones_cons rfl (ones_cons rfl (ones_cons rfl (ones_cons hx39r0_3.one (ones_cons hx39r0_4.one (ones_cons hx39r0_5.one (ones_cons hx39r0_6.one (ones_cons hx39r0_7.one ones_nil)))))))) .here rfl rfl rfl (.refl _) ?_)
 refine At.s rfl rfl (Ox.store1 (cs' := #[_]) rfl rfl rfl one31 rfl (.there (.skip .here)) rfl rfl rfl (.refl _) ?_)
 refine es ?_
 refine sg rg2 ?_
 refine At.ld one31 ((CellsAt.box (.tail _ (List.mem_append_right _ z0))).one (j := 0) rfl) ?_
 refine vs 1 ?_
 refine er ?_
 refine sc hM (fun ht43 hM => ?_) (fun ht43 hM => ?_)
 ·refine sq ?_
  refine At.draw (n := 4) (is := [0, 1, 2, 3]) (many ((b40, .cells #[iv x39.1.book.Limit, iv x39.1.book.Ballast.Least, iv x39.1.book.Ballast.Most, vx39r0_3, vx39r0_4, vx39r0_5, vx39r0_6, vx39r0_7] 106) :: Hsx39 ++ ((b38, .cells #[iv x39.2] 31) :: (b37, .cells #[.bool false] 4) :: (b36, .cells #[.slice none 0 0] 25) :: (b35, .cells #[iv x0.Limit, iv x0.Ballast.Least, iv x0.Ballast.Most, v0_3, v0_4, v0_5] 28) :: H)) [(1, (b40, .cells #[iv x39.1.book.Limit, iv x39.1.book.Ballast.Least, iv x39.1.book.Ballast.Most, vx39r0_3, vx39r0_4, vx39r0_5, vx39r0_6, vx39r0_7] 106) :: Hsx39 ++ ((b38, .cells #[iv x39.2] 31) :: (b37, .cells #[.bool false] 4) :: (b35, .cells #[iv x0.Limit, iv x0.Ballast.Least, iv x0.Ballast.Most, v0_3, v0_4, v0_5] 28) :: H)), (2, (b40, .cells #[iv x39.1.book.Limit, iv x39.1.book.Ballast.Least, iv x39.1.book.Ballast.Most, vx39r0_3, vx39r0_4, vx39r0_5, vx39r0_6, vx39r0_7] 106) :: Hsx39 ++ ((b38, .cells #[iv x39.2] 31) :: (b35, .cells #[iv x0.Limit, iv x0.Ballast.Least, iv x0.Ballast.Most, v0_3, v0_4, v0_5] 28) :: H)), (3, (b40, .cells #[iv x39.1.book.Limit, iv x39.1.book.Ballast.Least, iv x39.1.book.Ballast.Most, vx39r0_3, vx39r0_4, vx39r0_5, vx39r0_6, vx39r0_7] 106) :: Hsx39 ++ ((b35, .cells #[iv x0.Limit, iv x0.Ballast.Least, iv x0.Ballast.Most, v0_3, v0_4, v0_5] 28) :: H))]) mixed rfl (by decide +kernel) rfl rfl ?_
  refine ts 0 [3] rfl (many_keep (su (so (subDrop (sk (so (so sr)))))) (many_keep (su (so (subDrop (sk (so sr))))) (many_skip rfl (many_nil (su (so (subDrop (sk (so (so (so sr))))))))))) (su (so (subDrop (sk (so (so (so sr))))))) (fun R' H' hR hS => Ox.load1 rfl rfl one31 ((CellsAt.box (hS _ z0)).one (j := 0) rfl) rfl (.one rfl) ⟨rfl, rfl, rfl⟩) ?_
  refine Any.on 1 rfl rfl (SemTo.to (Ox.store1 (cs' := #[_]) rfl rfl rfl one25 rfl (.there (.skip (.there (.there .here)))) rfl rfl rfl (.refl _) ⟨rr, (many_at rfl (su (sk (subKeep (sk (sk (so sr))))))), ?_⟩))
  refine Any.on 2 rfl rfl (SemTo.to (Ox.store1 (cs' := #[_]) rfl rfl rfl one4 rfl (.there (.skip (.there .here))) rfl rfl rfl (.refl _) ⟨rr, (many_at rfl (su (sk (subKeep (sk (so (so sr))))))), ?_⟩))
  refine Any.on 3 rfl rfl (SemTo.to (Ox.store1 (cs' := #[_]) rfl rfl rfl one31 rfl (.there (.skip .here)) rfl rfl rfl (.refl _) ⟨rr, (many_at rfl (su (sk (subKeep (so (so (so sr))))))), ?_⟩))
  refine Any.done ?_
  obtain rfl := sinj hM
  exact rt Tryz.func27 (.one rfl one25 ((CellsAt.box (.tail _ (List.mem_append_right _ z2))).one (j := 0) rfl) (.one rfl one4 ((CellsAt.box (.tail _ (List.mem_append_right _ z1))).one (j := 0) rfl) (.one rfl one31 ((CellsAt.box (.tail _ (List.mem_append_right _ z0))).one (j := 0) rfl) .nil))) (so (subDrop (so (so (so (so sr)))))) (hk _ _ _ ⟨hRx39, rfl, .slice none 0 0, SlR.nil, rfl⟩)
 refine sp ?_
 refine sg rg2 ?_
 refine lN [_, _, _, _, _, _, _, _] 0 8 agg106 z0 ?_
 obtain ⟨x44, hx44, hM⟩ := bnd hM
 refine At.step rfl rfl rfl (Ox.callV rfl rfl rfl rfl ent91 rfl rfl ((FnOk.hole (G := (fun X => (b40, _) :: X ++ ((b38, _) :: (b37, _) :: (b36, _) :: (b35, _) :: H))) (.cons .id) (hK x39.1 hx39r0_3 hx39r0_4 hx39r0_5 hx39r0_6 hx39r0_7 hx44)).mono ?_))
 rintro _ Rx44 _ ⟨_, ⟨hRx44, hmx44, rfl, rfl⟩, rfl⟩
 replace hx39r0_3 := hx39r0_3.mono hRx44
 replace hx39r0_4 := hx39r0_4.mono hRx44
 replace hx39r0_5 := hx39r0_5.mono hRx44
 replace hx39r0_6 := hx39r0_6.mono hRx44
 refine ⟨_, (.put rfl), ?_⟩
 refine es ?_
 refine sg rg3 ?_
 refine vs 1 ?_
 refine lN [_, _, _, _, _, _] 0 6 agg102 z0 ?_
 refine At.s rfl rfl (Ox.makeFunc (vs := #[_]) (us := #[]) rfl rfl rfl rfl (.put rfl) ?_)
 refine er ?_
 refine At.block ?_
 refine At.rangeF1 (A := (VSl CZ 1)) (fun y s => m108 y x39.1.book s) .ret hM rfl ent108 rfl rfl rfl (fun (s45 : Unit) R' T H' => RLe Rx44 R' ∧ H' = (b40, .cells #[iv x39.1.book.Limit, iv x39.1.book.Ballast.Least, iv x39.1.book.Ballast.Most, vx39r0_3, vx39r0_4, vx39r0_5, vx39r0_6, vx39r0_7] 106) :: (b38, .cells #[iv x39.2] 31) :: (b37, .cells #[.bool false] 4) :: (b36, .cells #[.slice none 0 0] 25) :: (b35, .cells #[iv x0.Limit, iv x0.Ballast.Least, iv x0.Ballast.Most, v0_3, v0_4, v0_5] 28) :: T) (fun (p45_0 : (List Int)) R' T H' => RLe Rx44 R' ∧ ∃ v45_0_0, SlR CZ 1 R' v45_0_0 p45_0 ∧ H' = (b38, .cells #[iv 0] 31) :: (b37, .cells #[.bool true] 4) :: (b36, .cells #[v45_0_0] 25) :: T) (fun s45 R0 T0 H0 q => by obtain ⟨hR, rfl⟩ := q; exact ⟨(b40, .cells #[iv x39.1.book.Limit, iv x39.1.book.Ballast.Least, iv x39.1.book.Ballast.Most, vx39r0_3, vx39r0_4, vx39r0_5, vx39r0_6, vx39r0_7] 106) :: (b38, .cells #[iv x39.2] 31) :: (b37, .cells #[.bool false] 4) :: (b36, .cells #[.slice none 0 0] 25) :: (b35, .cells #[iv x0.Limit, iv x0.Ballast.Least, iv x0.Ballast.Most, v0_3, v0_4, v0_5] 28) :: [], by simp, fun R1 T1 h => ⟨hR.trans h, by simp⟩⟩) (fun p45_0 R0 T0 H0 q => by obtain ⟨hR, v45_0_0, h45_0_0, rfl⟩ := q; exact ⟨(b38, .cells #[iv 0] 31) :: (b37, .cells #[.bool true] 4) :: (b36, .cells #[v45_0_0] 25) :: [], by simp, fun R1 T1 h => ⟨hR.trans h, v45_0_0, h45_0_0.mono h, by simp⟩⟩) (fun v Inv Hy z hY hI hz => (m108_ok hY x39.1.book hI hx39r0_3 hx39r0_4 hx39r0_5 hz).mono fun _ _ _ h => ⟨h.1, h.2.1⟩) ⟨rr, rfl⟩ ?_ ?_ ?_
 ·rintro r45 s45 R45 H45q _ ⟨hR45, rfl⟩ hM
  refine At.inBlock ?_
  refine sg rg3 ?_
  refine At.s rfl rfl (Ox.store1 (cs' := #[_]) rfl rfl rfl one25 rfl (.there (.there (.there .here))) rfl rfl rfl (.refl _) ?_)
  refine At.s rfl rfl (Ox.store1 (cs' := #[_]) rfl rfl rfl one4 rfl (.there (.there .here)) rfl rfl rfl (.refl _) ?_)
  refine At.s rfl rfl (Ox.store1 (cs' := #[_]) rfl rfl rfl one31 rfl (.there .here) rfl rfl rfl (.refl _) ?_)
  refine er ?_
  obtain rfl := sinj hM
  exact At.retD (.there (.there (.there (.there (.there .here))))) Tryz.func27 (.one rfl one25 ((CellsAt.box z3).one (j := 0) rfl) (.one rfl one4 ((CellsAt.box z2).one (j := 0) rfl) (.one rfl one31 ((CellsAt.box z1).one (j := 0) rfl) .nil))) (J.drop (so (so (so (so (so (so sr)))))) (hk _ _ _ ⟨((hRx39.trans hRx44).trans hR45), rfl, .slice none 0 0, SlR.nil, rfl⟩))
 ·rintro r45 p45_0 R45_0 H45q _ ⟨hR45_0, v45_0_0, h45_0_0, rfl⟩ hM
  obtain rfl := sinj hM
  exact At.retD (.there (.there (.there .here))) Tryz.func27 (.one rfl one25 ((CellsAt.box z2).one (j := 0) rfl) (.one rfl one4 ((CellsAt.box z1).one (j := 0) rfl) (.one rfl one31 ((CellsAt.box z0).one (j := 0) rfl) .nil))) (J.drop (so (so (so (so sr)))) (hk _ _ _ ⟨((hRx39.trans hRx44).trans hR45_0), rfl, v45_0_0, h45_0_0, rfl⟩))
 rintro va45 x45e s45 R45 T45 H45 l45 ld45 cs45 _ hT45 hA45 ⟨hR45, rfl⟩ hld45 z45 hM again45 ex45_0
 replace hmx44 := hmx44.mono hR45
 replace hx39r0_3 := hx39r0_3.mono hR45
 replace hx39r0_4 := hx39r0_4.mono hR45
 replace hx39r0_5 := hx39r0_5.mono hR45
 replace hx39r0_6 := hx39r0_6.mono hR45
 refine At.rg rg1 ?_
 refine vs 1 ?_
 refine er ?_
 refine At.beginRound rfl rfl (.there (.there (.there (.there (.there .here))))) hld45 ?_
 refine At.block ?_
 refine sq ?_
 refine At.dw rg6 mixed ?_
 refine tN 0 [_, _, _, _, _, _, _, _] 0 8 agg106 z0 ?_
 refine Any.vs 2 [1, 3] rfl ?_
 refine tl 4 0 one3 z4 ?_
 obtain ⟨x48, hx48, hM⟩ := bnd hM
 refine Any.cv 2 ent94 (m94_ok (⟨⟨x39.1.book.Limit, ⟨x39.1.book.Ballast.Least, x39.1.book.Ballast.Most⟩, x39.1.book.Pieces, x39.1.book.Out, x39.1.book.Heels⟩, x39.1.alls, x44⟩ : Opened) x45e hx39r0_3 hx39r0_4 hx39r0_5 hx39r0_6 hmx44 hA45 hx48) ?_
 rintro _ Rx48 _ ⟨hRx48, rfl, rfl⟩
 replace hA45 := hA45.mono hRx48
 refine ⟨hRx48, ka, ?_⟩
 refine Any.vs 1 [5] rfl ?_
 refine Any.done ?_
 refine sc hM (fun ht49 hM => ?_) (fun ht49 hM => ?_)
 ·refine sg rg4 ?_
  refine vs 1 ?_
  refine At.s rfl rfl (Ox.store1 (cs' := #[_]) rfl rfl rfl one25 hA45.one (.there (.there (.there .here))) rfl rfl rfl (.refl _) ?_)
  refine At.s rfl rfl (Ox.store1 (cs' := #[_]) rfl rfl rfl one4 rfl (.there (.there .here)) rfl rfl rfl (.refl _) ?_)
  refine At.s rfl rfl (Ox.store1 (cs' := #[_]) rfl rfl rfl one31 rfl (.there .here) rfl rfl rfl (.refl _) ?_)
  refine er ?_
  exact At.drop (so (sk (sk (sk (so sr))))) (ex45_0 _ (sinj hM).symm _ _ _ _ hRx48 ⟨(hR45.trans hRx48), va45, hA45, rfl⟩ (.inr (.inl ⟨_, rfl, rfl⟩)))
 refine sp ?_
 refine At.inBlock ?_
 exact again45 _ (sinj hM).symm _ _ _ hRx48 ⟨(hR45.trans hRx48), rfl⟩
theorem m110_ok (x0 : Least) (x1 : (List Int)) (x2 : Int) {v0_0 v1 : Value} {b0 e0 : Nat} (h0_0 : SlR CZ 1 R v0_0 x0.thing) (h1 : SlR CZ 1 R v1 x1) {r : Least} (hM : m110 x0 x1 x2 = some r) : FnOk 𝒥 110 #[.pointer (some ⟨b0, 0, none⟩), v1, iv x2] R ((b0, .cells #[v0_0, iv x0.number, .bool x0.some_] e0) :: H) (fun v R' H' => ∃ Hs', (RLe R R' ∧ ∃ vr0_0, SlR CZ 1 R' vr0_0 r.thing ∧ v = .tuple #[] ∧ Hs' = [(b0, .cells #[vr0_0, iv r.number, .bool r.some_] e0)]) ∧ H' = Hs' ++ H) := by
 unfold m110 at hM
 refine FnOk.of_at Tryz.func110 rfl (n := 24) rfl rfl fun fr cs hk => ?_
 refine sq ?_
 refine At.joinE1 hM (fun (p24_0 : Bool) R' H' st' => R = R' ∧ H' = (b0, .cells #[v0_0, iv x0.number, .bool x0.some_] e0) :: H ∧ SubL st' [(0, .pointer (some ⟨b0, 0, none⟩)), (1, v1), (2, iv x2), (18, .bool p24_0)])  ?_ ?_
 rotate_right
 ·intro x24 hM ex24_0
  refine At.rg rg13 ?_
  refine vs 1 ?_
  refine At.s rfl rfl (Ox.nilCheck rfl rfl rfl (.put rfl) ?_)
  refine vs 1 ?_
  refine ld 2 one4 z0 ?_
  refine vs 2 ?_
  refine selC hM (fun ht26 hM => ?_) (fun ht26 hM => ?_)
  ·refine At.kn 11 ht26 ?_
   refine vs 7 ?_
   refine er ?_
   exact ex24_0 _ (sinj hM).symm _ _ _ ⟨rfl, rfl, SubT.sub ⟨rfl, rfl, rfl, rfl, trivial⟩⟩
  refine At.kn 11 ht26 ?_
  refine vs 2 ?_
  refine At.s rfl rfl (Ox.nilCheck rfl rfl rfl (.put rfl) ?_)
  refine vs 1 ?_
  refine ld 1 one3 z0 ?_
  refine vs 2 ?_
  refine er ?_
  exact ex24_0 _ (sinj hM).symm _ _ _ ⟨rfl, rfl, SubT.sub ⟨rfl, rfl, rfl, rfl, trivial⟩⟩
 rintro p24_0 R24_0 H24_0 st24_0 ⟨rfl, rfl, hst24_0⟩ hM
 refine At.sub hst24_0 ?_
 refine sc hM (fun ht27 hM => ?_) (fun ht27 hM => ?_)
 ·refine At.rg rg6 ?_
  refine vs 3 ?_
  refine At.s rfl rfl (Ox.build (cells := #[_, _, _]) rfl struct138 rfl (fill_cons rfl h1.cells rfl rfl (fill_cons rfl rfl rfl rfl (fill_cons rfl rfl rfl rfl fill_nil))) rfl (.put rfl) ?_)
  refine At.s rfl rfl (Ox.nilCheck rfl rfl rfl (.put rfl) ?_)
  refine At.s rfl rfl (Ox.storeN (cs' := #[_, _, _]) rfl rfl rfl agg138 rfl (ones_cons h1.one (ones_cons rfl (ones_cons rfl ones_nil))) .here rfl rfl rfl (.refl _) ?_)
  refine er ?_
  obtain rfl := sinj hM
  exact At.endR Tryz.func110 .nil (J.drop sr (hk _ _ _ ⟨_, ⟨(rr), v1, h1, rfl, rfl⟩, rfl⟩))
 refine sp ?_
 obtain rfl := sinj hM
 exact At.endR Tryz.func110 .nil (J.drop sr (hk _ _ _ ⟨_, ⟨(rr), v0_0, h0_0, rfl, rfl⟩, rfl⟩))
theorem m29_ok (x0 : HullBook) {v0_3 v0_4 v0_5 : Value} (hG : GOk R) (hK : Reckons 𝒥) (h0_3 : SlR CHullPiece 5 R v0_3 x0.Pieces) (h0_4 : SlR CZ 1 R v0_4 x0.Out) (h0_5 : SlR CHullHeel 2 R v0_5 x0.Heels) {r : ((List Int) × Int × Int)} (hM : m29 x0 = some r) : FnOk 𝒥 29 #[.agg #[iv x0.Limit, iv x0.Ballast.Least, iv x0.Ballast.Most, v0_3, v0_4, v0_5]] R H (fun v R' H' => RLe R R' ∧ H = H' ∧ ∃ vr0, SlR CZ 1 R' vr0 r.1 ∧ v = .tuple #[vr0, iv r.2.1, iv r.2.2]) := by
 unfold m29 at hM
 refine FnOk.of_at Tryz.func29 rfl (n := 31) rfl rfl fun fr cs hk => ?_
 refine sg rg4 ?_
 refine bx fun b35 => ?_
 refine vs 3 ?_
 refine nx rg8 ?_
 refine lN [_, _, _, _, _, _] 0 6 agg28 z0 ?_
 obtain ⟨x36, hx36, hM⟩ := bnd hM
 refine At.cv ent89 (m89_ok x0 (fun y => m90 y) hG h0_3 h0_4 h0_5 ⟨90, #[], #[], rfl, ent90, fun R' H' hR hH y r va hA hr => by obtain ⟨_, rfl, ⟨vy_3, vy_4, vy_5, hy_3, hy_4, hy_5, rfl⟩⟩ := hA; exact (m90_ok y hy_3 hy_4 hy_5 hr).mono fun _ _ _ ⟨h1, h2, h3⟩ => ⟨h1 ▸ rr, h2.symm, h3⟩⟩ hx36) ?_
 rintro _ Rx36 _ ⟨hRx36, Hsx36, vx36r0_3, vx36r0_4, vx36r0_5, vx36r0_6, vx36r0_7, hx36r0_3, hx36r0_4, hx36r0_5, hx36r0_6, hx36r0_7, rfl, rfl⟩
 refine vs 3 ?_
 refine At.s rfl rfl (Ox.alloc (cs := #[iv 0, iv 0, iv 0, .slice none 0 0, .slice none 0 0, .slice none 0 0, .slice none 0 0, .map none]) rfl zero106 rfl fun b37 _ _ => ⟨_, (.put rfl), ?_⟩)
 refine At.s rfl rfl (Ox.storeN (cs' := #[_, _, _, _, _, _, _, _]) rfl rfl rfl agg106 rfl (ones_cons rfl (ones_cons rfl (ones_cons rfl (ones_cons hx36r0_3.one (ones_cons hx36r0_4.one (ones_cons hx36r0_5.one (ones_cons hx36r0_6.one (ones_cons hx36r0_7.one ones_nil)))))))) .here rfl rfl rfl (.refl _) ?_)
 refine vs 1 ?_
 refine es ?_
 refine sg rg2 ?_
 refine vs 2 ?_
 refine er ?_
 refine sc hM (fun ht40 hM => ?_) (fun ht40 hM => ?_)
 ·refine sg rg4 ?_
  refine vs 4 ?_
  refine er ?_
  obtain rfl := sinj hM
  exact rt Tryz.func29 (.tmp rfl (.tmp rfl (.tmp rfl .nil))) (so (subDrop (so sr))) (hk _ _ _ ⟨hRx36, rfl, .slice none 0 0, SlR.nil, rfl⟩)
 refine sp ?_
 refine sg rg2 ?_
 refine lN [_, _, _, _, _, _, _, _] 0 8 agg106 z0 ?_
 obtain ⟨x41, hx41, hM⟩ := bnd hM
 refine At.step rfl rfl rfl (Ox.callV rfl rfl rfl rfl ent91 rfl rfl ((FnOk.hole (G := (fun X => (b37, _) :: X ++ ((b35, _) :: H))) (.cons .id) (hK x36.1 hx36r0_3 hx36r0_4 hx36r0_5 hx36r0_6 hx36r0_7 hx41)).mono ?_))
 rintro _ Rx41 _ ⟨_, ⟨hRx41, hmx41, rfl, rfl⟩, rfl⟩
 replace hx36r0_3 := hx36r0_3.mono hRx41
 replace hx36r0_4 := hx36r0_4.mono hRx41
 replace hx36r0_5 := hx36r0_5.mono hRx41
 replace hx36r0_6 := hx36r0_6.mono hRx41
 refine ⟨_, (.put rfl), ?_⟩
 refine nx rg1 ?_
 refine At.s rfl rfl (Ox.alloc (cs := #[.slice none 0 0, iv 0, .bool false]) rfl zero138 rfl fun b42 _ _ => ⟨_, (.put rfl), ?_⟩)
 refine es ?_
 refine sg rg3 ?_
 refine vs 1 ?_
 refine lN [_, _, _, _, _, _] 0 6 agg102 z1 ?_
 refine At.s rfl rfl (Ox.makeFunc (vs := #[_]) (us := #[]) rfl rfl rfl rfl (.put rfl) ?_)
 refine er ?_
 refine At.block ?_
 refine At.drop (H' := (b42, .cells #[.slice none 0 0, iv 0, .bool false] 138) :: (b37, .cells #[iv x36.1.book.Limit, iv x36.1.book.Ballast.Least, iv x36.1.book.Ballast.Most, vx36r0_3, vx36r0_4, vx36r0_5, vx36r0_6, vx36r0_7] 106) :: H) (sk (sk (so sr))) ?_
 refine At.rangeF0 (A := (VSl CZ 1)) (fun y s => m108 y x36.1.book s)  hM rfl ent108 rfl rfl rfl (fun (s43 : ((List Int) × Int × Bool)) R' T H' => RLe Rx41 R' ∧ ∃ v43s_0, SlR CZ 1 R' v43s_0 s43.1 ∧ H' = (b42, .cells #[v43s_0, iv s43.2.1, .bool s43.2.2] 138) :: (b37, .cells #[iv x36.1.book.Limit, iv x36.1.book.Ballast.Least, iv x36.1.book.Ballast.Most, vx36r0_3, vx36r0_4, vx36r0_5, vx36r0_6, vx36r0_7] 106) :: T)  (fun s43 R0 T0 H0 q => by obtain ⟨hR, v43s_0, h43s_0, rfl⟩ := q; exact ⟨(b42, .cells #[v43s_0, iv s43.2.1, .bool s43.2.2] 138) :: (b37, .cells #[iv x36.1.book.Limit, iv x36.1.book.Ballast.Least, iv x36.1.book.Ballast.Most, vx36r0_3, vx36r0_4, vx36r0_5, vx36r0_6, vx36r0_7] 106) :: [], by simp, fun R1 T1 h => ⟨hR.trans h, v43s_0, h43s_0.mono h, by simp⟩⟩)  (fun v Inv Hy z hY hI hz => (m108_ok hY x36.1.book hI hx36r0_3 hx36r0_4 hx36r0_5 hz).mono fun _ _ _ h => ⟨h.1, h.2.1⟩) ⟨rr, .slice none 0 0, SlR.nil, rfl⟩ ?_ ?_
 ·rintro r43 s43 R43 H43q _ ⟨hR43, v43s_0, h43s_0, rfl⟩ hM
  refine At.inBlock ?_
  refine sq ?_
  refine At.dw rg7 mixed ?_
  refine Any.vs 1 [0] rfl ?_
  refine tl 1 0 one25 z0 ?_
  refine Any.vs 1 [2] rfl ?_
  refine tl 3 1 one3 z0 ?_
  refine Any.vs 3 [4, 5, 6] rfl ?_
  refine Any.done ?_
  obtain rfl := sinj hM
  exact At.retD (.there (.there .here)) Tryz.func29 (.tmp rfl (.tmp rfl (.tmp rfl .nil))) (J.drop (so (so (so sr))) (hk _ _ _ ⟨((hRx36.trans hRx41).trans hR43), rfl, v43s_0, h43s_0, rfl⟩))
 rintro va43 x43e s43 R43 T43 H43 l43 ld43 cs43 _ hT43 hA43 ⟨hR43, v43s_0, h43s_0, rfl⟩ hld43 z43 hM again43
 replace hmx41 := hmx41.mono hR43
 replace hx36r0_3 := hx36r0_3.mono hR43
 replace hx36r0_4 := hx36r0_4.mono hR43
 replace hx36r0_5 := hx36r0_5.mono hR43
 replace hx36r0_6 := hx36r0_6.mono hR43
 refine At.rg rg1 ?_
 refine vs 1 ?_
 refine er ?_
 refine At.beginRound rfl rfl (.there (.there .here)) hld43 ?_
 refine At.block ?_
 refine At.rg rg5 ?_
 refine vs 1 ?_
 refine lN [_, _, _, _, _, _, _, _] 0 8 agg106 z1 ?_
 refine vs 1 ?_
 obtain ⟨x48, hx48, hM⟩ := bnd hM
 refine At.cv ent94 (m94_ok (⟨⟨x36.1.book.Limit, ⟨x36.1.book.Ballast.Least, x36.1.book.Ballast.Most⟩, x36.1.book.Pieces, x36.1.book.Out, x36.1.book.Heels⟩, x36.1.alls, x41⟩ : Opened) x43e hx36r0_3 hx36r0_4 hx36r0_5 hx36r0_6 hmx41 hA43 hx48) ?_
 rintro _ Rx48 _ ⟨hRx48, rfl, rfl⟩
 replace h43s_0 := h43s_0.mono hRx48
 replace hA43 := hA43.mono hRx48
 obtain ⟨x49, hx49, hM⟩ := bnd hM
 refine At.step rfl rfl rfl (Ox.callV rfl rfl rfl rfl ent110 rfl rfl ((FnOk.hole (G := (fun X => X ++ ((b37, _) :: (l43, _) :: T43))) (Hs := [(b42, _)]) .id (m110_ok (⟨s43.1, s43.2.1, s43.2.2⟩ : Least) x43e x48 h43s_0 hA43 hx49)).mono ?_))
 rintro _ Rx49 _ ⟨_, ⟨hRx49, vx49r0_0, hx49r0_0, rfl, rfl⟩, rfl⟩
 refine ⟨_, (.put rfl), ?_⟩
 refine er ?_
 refine At.inBlock ?_
 exact again43 _ (sinj hM).symm _ _ _ (hRx48.trans hRx49) ⟨((hR43.trans hRx48).trans hRx49), vx49r0_0, hx49r0_0, rfl⟩
theorem m112_ok (x0 : HullBook) {v0_3 v0_4 v0_5 : Value} (h0_3 : SlR CHullPiece 5 R v0_3 x0.Pieces) (h0_4 : SlR CZ 1 R v0_4 x0.Out) (h0_5 : SlR CHullHeel 2 R v0_5 x0.Heels) {r : Bool} (hM : m112 x0 = some r) : FnOk 𝒥 112 #[.agg #[iv x0.Limit, iv x0.Ballast.Least, iv x0.Ballast.Most, v0_3, v0_4, v0_5]] R H (fun v R' H' => RLe R R' ∧ H = H' ∧ v = .bool r) := by
 unfold m112 at hM
 refine FnOk.of_at Tryz.func112 rfl (n := 6) rfl rfl fun fr cs hk => ?_
 refine sg rg2 ?_
 refine bx fun b23 => ?_
 refine At.s rfl rfl (Ox.alloc (cs := #[.bool false]) rfl zero4 rfl fun b24 _ _ => ⟨_, (.put rfl), ?_⟩)
 refine es ?_
 refine sg rg2 ?_
 refine lN [_, _, _, _, _, _] 0 6 agg102 z1 ?_
 refine At.s rfl rfl (Ox.makeFunc (vs := #[_]) (us := #[]) rfl rfl rfl rfl (.put rfl) ?_)
 refine er ?_
 refine At.block ?_
 refine At.drop (H' := (b24, .cells #[.bool false] 4) :: H) (sk (so sr)) ?_
 refine At.rangeF1 (A := (VAgg CCargo)) (fun y s => m130 y x0 s) .ret hM rfl ent130 rfl rfl rfl (fun (s25 : Unit) R' T H' => RLe R R' ∧ H' = (b24, .cells #[.bool false] 4) :: T) (fun (p25_0 : Unit) R' T H' => RLe R R' ∧ H' = (b24, .cells #[.bool true] 4) :: T) (fun s25 R0 T0 H0 q => by obtain ⟨hR, rfl⟩ := q; exact ⟨(b24, .cells #[.bool false] 4) :: [], by simp, fun R1 T1 h => ⟨hR.trans h, by simp⟩⟩) (fun p25_0 R0 T0 H0 q => by obtain ⟨hR, rfl⟩ := q; exact ⟨(b24, .cells #[.bool true] 4) :: [], by simp, fun R1 T1 h => ⟨hR.trans h, by simp⟩⟩) (fun v Inv Hy z hY hI hz => (m130_ok hY x0 hI h0_3 h0_4 h0_5 hz).mono fun _ _ _ h => ⟨h.1, h.2.1⟩) ⟨rr, rfl⟩ ?_ ?_ ?_
 ·rintro r25 s25 R25 H25q _ ⟨hR25, rfl⟩ hM
  refine At.inBlock ?_
  refine sg rg1 ?_
  refine At.s rfl rfl (Ox.store1 (cs' := #[_]) rfl rfl rfl one4 rfl .here rfl rfl rfl (.refl _) ?_)
  refine er ?_
  obtain rfl := sinj hM
  exact At.retD (.there .here) Tryz.func112 (.one rfl one4 ((CellsAt.box z0).one (j := 0) rfl) .nil) (J.drop (so (so sr)) (hk _ _ _ ⟨hR25, rfl, rfl⟩))
 ·rintro r25 p25_0 R25_0 H25q _ ⟨hR25_0, rfl⟩ hM
  obtain rfl := sinj hM
  exact At.retD (.there .here) Tryz.func112 (.one rfl one4 ((CellsAt.box z0).one (j := 0) rfl) .nil) (J.drop (so (so sr)) (hk _ _ _ ⟨hR25_0, rfl, rfl⟩))
 rintro va25 x25e s25 R25 T25 H25 l25 ld25 cs25 _ hT25 ⟨_, rfl, ⟨lx25e_1, rfl⟩⟩ ⟨hR25, rfl⟩ hld25 z25 hM again25 ex25_0
 refine sp ?_
 refine At.beginRound rfl rfl (.there .here) hld25 ?_
 refine At.block ?_
 refine sg rg1 ?_
 refine At.s rfl rfl (Ox.store1 (cs' := #[_]) rfl rfl rfl one4 rfl .here rfl rfl rfl (.refl _) ?_)
 refine er ?_
 exact ex25_0 _ (sinj hM).symm _ _ _ _ (rr) ⟨hR25, rfl⟩ (.inr (.inl ⟨_, rfl, rfl⟩))
theorem m176_ok (x0 : Int)  {r : Bool} (hM : m176 x0 = some r) : FnOk 𝒥 176 #[iv x0] R H (fun v R' H' => R = R' ∧ H = H' ∧ v = .bool r) := by
 unfold m176 at hM
 refine FnOk.of_at Tryz.func176 rfl (n := 6) rfl rfl fun fr cs hk => ?_
 refine sg rg1 ?_
 refine vs 1 ?_
 refine nx rg4 ?_
 refine vs 4 ?_
 refine er ?_
 obtain rfl := sinj hM
 exact rt Tryz.func176 (.tmp rfl .nil) sr (hk _ _ _ ⟨rfl, rfl, rfl⟩)
theorem m168_ok (x0 : Int) (x1 : Int)  {r : Int} (hM : m168 x0 x1 = some r) : FnOk 𝒥 168 #[iv x0, iv x1] R H (fun v R' H' => R = R' ∧ H = H' ∧ v = iv r) := by
 unfold m168 at hM
 refine FnOk.of_at Tryz.func168 rfl (n := 20) rfl rfl fun fr cs hk => ?_
 refine sg rg1 ?_
 refine vs 1 ?_
 refine nx rg3 ?_
 refine vs 1 ?_
 obtain ⟨x36, hx36, hM⟩ := bnd hM
 refine At.cv ent176 (m176_ok x0  hx36) ?_
 rintro _ _ _ ⟨rfl, rfl, rfl⟩
 refine vs 1 ?_
 refine nx rg3 ?_
 refine vs 1 ?_
 obtain ⟨x37, hx37, hM⟩ := bnd hM
 refine At.cv ent176 (m176_ok x1  hx37) ?_
 rintro _ _ _ ⟨rfl, rfl, rfl⟩
 refine vs 1 ?_
 refine es ?_
 refine sg rg1 ?_
 refine vs 1 ?_
 refine er ?_
 refine sc hM (fun ht41 hM => ?_) (fun ht41 hM => ?_)
 ·refine sq ?_
  refine sg rg1 ?_
  refine vs 1 ?_
  refine er ?_
  refine sc hM (fun ht44 hM => ?_) (fun ht44 hM => ?_)
  ·refine sg rg1 ?_
   refine vs 1 ?_
   refine er ?_
   obtain rfl := sinj hM
   exact rt Tryz.func168 (.tmp rfl .nil) sr (hk _ _ _ ⟨rfl, rfl, rfl⟩)
  refine sp ?_
  refine sg rg1 ?_
  refine vs 1 ?_
  refine er ?_
  obtain rfl := sinj hM
  exact rt Tryz.func168 (.tmp rfl .nil) sr (hk _ _ _ ⟨rfl, rfl, rfl⟩)
 refine sp ?_
 refine sq ?_
 refine sg rg1 ?_
 refine vs 1 ?_
 refine er ?_
 refine sc hM (fun ht47 hM => ?_) (fun ht47 hM => ?_)
 ·refine sg rg1 ?_
  refine vs 1 ?_
  refine er ?_
  obtain rfl := sinj hM
  exact rt Tryz.func168 (.tmp rfl .nil) sr (hk _ _ _ ⟨rfl, rfl, rfl⟩)
 refine sp ?_
 refine sq ?_
 refine sg rg3 ?_
 refine vs 3 ?_
 refine er ?_
 refine sc hM (fun ht50 hM => ?_) (fun ht50 hM => ?_)
 ·refine sg rg1 ?_
  refine vs 1 ?_
  refine er ?_
  obtain rfl := sinj hM
  exact rt Tryz.func168 (.tmp rfl .nil) sr (hk _ _ _ ⟨rfl, rfl, rfl⟩)
 refine sp ?_
 refine sq ?_
 refine sg rg3 ?_
 refine vs 3 ?_
 refine er ?_
 refine sc hM (fun ht51 hM => ?_) (fun ht51 hM => ?_)
 ·refine sg rg1 ?_
  refine vs 1 ?_
  refine er ?_
  obtain rfl := sinj hM
  exact rt Tryz.func168 (.tmp rfl .nil) sr (hk _ _ _ ⟨rfl, rfl, rfl⟩)
 refine sp ?_
 refine sg rg1 ?_
 refine vs 1 ?_
 refine er ?_
 obtain rfl := sinj hM
 exact rt Tryz.func168 (.tmp rfl .nil) sr (hk _ _ _ ⟨rfl, rfl, rfl⟩)
theorem m153_ok (x0 : (List Int)) (x1 : (List Int)) {v0 v1 : Value} (h0 : RdS CZ 1 R H v0 x0) (h1 : RdS CZ 1 R H v1 x1) {r : Int} (hM : m153 x0 x1 = some r) : FnOk 𝒥 153 #[v0, v1] R H (fun v R' H' => R = R' ∧ H = H' ∧ v = iv r) := by
 unfold m153 at hM
 refine FnOk.of_at Tryz.func153 rfl (n := 36) rfl rfl fun fr cs hk => ?_
 refine sg rg1 ?_
 refine vs 1 ?_
 refine es ?_
 refine sg rg3 ?_
 refine vs 1 ?_
 refine lr h0 Tryz.underlying25 ?_
 refine vs 1 ?_
 refine er ?_
 refine At.block ?_
 refine At.loopE1R hM (fun (s52 : Int) R' H' st' => R = R' ∧ H = H' ∧ SubL st' [(0, v0), (1, v1), (9, v0), (10, iv (x0.length : Int)), (11, iv s52)]) (fun (p52_0 : Unit) R' H' st' => R = R' ∧ H = H' ∧ SubL st' [(0, v0), (1, v1)]) 0 rfl ⟨rfl, rfl, SubT.sub ⟨rfl, rfl, rfl, rfl, rfl, trivial⟩⟩ ?_ ?_
 rotate_right
 ·rintro s52 R52 H52 st52 ⟨rfl, rfl, hst52⟩ x52 hM again52 ex52_0 out52
  refine At.sub hst52 ?_
  refine sg rg1 ?_
  refine vs 1 ?_
  refine es ?_
  refine sc hM (fun ht75 hM => ?_) (fun ht75 hM => ?_)
  ·refine sp ?_
   refine sq ?_
   refine At.block ?_
   refine sg rg5 ?_
   refine vs 1 ?_
   obtain ⟨x76, hx76, hM⟩ := bnd hM
   obtain ⟨bx76, ox76, _, rfl, hcx76, hix76⟩ := h0.elem slice25 hx76
   refine At.s rfl rfl (Ox.indexV rfl rfl rfl hix76 rfl (.put rfl) ?_)
   refine At.ld one3 ((hcx76.sub pp).one (j := 0) rfl) ?_
   refine vs 2 ?_
   refine es ?_
   refine sg rg4 ?_
   refine vs 2 ?_
   refine lr h1 Tryz.underlying25 ?_
   refine vs 1 ?_
   refine er ?_
   refine sc hM (fun ht79 hM => ?_) (fun ht79 hM => ?_)
   ·refine sg rg1 ?_
    refine vs 1 ?_
    refine er ?_
    replace hM := out52 _ (sinj hM).symm
    obtain rfl := sinj hM
    exact rt Tryz.func153 (.tmp rfl .nil) sr (hk _ _ _ ⟨rfl, rfl, rfl⟩)
   refine sp ?_
   refine sg rg5 ?_
   refine vs 2 ?_
   obtain ⟨x80, hx80, hM⟩ := bnd hM
   obtain ⟨bx80, ox80, _, rfl, hcx80, hix80⟩ := h1.elem slice25 hx80
   refine At.s rfl rfl (Ox.indexV rfl rfl rfl hix80 rfl (.put rfl) ?_)
   refine At.ld one3 ((hcx80.sub pp).one (j := 0) rfl) ?_
   refine vs 1 ?_
   refine nx rg4 ?_
   refine vs 2 ?_
   obtain ⟨x81, hx81, hM⟩ := bnd hM
   refine At.cv ent168 (m168_ok x76 x80  hx81) ?_
   rintro _ _ _ ⟨rfl, rfl, rfl⟩
   refine vs 1 ?_
   refine nx rg2 ?_
   refine vs 2 ?_
   refine er ?_
   refine sc hM (fun ht82 hM => ?_) (fun ht82 hM => ?_)
   ·refine sg rg2 ?_
    refine vs 2 ?_
    refine er ?_
    replace hM := out52 _ (sinj hM).symm
    obtain rfl := sinj hM
    exact rt Tryz.func153 (.tmp rfl .nil) sr (hk _ _ _ ⟨rfl, rfl, rfl⟩)
   refine sp ?_
   refine At.inBlock ?_
   refine At.rg rg2 ?_
   refine vs 2 ?_
   refine er ?_
   exact again52 _ (sinj hM).symm _ _ _ ⟨rfl, rfl, SubT.sub ⟨rfl, rfl, rfl, rfl, rfl, trivial⟩⟩
  exact At.exit rfl (ex52_0 _ (sinj hM).symm _ _ _ ⟨rfl, rfl, SubT.sub ⟨rfl, rfl, trivial⟩⟩)
 rintro p52_0 R52_0 H52_0 st52_0 ⟨rfl, rfl, hst52_0⟩ hM
 refine At.sub hst52_0 ?_
 refine sq ?_
 refine sg rg5 ?_
 refine vs 1 ?_
 refine lr h0 Tryz.underlying25 ?_
 refine vs 1 ?_
 refine lr h1 Tryz.underlying25 ?_
 refine vs 1 ?_
 refine er ?_
 refine sc hM (fun ht83 hM => ?_) (fun ht83 hM => ?_)
 ·refine sg rg1 ?_
  refine vs 1 ?_
  refine er ?_
  obtain rfl := sinj hM
  exact rt Tryz.func153 (.tmp rfl .nil) sr (hk _ _ _ ⟨rfl, rfl, rfl⟩)
 refine sp ?_
 refine sg rg1 ?_
 refine vs 1 ?_
 refine er ?_
 obtain rfl := sinj hM
 exact rt Tryz.func153 (.tmp rfl .nil) sr (hk _ _ _ ⟨rfl, rfl, rfl⟩)
theorem m113_ok (x0 : (List Int)) (x1 : (List Int)) {v0 v1 : Value} (h0 : RdS CZ 1 R H v0 x0) (h1 : RdS CZ 1 R H v1 x1) {r : Bool} (hM : m113 x0 x1 = some r) : FnOk 𝒥 113 #[v0, v1] R H (fun v R' H' => R = R' ∧ H = H' ∧ v = .bool r) := by
 unfold m113 at hM
 refine FnOk.of_at Tryz.func113 rfl (n := 23) rfl rfl fun fr cs hk => ?_
 refine sg rg1 ?_
 refine vs 1 ?_
 refine nx rg19 ?_
 refine vs 1 ?_
 refine lr h0 Tryz.underlying25 ?_
 refine vs 1 ?_
 refine lr h1 Tryz.underlying25 ?_
 refine vs 2 ?_
 refine selC hM (fun ht23 hM => ?_) (fun ht23 hM => ?_)
 ·refine At.kn 10 ht23 ?_
  refine vs 13 ?_
  refine er ?_
  obtain rfl := sinj hM
  exact rt Tryz.func113 (.tmp rfl .nil) sr (hk _ _ _ ⟨rfl, rfl, rfl⟩)
 refine At.kn 10 ht23 ?_
 refine vs 1 ?_
 refine lr h0 Tryz.underlying25 ?_
 refine vs 1 ?_
 refine lr h1 Tryz.underlying25 ?_
 refine vs 2 ?_
 refine selC hM (fun ht24 hM => ?_) (fun ht24 hM => ?_)
 ·refine At.kn 16 ht24 ?_
  refine vs 2 ?_
  obtain ⟨x25, hx25, hM⟩ := bnd hM
  refine At.cv ent153 (m153_ok x0 x1 (h0.sub pp) (h1.sub pp) hx25) ?_
  rintro _ _ _ ⟨rfl, rfl, rfl⟩
  refine vs 4 ?_
  refine er ?_
  obtain rfl := sinj hM
  exact rt Tryz.func113 (.tmp rfl .nil) sr (hk _ _ _ ⟨rfl, rfl, rfl⟩)
 refine At.kn 16 ht24 ?_
 refine vs 7 ?_
 refine er ?_
 obtain rfl := sinj hM
 exact rt Tryz.func113 (.tmp rfl .nil) sr (hk _ _ _ ⟨rfl, rfl, rfl⟩)
theorem m31_ok (x0 : HullBook) {v0_3 v0_4 v0_5 : Value} (hG : GOk R) (h0_3 : SlR CHullPiece 5 R v0_3 x0.Pieces) (h0_4 : SlR CZ 1 R v0_4 x0.Out) (h0_5 : SlR CHullHeel 2 R v0_5 x0.Heels) {r : ((List Int) × Int)} (hM : m31 x0 = some r) : FnOk 𝒥 31 #[.agg #[iv x0.Limit, iv x0.Ballast.Least, iv x0.Ballast.Most, v0_3, v0_4, v0_5]] R H (fun v R' H' => RLe R R' ∧ H = H' ∧ ∃ vr0, SlR CZ 1 R' vr0 r.1 ∧ v = .tuple #[vr0, iv r.2]) := by
 unfold m31 at hM
 refine FnOk.of_at Tryz.func31 rfl (n := 86) rfl rfl fun fr cs hk => ?_
 refine sg rg3 ?_
 refine bx fun b203 => ?_
 refine vs 2 ?_
 refine es ?_
 refine sg rg3 ?_
 refine lN [_, _, _, _, _, _] 0 6 agg28 z0 ?_
 obtain ⟨x204, hx204, hM⟩ := bnd hM
 refine At.cv ent83 (m83_ok x0 hG h0_3 h0_4 h0_5 hx204) ?_
 rintro _ Rx204 _ ⟨hRx204, rfl, rfl⟩
 replace h0_3 := h0_3.mono hRx204
 replace h0_4 := h0_4.mono hRx204
 replace h0_5 := h0_5.mono hRx204
 refine vs 1 ?_
 refine nx rg2 ?_
 refine vs 2 ?_
 refine er ?_
 refine sc hM (fun ht207 hM => ?_) (fun ht207 hM => ?_)
 ·refine sg rg3 ?_
  refine vs 3 ?_
  refine er ?_
  obtain rfl := sinj hM
  exact rt Tryz.func31 (.tmp rfl (.tmp rfl .nil)) (so sr) (hk _ _ _ ⟨hRx204, rfl, .slice none 0 0, SlR.nil, rfl⟩)
 refine sp ?_
 refine sg rg4 ?_
 refine lN [_, _, _, _, _, _] 0 6 agg28 z0 ?_
 refine At.s rfl rfl (Ox.build (cells := #[_, _, _, _, _, _]) rfl struct102 rfl (fill_cons rfl rfl rfl rfl fill_nil) rfl (.put rfl) ?_)
 refine At.s rfl rfl (Ox.alloc (cs := #[iv 0, iv 0, iv 0, .slice none 0 0, .slice none 0 0, .slice none 0 0]) rfl zero102 rfl fun b208 _ _ => ⟨_, (.put rfl), ?_⟩)
 refine At.s rfl rfl (Ox.storeN (cs' := #[_, _, _, _, _, _]) rfl rfl rfl agg102 rfl (ones_cons rfl (ones_cons rfl (ones_cons rfl (ones_cons h0_3.one (ones_cons h0_4.one (ones_cons h0_5.one ones_nil)))))) .here rfl rfl rfl (.refl _) ?_)
 refine es ?_
 refine sg rg2 ?_
 refine lN [_, _, _, _, _, _] 0 6 agg102 z0 ?_
 obtain ⟨x209, hx209, hM⟩ := bnd hM
 refine At.cv ent112 (m112_ok x0 h0_3 h0_4 h0_5 hx209) ?_
 rintro _ Rx209 _ ⟨hRx209, rfl, rfl⟩
 replace h0_3 := h0_3.mono hRx209
 replace h0_4 := h0_4.mono hRx209
 replace h0_5 := h0_5.mono hRx209
 refine er ?_
 refine sc hM (fun ht212 hM => ?_) (fun ht212 hM => ?_)
 ·refine sg rg2 ?_
  refine vs 2 ?_
  refine er ?_
  obtain rfl := sinj hM
  exact rt Tryz.func31 (.tmp rfl (.tmp rfl .nil)) (so (so sr)) (hk _ _ _ ⟨(hRx204.trans hRx209), rfl, .slice none 0 0, SlR.nil, rfl⟩)
 refine sp ?_
 refine sg rg1 ?_
 refine vs 1 ?_
 refine es ?_
 refine sg rg5 ?_
 refine vs 1 ?_
 refine ld 5 one26 z1 ?_
 refine ls h0_5 Tryz.underlying26 ?_
 obtain ⟨x213, hx213, hM⟩ := bnd hM
 refine At.s rfl rfl (Ox.shl rfl rfl rfl hx213 rfl (.put rfl) ?_)
 refine vs 1 ?_
 refine er ?_
 refine At.block ?_
 refine At.loopE1 hM (fun (s214 : ((List (List Int)) × Int)) R' H' st' => RLe Rx209 R' ∧ ∃ v214s_0 Hs214s_0, OwnSl (CSl CZ 1) 1 25 R' v214s_0 s214.1 Hs214s_0 ∧ H' = Hs214s_0 ++ ((b208, .cells #[iv x0.Limit, iv x0.Ballast.Least, iv x0.Ballast.Most, v0_3, v0_4, v0_5] 102) :: (b203, .cells #[iv x0.Limit, iv x0.Ballast.Least, iv x0.Ballast.Most, v0_3, v0_4, v0_5] 28) :: H) ∧ SubL st' [(1, .pointer (some ⟨b203, 0, none⟩)), (5, .pointer (some ⟨b208, 0, none⟩)), (6, v214s_0), (27, iv x213), (28, iv s214.2)]) (fun (p214_0 : (List (List Int))) R' H' st' => RLe Rx209 R' ∧ ∃ v214_0_0 Hs214_0_0, OwnSl (CSl CZ 1) 1 25 R' v214_0_0 p214_0 Hs214_0_0 ∧ H' = Hs214_0_0 ++ (H) ∧ SubL st' [(6, v214_0_0)]) 0 rfl ⟨rr, .slice none 0 0, [], OwnSl.nil, rfl, SubT.sub ⟨rfl, rfl, rfl, rfl, rfl, trivial⟩⟩ ?_ ?_
 rotate_right
 ·rintro s214 R214 H214 st214 ⟨hR214, v214s_0, Hs214s_0, ho214s_0, rfl, hst214⟩ x214 hM again214 ex214_0
  refine At.sub hst214 ?_
  replace h0_3 := h0_3.mono hR214
  replace h0_4 := h0_4.mono hR214
  replace h0_5 := h0_5.mono hR214
  refine sg rg1 ?_
  refine vs 1 ?_
  refine es ?_
  refine sc hM (fun ht317 hM => ?_) (fun ht317 hM => ?_)
  ·refine sp ?_
   refine sq ?_
   refine At.block ?_
   refine sg rg2 ?_
   refine vs 2 ?_
   refine nx rg1 ?_
   refine vs 1 ?_
   refine nx rg3 ?_
   refine lN [_, _, _, _, _, _] 0 6 agg102 (List.mem_append_right _ z0) ?_
   refine At.s rfl rfl (Ox.alloc (cs := #[iv 0, iv 0, iv 0, .slice none 0 0, .slice none 0 0, .slice none 0 0]) rfl zero102 rfl fun b318 _ _ => ⟨_, (.put rfl), ?_⟩)
   refine At.s rfl rfl (Ox.storeN (cs' := #[_, _, _, _, _, _]) rfl rfl rfl agg102 rfl (ones_cons rfl (ones_cons rfl (ones_cons rfl (ones_cons h0_3.one (ones_cons h0_4.one (ones_cons h0_5.one ones_nil)))))) .here rfl rfl rfl (.refl _) ?_)
   refine nx rg3 ?_
   refine vs 2 ?_
   refine At.s rfl rfl (Ox.store1 (cs' := #[_, _, _, _, _, _]) rfl rfl rfl one26 rfl .here rfl rfl rfl (.refl _) ?_)
   refine es ?_
   refine sg rg4 ?_
   refine vs 1 ?_
   refine At.ld one26 ((CellsAt.box (.tail _ (List.mem_append_right _ z1))).one (j := 5) rfl) ?_
   refine ls h0_5 Tryz.underlying26 ?_
   refine vs 1 ?_
   refine er ?_
   refine At.block ?_
   refine At.loopE1 hM (fun (s319 : ((List Int) × Int × (List HullHeel))) R' H' st' => R214 = R' ∧ ∃ v319s_0 Hs319s_0 v319s_2 Hs319s_2, OwnSl CZ 1 3 R' v319s_0 s319.1 Hs319s_0 ∧ OwnSl CHullHeel 2 47 R' v319s_2 s319.2.2 Hs319s_2 ∧ H' = Hs319s_0 ++ (Hs319s_2 ++ ((b318, .cells #[iv x0.Limit, iv x0.Ballast.Least, iv x0.Ballast.Most, v0_3, v0_4, v319s_2] 102) :: Hs214s_0 ++ ((b208, .cells #[iv x0.Limit, iv x0.Ballast.Least, iv x0.Ballast.Most, v0_3, v0_4, v0_5] 102) :: (b203, .cells #[iv x0.Limit, iv x0.Ballast.Least, iv x0.Ballast.Most, v0_3, v0_4, v0_5] 28) :: H))) ∧ SubL st' [(1, .pointer (some ⟨b203, 0, none⟩)), (5, .pointer (some ⟨b208, 0, none⟩)), (6, v214s_0), (7, iv s214.2), (8, v319s_0), (9, .pointer (some ⟨b318, 0, none⟩)), (27, iv x213), (28, iv s214.2), (35, v0_5), (36, iv (x0.Heels.length : Int)), (37, iv s319.2.1)]) (fun (p319_0 : ((List Int) × (List HullHeel))) R' H' st' => R214 = R' ∧ ∃ v319_0_0 Hs319_0_0 v319_0_1 Hs319_0_1, OwnSl CZ 1 3 R' v319_0_0 p319_0.1 Hs319_0_0 ∧ OwnSl CHullHeel 2 47 R' v319_0_1 p319_0.2 Hs319_0_1 ∧ H' = Hs319_0_0 ++ (Hs319_0_1 ++ ((b318, .cells #[iv x0.Limit, iv x0.Ballast.Least, iv x0.Ballast.Most, v0_3, v0_4, v319_0_1] 102) :: Hs214s_0 ++ ((b208, .cells #[iv x0.Limit, iv x0.Ballast.Least, iv x0.Ballast.Most, v0_3, v0_4, v0_5] 102) :: (b203, .cells #[iv x0.Limit, iv x0.Ballast.Least, iv x0.Ballast.Most, v0_3, v0_4, v0_5] 28) :: H))) ∧ SubL st' [(1, .pointer (some ⟨b203, 0, none⟩)), (5, .pointer (some ⟨b208, 0, none⟩)), (6, v214s_0), (8, v319_0_0), (9, .pointer (some ⟨b318, 0, none⟩)), (27, iv x213), (28, iv s214.2)]) 2 rfl ⟨rfl, .slice none 0 0, [], .slice none 0 0, [], OwnSl.nil, OwnSl.nil, rfl, SubT.sub ⟨rfl, rfl, rfl, rfl, rfl, rfl, rfl, rfl, rfl, rfl, rfl, trivial⟩⟩ ?_ ?_
   rotate_right
   ·rintro s319 R319 H319 st319 ⟨rfl, v319s_0, Hs319s_0, v319s_2, Hs319s_2, ho319s_0, ho319s_2, rfl, hst319⟩ x319 hM again319 ex319_0
    refine At.sub hst319 ?_
    refine sg rg1 ?_
    refine vs 1 ?_
    refine es ?_
    refine sc hM (fun ht348 hM => ?_) (fun ht348 hM => ?_)
    ·refine sp ?_
     refine sq ?_
     refine At.block ?_
     refine sg rg6 ?_
     refine vs 1 ?_
     obtain ⟨x349, hx349, hM⟩ := bnd hM
     obtain ⟨bx349, ox349, _, rfl, hcx349, hix349⟩ := h0_5.elem slice26 hx349
     refine At.s rfl rfl (Ox.indexV rfl rfl rfl hix349 rfl (.put rfl) ?_)
     refine At.s rfl rfl (Ox.loadN (vs := [_, _]) rfl rfl agg47 rfl (hcx349.any.part (j := 0) (n := 2) rfl) rfl (.put rfl) ?_)
     refine At.s rfl rfl (Ox.alloc (cs := #[iv 0, iv 0]) rfl zero47 rfl fun b350 _ _ => ⟨_, (.put rfl), ?_⟩)
     refine vs 1 ?_
     refine At.s rfl rfl (Ox.storeN (cs' := #[_, _]) rfl rfl rfl agg47 rfl (ones_cons rfl (ones_cons rfl ones_nil)) .here rfl rfl rfl (.refl _) ?_)
     refine nx rg5 ?_
     refine vs 2 ?_
     obtain ⟨x351, hx351, hM⟩ := bnd hM
     refine At.s rfl rfl (Ox.shr rfl rfl rfl hx351 rfl (.put rfl) ?_)
     obtain ⟨x352, hx352, hM⟩ := bnd hM
     refine At.s rfl rfl (Ox.bits rfl rfl rfl hx352 rfl (.put rfl) ?_)
     refine vs 1 ?_
     refine er ?_
     refine sc hM (fun ht353 hM => ?_) (fun ht353 hM => ?_)
     ·obtain ⟨x355, hx355, hM⟩ := bnd hM
      obtain ⟨x357, hx357, hM⟩ := bnd hM
      refine At.cut (fun R' H' st' => R214 = R' ∧ ∃ (vx355 : Value) (Hsx355 : HList) (vx357 : Value) (Hsx357 : HList), OwnSl CZ 1 3 R' vx355 x355 Hsx355 ∧ OwnSl CHullHeel 2 47 R' vx357 x357 Hsx357 ∧ H' = Hsx355 ++ (Hsx357 ++ ((b318, .cells #[iv x0.Limit, iv x0.Ballast.Least, iv x0.Ballast.Most, v0_3, v0_4, vx357] 102) :: Hs214s_0 ++ ((b208, .cells #[iv x0.Limit, iv x0.Ballast.Least, iv x0.Ballast.Most, v0_3, v0_4, v0_5] 102) :: (b203, .cells #[iv x0.Limit, iv x0.Ballast.Least, iv x0.Ballast.Most, v0_3, v0_4, v0_5] 28) :: H))) ∧ SubL st' [(1, .pointer (some ⟨b203, 0, none⟩)), (5, .pointer (some ⟨b208, 0, none⟩)), (6, v214s_0), (7, iv s214.2), (8, vx355), (9, .pointer (some ⟨b318, 0, none⟩)), (27, iv x213), (28, iv s214.2), (35, v0_5), (36, iv (x0.Heels.length : Int)), (37, iv s319.2.1)]) ?_ ?_
      ·rintro Rc358 Hc358 stc358 ⟨rfl, vx355, Hsx355, vx357, Hsx357, hox355, hox357, rfl, hstc358⟩
       refine At.sub hstc358 ?_
       refine At.inBlock ?_
       refine At.rg rg2 ?_
       refine vs 2 ?_
       refine er ?_
       exact again319 _ (sinj hM).symm _ _ _ ⟨rfl, vx355, Hsx355, vx357, Hsx357, hox355, hox357, rfl, SubT.sub ⟨rfl, rfl, rfl, rfl, rfl, rfl, rfl, rfl, rfl, rfl, rfl, trivial⟩⟩
      intro hcut358
      refine At.draw (n := 14) (is := [0, 1, 2, 3, 4, 5, 6, 7, 8, 9, 10, 11, 12, 13]) (many ((b350, .cells #[iv x349.After, iv x349.Side] 47) :: Hs319s_0 ++ (Hs319s_2 ++ ((b318, .cells #[iv x0.Limit, iv x0.Ballast.Least, iv x0.Ballast.Most, v0_3, v0_4, v319s_2] 102) :: Hs214s_0 ++ ((b208, .cells #[iv x0.Limit, iv x0.Ballast.Least, iv x0.Ballast.Most, v0_3, v0_4, v0_5] 102) :: (b203, .cells #[iv x0.Limit, iv x0.Ballast.Least, iv x0.Ballast.Most, v0_3, v0_4, v0_5] 28) :: H)))) [(3, (b350, .cells #[iv x349.After, iv x349.Side] 47) :: Hs319s_2 ++ ((b318, .cells #[iv x0.Limit, iv x0.Ballast.Least, iv x0.Ballast.Most, v0_3, v0_4, v319s_2] 102) :: Hs214s_0 ++ ((b208, .cells #[iv x0.Limit, iv x0.Ballast.Least, iv x0.Ballast.Most, v0_3, v0_4, v0_5] 102) :: (b203, .cells #[iv x0.Limit, iv x0.Ballast.Least, iv x0.Ballast.Most, v0_3, v0_4, v0_5] 28) :: H))), (8, (b350, .cells #[iv x349.After, iv x349.Side] 47) :: Hs319s_2 ++ ((b318, .cells #[iv x0.Limit, iv x0.Ballast.Least, iv x0.Ballast.Most, v0_3, v0_4, v319s_2] 102) :: Hs214s_0 ++ ((b208, .cells #[iv x0.Limit, iv x0.Ballast.Least, iv x0.Ballast.Most, v0_3, v0_4, v0_5] 102) :: (b203, .cells #[iv x0.Limit, iv x0.Ballast.Least, iv x0.Ballast.Most, v0_3, v0_4, v0_5] 28) :: H))), (9, (b350, .cells #[iv x349.After, iv x349.Side] 47) :: (b318, .cells #[iv x0.Limit, iv x0.Ballast.Least, iv x0.Ballast.Most, v0_3, v0_4, v319s_2] 102) :: Hs214s_0 ++ ((b208, .cells #[iv x0.Limit, iv x0.Ballast.Least, iv x0.Ballast.Most, v0_3, v0_4, v0_5] 102) :: (b203, .cells #[iv x0.Limit, iv x0.Ballast.Least, iv x0.Ballast.Most, v0_3, v0_4, v0_5] 28) :: H)), (13, (b350, .cells #[iv x349.After, iv x349.Side] 47) :: Hs214s_0 ++ ((b208, .cells #[iv x0.Limit, iv x0.Ballast.Least, iv x0.Ballast.Most, v0_3, v0_4, v0_5] 102) :: (b203, .cells #[iv x0.Limit, iv x0.Ballast.Least, iv x0.Ballast.Most, v0_3, v0_4, v0_5] 28) :: H))]) mixed rfl (by decide +kernel) rfl rfl ?_
      refine Any.vs 4 [0, 1, 4, 5] rfl ?_
      refine ts 6 [9, 10, 11, 12, 13] rfl (many_keep (su (so (subDrop (sk (subDrop (so (so sr))))))) (many_keep (su (so (subDrop (sk (subDrop (so (so sr))))))) (many_skip rfl (many_skip rfl (many_nil (su (so (subDrop (subDrop (sk (subDrop (so (so sr))))))))))))) (su (so (subDrop (subDrop (sk (subDrop (so (so sr)))))))) (fun R' H' hR hS => Ox.load1 rfl rfl one26 ((CellsAt.box (hS _ z0)).one (j := 5) rfl) rfl (.one rfl) ⟨rfl, rfl, rfl⟩) ?_
      refine ts 7 [8, 9, 10, 11, 12, 13] rfl (many_keep (su (sk (subDrop (so (subDrop (so (so sr))))))) (many_skip rfl (many_skip rfl (many_skip rfl (many_nil (su (sk (subDrop (subDrop (so (subDrop (so (so sr))))))))))))) (su (sk (subDrop (subDrop (so (subDrop (so (so sr)))))))) (fun R' H' hR hS => Ox.loadN (vs := [_, _]) rfl rfl agg47 rfl ((CellsAt.box (hS _ z0)).part (j := 0) (n := 2) rfl) rfl (.one rfl) ⟨rfl, rfl, rfl⟩) ?_
      refine tw 2 8 ?_ ?_
      ·refine  (SemTo.to (Ox.buildSlice (cells := #[_]) rfl elem25 rfl (by decide) base25_1 (fill_cons rfl rfl rfl rfl fill_nil) rfl fun b354 _ _ => ⟨_, (.put rfl), ⟨rr, (many_at rfl (su (so sr))), ?_⟩⟩))
       refine tw 3 8 ?_ ?_
       ·refine  (SemTo.to (Ox.append (K := CZ) (fun X => (b354, _) :: (b350, _) :: X ++ (Hs319s_2 ++ ((b318, _) :: Hs214s_0 ++ ((b208, _) :: (b203, _) :: H)))) rfl rfl rfl app25 Tryz.underlying25 (by simp) (.cons (.cons .id)) ho319s_0 (ArgSl.lit z0 (Enc.le (Enc.cons (x := s319.2.1) rfl rfl Enc.nil) rfl) rfl) hx355 rfl fun vx355 Hsx355 hox355 => ⟨_, (.put rfl), ⟨rr, (many_at rfl (su (so (sk (subDrop sr))))), ?_⟩⟩))
        refine Any.on 8 rfl rfl (SemTo.to (Ox.buildSlice (cells := #[_, _]) rfl elem26 rfl (by decide) base26_1 (fill_cons rfl rfl rfl rfl fill_nil) rfl fun b356 _ _ => ⟨_, (.put rfl), ⟨rr, (many_at rfl (su (so (so (sk (subDrop sr)))))), ?_⟩⟩))
        refine Any.on 9 rfl rfl (SemTo.to (Ox.append (K := CHullHeel) (fun X => (b356, _) :: (b354, _) :: (b350, _) :: Hsx355 ++ (X ++ ((b318, _) :: Hs214s_0 ++ ((b208, _) :: (b203, _) :: H)))) rfl rfl rfl app26 Tryz.underlying26 (by simp) (.cons (.cons (.cons (.app .id)))) ho319s_2 (ArgSl.lit z0 (Enc.le (Enc.cons (x := x349) rfl rfl Enc.nil) rfl) rfl) hx357 rfl fun vx357 Hsx357 hox357 => ⟨_, (.put rfl), ⟨rr, (many_at rfl (su (so (so (sk (subDrop (subDrop sr))))))), ?_⟩⟩))
        refine Any.vs 3 [10, 11, 12] rfl ?_
        refine Any.on 13 rfl rfl (SemTo.to (Ox.store1 (cs' := #[_, _, _, _, _, _]) rfl rfl rfl one26 hox357.one (.there (.there (.there (.skip (.skip .here))))) rfl rfl rfl (.refl _) ⟨rr, (many_at rfl (su (so (so (sk (subDrop (subDrop (so sr)))))))), ?_⟩))
        exact Any.done (At.drop (so (so (so sr))) (hcut358 _ _ _ ⟨rfl, vx355, Hsx355, vx357, Hsx357, hox355, hox357, rfl, SubT.sub ⟨rfl, rfl, rfl, rfl, rfl, rfl, rfl, rfl, rfl, rfl, rfl, trivial⟩⟩))
       refine  (SemTo.to (Ox.buildSlice (cells := #[_, _]) rfl elem26 rfl (by decide) base26_1 (fill_cons rfl rfl rfl rfl fill_nil) rfl fun b356 _ _ => ⟨_, (.put rfl), ⟨rr, (many_at rfl (su (so (so (sk (subDrop sr)))))), ?_⟩⟩))
       refine Any.on 3 rfl rfl (SemTo.to (Ox.append (K := CZ) (fun X => (b356, _) :: (b354, _) :: (b350, _) :: X ++ (Hs319s_2 ++ ((b318, _) :: Hs214s_0 ++ ((b208, _) :: (b203, _) :: H)))) rfl rfl rfl app25 Tryz.underlying25 (by simp) (.cons (.cons (.cons .id))) ho319s_0 (ArgSl.lit z1 (Enc.le (Enc.cons (x := s319.2.1) rfl rfl Enc.nil) rfl) rfl) hx355 rfl fun vx355 Hsx355 hox355 => ⟨_, (.put rfl), ⟨rr, (many_at rfl (su (so (so (sk (subDrop sr)))))), ?_⟩⟩))
       refine Any.on 9 rfl rfl (SemTo.to (Ox.append (K := CHullHeel) (fun X => (b356, _) :: (b354, _) :: (b350, _) :: Hsx355 ++ (X ++ ((b318, _) :: Hs214s_0 ++ ((b208, _) :: (b203, _) :: H)))) rfl rfl rfl app26 Tryz.underlying26 (by simp) (.cons (.cons (.cons (.app .id)))) ho319s_2 (ArgSl.lit z0 (Enc.le (Enc.cons (x := x349) rfl rfl Enc.nil) rfl) rfl) hx357 rfl fun vx357 Hsx357 hox357 => ⟨_, (.put rfl), ⟨rr, (many_at rfl (su (so (so (sk (subDrop (subDrop sr))))))), ?_⟩⟩))
       refine Any.vs 3 [10, 11, 12] rfl ?_
       refine Any.on 13 rfl rfl (SemTo.to (Ox.store1 (cs' := #[_, _, _, _, _, _]) rfl rfl rfl one26 hox357.one (.there (.there (.there (.skip (.skip .here))))) rfl rfl rfl (.refl _) ⟨rr, (many_at rfl (su (so (so (sk (subDrop (subDrop (so sr)))))))), ?_⟩))
       exact Any.done (At.drop (so (so (so sr))) (hcut358 _ _ _ ⟨rfl, vx355, Hsx355, vx357, Hsx357, hox355, hox357, rfl, SubT.sub ⟨rfl, rfl, rfl, rfl, rfl, rfl, rfl, rfl, rfl, rfl, rfl, trivial⟩⟩))
      refine  (SemTo.to (Ox.buildSlice (cells := #[_, _]) rfl elem26 rfl (by decide) base26_1 (fill_cons rfl rfl rfl rfl fill_nil) rfl fun b356 _ _ => ⟨_, (.put rfl), ⟨rr, (many_at rfl (su (so (sk (subDrop sr))))), ?_⟩⟩))
      refine Any.on 2 rfl rfl (SemTo.to (Ox.buildSlice (cells := #[_]) rfl elem25 rfl (by decide) base25_1 (fill_cons rfl rfl rfl rfl fill_nil) rfl fun b354 _ _ => ⟨_, (.put rfl), ⟨rr, (many_at rfl (su (so (so sr)))), ?_⟩⟩))
      refine Any.on 3 rfl rfl (SemTo.to (Ox.append (K := CZ) (fun X => (b354, _) :: (b356, _) :: (b350, _) :: X ++ (Hs319s_2 ++ ((b318, _) :: Hs214s_0 ++ ((b208, _) :: (b203, _) :: H)))) rfl rfl rfl app25 Tryz.underlying25 (by simp) (.cons (.cons (.cons .id))) ho319s_0 (ArgSl.lit z0 (Enc.le (Enc.cons (x := s319.2.1) rfl rfl Enc.nil) rfl) rfl) hx355 rfl fun vx355 Hsx355 hox355 => ⟨_, (.put rfl), ⟨rr, (many_at rfl (su (so (so (sk (subDrop sr)))))), ?_⟩⟩))
      refine Any.on 9 rfl rfl (SemTo.to (Ox.append (K := CHullHeel) (fun X => (b354, _) :: (b356, _) :: (b350, _) :: Hsx355 ++ (X ++ ((b318, _) :: Hs214s_0 ++ ((b208, _) :: (b203, _) :: H)))) rfl rfl rfl app26 Tryz.underlying26 (by simp) (.cons (.cons (.cons (.app .id)))) ho319s_2 (ArgSl.lit z1 (Enc.le (Enc.cons (x := x349) rfl rfl Enc.nil) rfl) rfl) hx357 rfl fun vx357 Hsx357 hox357 => ⟨_, (.put rfl), ⟨rr, (many_at rfl (su (so (so (sk (subDrop (subDrop sr))))))), ?_⟩⟩))
      refine Any.vs 3 [10, 11, 12] rfl ?_
      refine Any.on 13 rfl rfl (SemTo.to (Ox.store1 (cs' := #[_, _, _, _, _, _]) rfl rfl rfl one26 hox357.one (.there (.there (.there (.skip (.skip .here))))) rfl rfl rfl (.refl _) ⟨rr, (many_at rfl (su (so (so (sk (subDrop (subDrop (so sr)))))))), ?_⟩))
      exact Any.done (At.drop (so (so (so sr))) (hcut358 _ _ _ ⟨rfl, vx355, Hsx355, vx357, Hsx357, hox355, hox357, rfl, SubT.sub ⟨rfl, rfl, rfl, rfl, rfl, rfl, rfl, rfl, rfl, rfl, rfl, trivial⟩⟩))
     refine sp ?_
     refine At.inBlock ?_
     refine At.rg rg2 ?_
     refine vs 2 ?_
     refine er ?_
     exact At.drop (so sr) (again319 _ (sinj hM).symm _ _ _ ⟨rfl, v319s_0, Hs319s_0, v319s_2, Hs319s_2, ho319s_0, ho319s_2, rfl, SubT.sub ⟨rfl, rfl, rfl, rfl, rfl, rfl, rfl, rfl, rfl, rfl, rfl, trivial⟩⟩)
    exact At.exit rfl (ex319_0 _ (sinj hM).symm _ _ _ ⟨rfl, v319s_0, Hs319s_0, v319s_2, Hs319s_2, ho319s_0, ho319s_2, rfl, SubT.sub ⟨rfl, rfl, rfl, rfl, rfl, rfl, rfl, trivial⟩⟩)
   rintro p319_0 R319_0 H319_0 st319_0 ⟨rfl, v319_0_0, Hs319_0_0, v319_0_1, Hs319_0_1, ho319_0_0, ho319_0_1, rfl, hst319_0⟩ hM
   refine At.sub hst319_0 ?_
   refine sg rg3 ?_
   refine At.s rfl rfl (Ox.loadN (vs := [_, _, _, _, _, _]) rfl rfl agg102 rfl ((CellsAt.box (List.mem_append_right _ (List.mem_append_right _ z0))).part (j := 0) (n := 6) rfl) rfl (.put rfl) ?_)
   refine At.freezeOwn (H2 := Hs319_0_0 ++ ((b318, _) :: Hs214s_0 ++ ((b208, _) :: (b203, _) :: H))) (fun X => Hs319_0_0 ++ (X ++ ((b318, _) :: Hs214s_0 ++ ((b208, _) :: (b203, _) :: H)))) (.app .id) rfl ho319_0_1 (fun Rf360 hRf360 hf360 => ?_)
   replace h0_3 := h0_3.mono hRf360
   replace h0_4 := h0_4.mono hRf360
   replace ho214s_0 := ho214s_0.mono hRf360
   replace ho319_0_0 := ho319_0_0.mono hRf360
   obtain ⟨x359, hx359, hM⟩ := bnd hM
   refine At.cv ent112 (m112_ok (⟨x0.Limit, ⟨x0.Ballast.Least, x0.Ballast.Most⟩, x0.Pieces, x0.Out, p319_0.2⟩ : HullBook) h0_3 h0_4 hf360 hx359) ?_
   rintro _ Rx359 _ ⟨hRx359, rfl, rfl⟩
   replace ho214s_0 := ho214s_0.mono hRx359
   replace ho319_0_0 := ho319_0_0.mono hRx359
   refine vs 1 ?_
   refine er ?_
   refine sc hM (fun ht361 hM => ?_) (fun ht361 hM => ?_)
   ·refine At.rg rg5 ?_
    refine vs 2 ?_
    refine At.freezeOwn (H2 := (b318, _) :: Hs214s_0 ++ ((b208, _) :: (b203, _) :: H)) (fun X => X ++ ((b318, _) :: Hs214s_0 ++ ((b208, _) :: (b203, _) :: H))) .id rfl ho319_0_0 (fun Rf363 hRf363 hf363 => ?_)
    replace ho214s_0 := ho214s_0.mono hRf363
    refine At.s rfl rfl (Ox.buildSlice (cells := #[_]) rfl elem135 rfl (by decide) base135_1 (fill_cons rfl ho319_0_0.cells rfl rfl fill_nil) rfl fun b362 _ _ => ⟨_, (.put rfl), ?_⟩)
    obtain ⟨x364, hx364, hM⟩ := bnd hM
    refine At.s rfl rfl (Ox.append (K := (CSl CZ 1)) (fun X => (b362, _) :: (b318, _) :: X ++ ((b208, _) :: (b203, _) :: H)) rfl rfl rfl app135 Tryz.underlying135 (by simp) (.cons (.cons .id)) ho214s_0 (ArgSl.lit z0 (Enc.le (Enc.cons (x := p319_0.1) ⟨_, rfl, hf363⟩ rfl Enc.nil) rfl) rfl) hx364 rfl fun vx364 Hsx364 hox364 => ⟨_, (.put rfl), ?_⟩)
    refine vs 1 ?_
    refine er ?_
    refine At.inBlock ?_
    refine At.rg rg2 ?_
    refine vs 2 ?_
    refine er ?_
    exact At.drop (so (so sr)) (again214 _ (sinj hM).symm _ _ _ ⟨(((hR214.trans hRf360).trans hRx359).trans hRf363), vx364, Hsx364, hox364, rfl, SubT.sub ⟨rfl, rfl, rfl, rfl, rfl, trivial⟩⟩)
   refine sp ?_
   refine At.inBlock ?_
   refine At.rg rg2 ?_
   refine vs 2 ?_
   refine er ?_
   exact At.drop (subDrop (so sr)) (again214 _ (sinj hM).symm _ _ _ ⟨((hR214.trans hRf360).trans hRx359), v214s_0, Hs214s_0, ho214s_0, rfl, SubT.sub ⟨rfl, rfl, rfl, rfl, rfl, trivial⟩⟩)
  exact At.exit rfl (At.drop (subKeep (so (so sr))) (ex214_0 _ (sinj hM).symm _ _ _ ⟨hR214, v214s_0, Hs214s_0, ho214s_0, rfl, SubT.sub ⟨rfl, trivial⟩⟩))
 rintro p214_0 R214_0 H214_0 st214_0 ⟨hR214_0, v214_0_0, Hs214_0_0, ho214_0_0, rfl, hst214_0⟩ hM
 refine At.sub hst214_0 ?_
 refine sg rg4 ?_
 refine vs 1 ?_
 obtain ⟨x365, hx365, hM⟩ := bnd hM
 obtain ⟨bx365, ox365, _, ⟨vx365, rfl, hx365s⟩, hcx365, hix365⟩ := (ho214_0_0.rd (fun _ h => (List.mem_append_left _ h))).elem slice135 hx365
 refine At.s rfl rfl (Ox.indexV rfl rfl rfl hix365 rfl (.put rfl) ?_)
 refine At.ld one25 ((hcx365.sub pp).one (j := 0) rfl) ?_
 refine vs 1 ?_
 refine es ?_
 refine sg rg3 ?_
 refine vs 1 ?_
 refine At.s rfl rfl (Ox.lenO rfl rfl ho214_0_0 Tryz.underlying135 rfl (.put rfl) ?_)
 refine vs 1 ?_
 refine er ?_
 refine At.block ?_
 refine At.loopE1 hM (fun (s366 : ((List Int) × Int)) R' H' st' => R214_0 = R' ∧ ∃ v366s_0, SlR CZ 1 R' v366s_0 s366.1 ∧ H' = Hs214_0_0 ++ (H) ∧ SubL st' [(12, v366s_0), (71, v214_0_0), (72, iv (p214_0.length : Int)), (73, iv s366.2)]) (fun (p366_0 : (List Int)) R' H' st' => R214_0 = R' ∧ ∃ v366_0_0, SlR CZ 1 R' v366_0_0 p366_0 ∧ H = H' ∧ SubL st' [(12, v366_0_0)]) 4 rfl ⟨rfl, vx365, hx365s, rfl, SubT.sub ⟨rfl, rfl, rfl, rfl, trivial⟩⟩ ?_ ?_
 rotate_right
 ·rintro s366 R366 H366 st366 ⟨rfl, v366s_0, h366s_0, rfl, hst366⟩ x366 hM again366 ex366_0
  refine At.sub hst366 ?_
  refine sg rg1 ?_
  refine vs 1 ?_
  refine es ?_
  refine sc hM (fun ht381 hM => ?_) (fun ht381 hM => ?_)
  ·refine sp ?_
   refine sq ?_
   refine At.block ?_
   refine sg rg3 ?_
   obtain ⟨x382, hx382, hM⟩ := bnd hM
   obtain ⟨bx382, ox382, _, ⟨vx382, rfl, hx382s⟩, hcx382, hix382⟩ := (ho214_0_0.rd (fun _ h => (List.mem_append_left _ h))).elem slice135 hx382
   refine At.s rfl rfl (Ox.indexV rfl rfl rfl hix382 rfl (.put rfl) ?_)
   refine At.ld one25 ((hcx382.sub pp).one (j := 0) rfl) ?_
   refine vs 1 ?_
   refine nx rg3 ?_
   refine vs 2 ?_
   obtain ⟨x383, hx383, hM⟩ := bnd hM
   refine At.cv ent113 (m113_ok x382 s366.1 hx382s.rd h366s_0.rd hx383) ?_
   rintro _ _ _ ⟨rfl, rfl, rfl⟩
   refine er ?_
   refine sc hM (fun ht384 hM => ?_) (fun ht384 hM => ?_)
   ·refine At.rg rg2 ?_
    refine vs 2 ?_
    refine er ?_
    refine At.inBlock ?_
    refine At.rg rg2 ?_
    refine vs 2 ?_
    refine er ?_
    exact again366 _ (sinj hM).symm _ _ _ ⟨rfl, vx382, hx382s, rfl, SubT.sub ⟨rfl, rfl, rfl, rfl, trivial⟩⟩
   refine sp ?_
   refine At.inBlock ?_
   refine At.rg rg2 ?_
   refine vs 2 ?_
   refine er ?_
   exact again366 _ (sinj hM).symm _ _ _ ⟨rfl, v366s_0, h366s_0, rfl, SubT.sub ⟨rfl, rfl, rfl, rfl, trivial⟩⟩
  exact At.exit rfl (At.drop (subDrop sr) (ex366_0 _ (sinj hM).symm _ _ _ ⟨rfl, v366s_0, h366s_0, rfl, SubT.sub ⟨rfl, trivial⟩⟩))
 rintro p366_0 R366_0 H366_0 st366_0 ⟨rfl, v366_0_0, h366_0_0, rfl, hst366_0⟩ hM
 refine At.sub hst366_0 ?_
 refine sq ?_
 refine sg rg3 ?_
 refine vs 1 ?_
 refine ls h366_0_0 Tryz.underlying25 ?_
 refine vs 1 ?_
 refine er ?_
 refine sc hM (fun ht385 hM => ?_) (fun ht385 hM => ?_)
 ·refine sg rg2 ?_
  refine vs 2 ?_
  refine er ?_
  obtain rfl := sinj hM
  exact rt Tryz.func31 (.tmp rfl (.tmp rfl .nil)) sr (hk _ _ _ ⟨((hRx204.trans hRx209).trans hR214_0), rfl, .slice none 0 0, SlR.nil, rfl⟩)
 refine sp ?_
 refine sg rg3 ?_
 refine vs 3 ?_
 refine er ?_
 obtain rfl := sinj hM
 exact rt Tryz.func31 (.tmp rfl (.tmp rfl .nil)) sr (hk _ _ _ ⟨((hRx204.trans hRx209).trans hR214_0), rfl, v366_0_0, h366_0_0, rfl⟩)
theorem m33_ok (x0 : HullBook) {v0_3 v0_4 v0_5 : Value} (hG : GOk R) (h0_3 : SlR CHullPiece 5 R v0_3 x0.Pieces) (h0_4 : SlR CZ 1 R v0_4 x0.Out) (h0_5 : SlR CHullHeel 2 R v0_5 x0.Heels) {r : (Int × Int × Int)} (hM : m33 x0 = some r) : FnOk 𝒥 33 #[.agg #[iv x0.Limit, iv x0.Ballast.Least, iv x0.Ballast.Most, v0_3, v0_4, v0_5]] R H (fun v R' H' => RLe R R' ∧ H = H' ∧ v = .tuple #[iv r.1, iv r.2.1, iv r.2.2]) := by
 unfold m33 at hM
 refine FnOk.of_at Tryz.func33 rfl (n := 63) rfl rfl fun fr cs hk => ?_
 refine sg rg4 ?_
 refine bx fun b133 => ?_
 refine vs 3 ?_
 refine nx rg8 ?_
 refine lN [_, _, _, _, _, _] 0 6 agg28 z0 ?_
 obtain ⟨x134, hx134, hM⟩ := bnd hM
 refine At.cv ent89 (m89_ok x0 (fun y => m90 y) hG h0_3 h0_4 h0_5 ⟨90, #[], #[], rfl, ent90, fun R' H' hR hH y r va hA hr => by obtain ⟨_, rfl, ⟨vy_3, vy_4, vy_5, hy_3, hy_4, hy_5, rfl⟩⟩ := hA; exact (m90_ok y hy_3 hy_4 hy_5 hr).mono fun _ _ _ ⟨h1, h2, h3⟩ => ⟨h1 ▸ rr, h2.symm, h3⟩⟩ hx134) ?_
 rintro _ Rx134 _ ⟨hRx134, Hsx134, vx134r0_3, vx134r0_4, vx134r0_5, vx134r0_6, vx134r0_7, hx134r0_3, hx134r0_4, hx134r0_5, hx134r0_6, hx134r0_7, rfl, rfl⟩
 replace h0_3 := h0_3.mono hRx134
 refine vs 3 ?_
 refine At.s rfl rfl (Ox.alloc (cs := #[iv 0, iv 0, iv 0, .slice none 0 0, .slice none 0 0, .slice none 0 0, .slice none 0 0, .map none]) rfl zero106 rfl fun b135 _ _ => ⟨_, (.put rfl), ?_⟩)
 refine At.s rfl rfl (Ox.storeN (cs' := #[_, _, _, _, _, _, _, _]) rfl rfl rfl agg106 rfl (ones_cons rfl (ones_cons rfl (ones_cons rfl (ones_cons hx134r0_3.one (ones_cons hx134r0_4.one (ones_cons hx134r0_5.one (ones_cons hx134r0_6.one (ones_cons hx134r0_7.one ones_nil)))))))) .here rfl rfl rfl (.refl _) ?_)
 refine vs 1 ?_
 refine es ?_
 refine sg rg2 ?_
 refine vs 2 ?_
 refine er ?_
 refine sc hM (fun ht138 hM => ?_) (fun ht138 hM => ?_)
 ·refine sg rg4 ?_
  refine vs 4 ?_
  refine er ?_
  obtain rfl := sinj hM
  exact rt Tryz.func33 (.tmp rfl (.tmp rfl (.tmp rfl .nil))) (so (subDrop (so sr))) (hk _ _ _ ⟨hRx134, rfl, rfl⟩)
 refine sp ?_
 refine sq ?_
 refine At.dw rg5 mixed ?_
 refine Any.vs 1 [0] rfl ?_
 refine tl 1 6 one103 z0 ?_
 refine Any.tk 2 rfl pp (fun R' H' hR hS => Ox.lenS (K := CCargo) (k := 6) (xs := x134.1.alls) rfl rfl (hx134r0_6.mono hR) Tryz.underlying103 rfl (.one rfl) ⟨rfl, rfl, rfl⟩) ?_
 refine Any.vs 2 [3, 4] rfl ?_
 refine Any.done ?_
 refine sg rg2 ?_
 refine At.s rfl rfl (Ox.makeMapW rfl rfl fun vx139 Hsx139 hqx139 => ⟨_, (.put rfl), ?_⟩)
 refine vs 1 ?_
 refine es ?_
 refine sg rg4 ?_
 refine vs 1 ?_
 refine At.ld one24 ((CellsAt.box (List.mem_append_right _ (.tail _ (List.mem_append_right _ z0)))).one (j := 3) rfl) ?_
 refine ls h0_3 Tryz.underlying24 ?_
 refine vs 1 ?_
 refine er ?_
 refine At.block ?_
 refine At.drop (H' := Hsx139 ++ ((b135, .cells #[iv x134.1.book.Limit, iv x134.1.book.Ballast.Least, iv x134.1.book.Ballast.Most, vx134r0_3, vx134r0_4, vx134r0_5, vx134r0_6, vx134r0_7] 106) :: Hsx134 ++ (H))) (subKeep (sk (subKeep (so sr)))) ?_
 refine At.loopE1 hM (fun (s140 : (Int × Int × (Int → Int → Int) × Int)) R' H' st' => Rx134 = R' ∧ ∃ Hs140s_2, OwnW vx139 s140.2.2.1 Hs140s_2 ∧ H' = Hs140s_2 ++ ((b135, .cells #[iv x134.1.book.Limit, iv x134.1.book.Ballast.Least, iv x134.1.book.Ballast.Most, vx134r0_3, vx134r0_4, vx134r0_5, vx134r0_6, vx134r0_7] 106) :: Hsx134 ++ (H)) ∧ SubL st' [(2, iv s140.1), (3, iv s140.2.1), (5, .pointer (some ⟨b135, 0, none⟩)), (6, vx139), (26, iv (x0.Pieces.length : Int)), (27, iv s140.2.2.2)]) (fun (p140_0 : (Int × Int)) R' H' st' => Rx134 = R' ∧ H = H' ∧ SubL st' [(2, iv p140_0.1), (3, iv p140_0.2)]) 0 rfl ⟨rfl, Hsx139, hqx139, rfl, SubT.sub ⟨rfl, rfl, rfl, rfl, rfl, rfl, trivial⟩⟩ ?_ ?_
 rotate_right
 ·rintro s140 R140 H140 st140 ⟨rfl, Hs140s_2, hq140s_2, rfl, hst140⟩ x140 hM again140 ex140_0
  refine At.sub hst140 ?_
  refine sg rg1 ?_
  refine vs 1 ?_
  refine es ?_
  refine sc hM (fun ht213 hM => ?_) (fun ht213 hM => ?_)
  ·refine sp ?_
   refine sq ?_
   refine At.block ?_
   refine sg rg2 ?_
   refine vs 2 ?_
   refine nx rg1 ?_
   refine vs 1 ?_
   refine es ?_
   refine sg rg4 ?_
   refine vs 1 ?_
   refine ld 6 one103 (List.mem_append_right _ z0) ?_
   refine ls hx134r0_6 Tryz.underlying103 ?_
   refine vs 1 ?_
   refine er ?_
   refine At.block ?_
   refine At.loopE1 hM (fun (s214 : ((Int → Int → Int) × Int × Int)) R' H' st' => Rx134 = R' ∧ ∃ Hs214s_0, OwnW vx139 s214.1 Hs214s_0 ∧ H' = Hs214s_0 ++ ((b135, .cells #[iv x134.1.book.Limit, iv x134.1.book.Ballast.Least, iv x134.1.book.Ballast.Most, vx134r0_3, vx134r0_4, vx134r0_5, vx134r0_6, vx134r0_7] 106) :: Hsx134 ++ (H)) ∧ SubL st' [(2, iv s140.1), (3, iv s140.2.1), (5, .pointer (some ⟨b135, 0, none⟩)), (6, vx139), (7, iv s140.2.2.2), (8, iv s214.2.1), (26, iv (x0.Pieces.length : Int)), (27, iv s140.2.2.2), (31, vx134r0_6), (32, iv (x134.1.alls.length : Int)), (33, iv s214.2.2)]) (fun (p214_0 : ((Int → Int → Int) × Int)) R' H' st' => Rx134 = R' ∧ ∃ Hs214_0_0, OwnW vx139 p214_0.1 Hs214_0_0 ∧ H' = Hs214_0_0 ++ ((b135, .cells #[iv x134.1.book.Limit, iv x134.1.book.Ballast.Least, iv x134.1.book.Ballast.Most, vx134r0_3, vx134r0_4, vx134r0_5, vx134r0_6, vx134r0_7] 106) :: Hsx134 ++ (H)) ∧ SubL st' [(2, iv s140.1), (3, iv s140.2.1), (5, .pointer (some ⟨b135, 0, none⟩)), (6, vx139), (7, iv s140.2.2.2), (8, iv p214_0.2), (26, iv (x0.Pieces.length : Int)), (27, iv s140.2.2.2)]) 2 rfl ⟨rfl, Hs140s_2, hq140s_2, rfl, SubT.sub ⟨rfl, rfl, rfl, rfl, rfl, rfl, rfl, rfl, rfl, rfl, rfl, trivial⟩⟩ ?_ ?_
   rotate_right
   ·rintro s214 R214 H214 st214 ⟨rfl, Hs214s_0, hq214s_0, rfl, hst214⟩ x214 hM again214 ex214_0
    refine At.sub hst214 ?_
    refine sg rg1 ?_
    refine vs 1 ?_
    refine es ?_
    refine sc hM (fun ht237 hM => ?_) (fun ht237 hM => ?_)
    ·refine sp ?_
     refine sq ?_
     refine At.block ?_
     refine sg rg4 ?_
     obtain ⟨x238, hx238, hM⟩ := bnd hM
     obtain ⟨bx238, ox238, _, ⟨lx238_1, rfl⟩, hcx238, hix238⟩ := hx134r0_6.elem slice103 hx238
     refine At.s rfl rfl (Ox.indexV rfl rfl rfl hix238 rfl (.put rfl) ?_)
     refine At.s rfl rfl (Ox.loadN (vs := _) rfl rfl agg125 (by simp [lx238_1]) (hcx238.any.part (j := 0) (n := 6) (take_all (by simp [lx238_1]))) rfl (.put rfl) ?_)
     refine At.s rfl rfl (Ox.alloc (cs := (List.toArray ([iv 0] ++ ([0, 0, 0, 0, 0].map (Value.int .i64) ++ [])))) rfl zero125 rfl fun b239 _ _ => ⟨_, (.put rfl), ?_⟩)
     refine At.s rfl rfl (Ox.storeN (cs' := _) rfl rfl rfl agg125 (by simp [lx238_1]) (ones_app (ones_cons rfl ones_nil) (ones_app (ones_map fun _ => rfl) ones_nil)) .here (by simp) (putCells_whole (by simp [lx238_1])) rfl (.refl _) ?_)
     refine nx rg8 ?_
     refine vs 3 ?_
     obtain ⟨x240, hx240, hM⟩ := bnd hM
     refine At.s rfl rfl (Ox.indexV rfl rfl rfl (idxArr' array123 lx238_1 hx240) rfl (.put rfl) ?_)
     refine At.ld one3 ((CellsAt.box z0).arr hx240 rfl) ?_
     refine At.s rfl rfl (Ox.build (cells := #[_, _]) rfl struct145 rfl (fill_cons rfl rfl rfl rfl (fill_cons rfl rfl rfl rfl fill_nil)) rfl (.put rfl) ?_)
     refine At.s rfl rfl (Ox.alloc (cs := #[iv 0, iv 0]) rfl zero145 rfl fun b241 _ _ => ⟨_, (.put rfl), ?_⟩)
     refine At.s rfl rfl (Ox.storeN (cs' := #[_, _]) rfl rfl rfl agg145 rfl (ones_cons rfl (ones_cons rfl ones_nil)) .here rfl rfl rfl (.refl _) ?_)
     refine es ?_
     refine At.cut (fun R' H' st' => Rx134 = R' ∧ ∃ (Hsx243 : HList), OwnW vx139 (updW s214.1 s140.2.2.2 x240 (i64 ((s214.1 s140.2.2.2 x240) + 1))) Hsx243 ∧ H' = (b241, .cells #[iv s140.2.2.2, iv x240] 145) :: Hsx243 ++ ((b135, .cells #[iv x134.1.book.Limit, iv x134.1.book.Ballast.Least, iv x134.1.book.Ballast.Most, vx134r0_3, vx134r0_4, vx134r0_5, vx134r0_6, vx134r0_7] 106) :: Hsx134 ++ (H)) ∧ SubL st' [(2, iv s140.1), (3, iv s140.2.1), (5, .pointer (some ⟨b135, 0, none⟩)), (6, vx139), (7, iv s140.2.2.2), (8, iv s214.2.1), (11, .pointer (some ⟨b241, 0, none⟩)), (26, iv (x0.Pieces.length : Int)), (27, iv s140.2.2.2), (31, vx134r0_6), (32, iv (x134.1.alls.length : Int)), (33, iv s214.2.2)]) ?_ ?_
     ·rintro Rc244 Hc244 stc244 ⟨rfl, Hsx243, hqx243, rfl, hstc244⟩
      refine At.sub hstc244 ?_
      refine At.rg rg6 ?_
      refine vs 2 ?_
      refine lN [_, _] 0 2 agg145 z0 ?_
      refine At.s rfl rfl (Ox.lookupW (p := s140.2.2.2) (w := x240) rfl rfl rfl map143 hqx243 (fun _ h => (.tail _ (List.mem_append_left _ h))) rfl (.put rfl) ?_)
      refine At.s rfl rfl (Ox.max (a := s214.2.1) (l := [(updW s214.1 s140.2.2.2 x240 (i64 ((s214.1 s140.2.2.2 x240) + 1))) s140.2.2.2 x240]) rfl rfl rfl (.put rfl) ?_)
      refine vs 1 ?_
      refine er ?_
      refine At.inBlock ?_
      refine At.rg rg2 ?_
      refine vs 2 ?_
      refine er ?_
      exact At.drop (so sr) (again214 _ (sinj hM).symm _ _ _ ⟨rfl, Hsx243, hqx243, rfl, SubT.sub ⟨rfl, rfl, rfl, rfl, rfl, rfl, rfl, rfl, rfl, rfl, rfl, trivial⟩⟩)
     intro hcut244
     refine At.draw (n := 7) (is := [0, 1, 2, 3, 4, 5, 6]) (many ((b241, .cells #[iv s140.2.2.2, iv x240] 145) :: (b239, .cells (List.toArray ([iv x238.ballast] ++ (x238.weights.map (Value.int .i64) ++ []))) 125) :: Hs214s_0 ++ ((b135, .cells #[iv x134.1.book.Limit, iv x134.1.book.Ballast.Least, iv x134.1.book.Ballast.Most, vx134r0_3, vx134r0_4, vx134r0_5, vx134r0_6, vx134r0_7] 106) :: Hsx134 ++ (H))) [(2, (b241, .cells #[iv s140.2.2.2, iv x240] 145) :: (b239, .cells (List.toArray ([iv x238.ballast] ++ (x238.weights.map (Value.int .i64) ++ []))) 125) :: (b135, .cells #[iv x134.1.book.Limit, iv x134.1.book.Ballast.Least, iv x134.1.book.Ballast.Most, vx134r0_3, vx134r0_4, vx134r0_5, vx134r0_6, vx134r0_7] 106) :: Hsx134 ++ (H)), (4, (b241, .cells #[iv s140.2.2.2, iv x240] 145) :: (b239, .cells (List.toArray ([iv x238.ballast] ++ (x238.weights.map (Value.int .i64) ++ []))) 125) :: (b135, .cells #[iv x134.1.book.Limit, iv x134.1.book.Ballast.Least, iv x134.1.book.Ballast.Most, vx134r0_3, vx134r0_4, vx134r0_5, vx134r0_6, vx134r0_7] 106) :: Hsx134 ++ (H)), (6, (b241, .cells #[iv s140.2.2.2, iv x240] 145) :: (b239, .cells (List.toArray ([iv x238.ballast] ++ (x238.weights.map (Value.int .i64) ++ []))) 125) :: (b135, .cells #[iv x134.1.book.Limit, iv x134.1.book.Ballast.Least, iv x134.1.book.Ballast.Most, vx134r0_3, vx134r0_4, vx134r0_5, vx134r0_6, vx134r0_7] 106) :: Hsx134 ++ (H))]) mixed rfl (by decide +kernel) rfl rfl ?_
     refine Any.vs 1 [0] rfl ?_
     refine ts 1 [2, 3, 4, 5, 6] rfl (many_skip rfl (many_skip rfl (many_skip rfl (many_nil (su (sk (so (subDrop (so (subDrop sr)))))))))) (su (sk (so (subDrop (so (subDrop sr)))))) (fun R' H' hR hS => Ox.loadN (vs := [_, _]) rfl rfl agg145 rfl ((CellsAt.box (hS _ z0)).part (j := 0) (n := 2) rfl) rfl (.one rfl) ⟨rfl, rfl, rfl⟩) ?_
     refine tw 2 4 ?_ ?_
     ·refine  (SemTo.to (Ox.lookupW (p := s140.2.2.2) (w := x240) rfl rfl rfl map143 hq214s_0 (fun _ h => (.tail _ (.tail _ (List.mem_append_left _ h)))) rfl (.put rfl) ⟨rr, (many_at rfl (su (sk (sk (subDrop sr))))), ?_⟩))
      refine Any.vs 1 [3] rfl ?_
      refine Any.on 4 rfl rfl (SemTo.to (Ox.mapEntry (p := s140.2.2.2) (w := x240) (fun X => (b241, _) :: (b239, _) :: X ++ ((b135, _) :: Hsx134 ++ (H))) rfl rfl rfl map143 (.cons (.cons .id)) hq214s_0 rfl fun gx242 Hsx242 hEx242 => ⟨_, (.put rfl), ⟨rr, (many_at rfl (su (sk (sk (subDrop sr))))), ?_⟩⟩))
      refine Any.vs 1 [5] rfl ?_
      refine Any.on 6 rfl rfl (SemTo.to (Ox.entryStore (fun X => (b241, _) :: (b239, _) :: X ++ ((b135, _) :: Hsx134 ++ (H))) rfl rfl rfl rfl (.cons (.cons .id)) hEx242 rfl (.refl _) fun Hsx243 hqx243 => ⟨rr, (many_at rfl (su (sk (sk (subDrop sr))))), ?_⟩))
      exact Any.done (At.drop (sk (so sr)) (hcut244 _ _ _ ⟨rfl, Hsx243, hqx243, rfl, SubT.sub ⟨rfl, rfl, rfl, rfl, rfl, rfl, rfl, rfl, rfl, rfl, rfl, rfl, trivial⟩⟩))
     refine  (SemTo.to (Ox.mapEntry (p := s140.2.2.2) (w := x240) (fun X => (b241, _) :: (b239, _) :: X ++ ((b135, _) :: Hsx134 ++ (H))) rfl rfl rfl map143 (.cons (.cons .id)) hq214s_0 rfl fun gx242 Hsx242 hEx242 => ⟨_, (.put rfl), ⟨rr, (many_at rfl (su (sk (sk (subDrop sr))))), ?_⟩⟩))
     refine Any.vs 1 [5] rfl ?_
     refine Any.on 2 rfl rfl (SemTo.to (Ox.lookupW (p := s140.2.2.2) (w := x240) rfl rfl rfl map143 hEx242.own (fun _ h => (.tail _ (.tail _ (List.mem_append_left _ h)))) rfl (.put rfl) ⟨rr, (many_at rfl (su (sk (sk (subDrop sr))))), ?_⟩))
     refine Any.vs 1 [3] rfl ?_
     refine Any.on 6 rfl rfl (SemTo.to (Ox.entryStore (fun X => (b241, _) :: (b239, _) :: X ++ ((b135, _) :: Hsx134 ++ (H))) rfl rfl rfl rfl (.cons (.cons .id)) hEx242 rfl (.refl _) fun Hsx243 hqx243 => ⟨rr, (many_at rfl (su (sk (sk (subDrop sr))))), ?_⟩))
     exact Any.done (At.drop (sk (so sr)) (hcut244 _ _ _ ⟨rfl, Hsx243, hqx243, rfl, SubT.sub ⟨rfl, rfl, rfl, rfl, rfl, rfl, rfl, rfl, rfl, rfl, rfl, rfl, trivial⟩⟩))
    exact At.exit rfl (ex214_0 _ (sinj hM).symm _ _ _ ⟨rfl, Hs214s_0, hq214s_0, rfl, SubT.sub ⟨rfl, rfl, rfl, rfl, rfl, rfl, rfl, rfl, trivial⟩⟩)
   rintro p214_0 R214_0 H214_0 st214_0 ⟨rfl, Hs214_0_0, hq214_0_0, rfl, hst214_0⟩ hM
   refine At.sub hst214_0 ?_
   refine sg rg3 ?_
   refine vs 3 ?_
   refine er ?_
   refine sc hM (fun ht245 hM => ?_) (fun ht245 hM => ?_)
   ·refine At.rg rg4 ?_
    refine vs 4 ?_
    refine er ?_
    refine At.inBlock ?_
    refine At.rg rg2 ?_
    refine vs 2 ?_
    refine er ?_
    exact again140 _ (sinj hM).symm _ _ _ ⟨rfl, Hs214_0_0, hq214_0_0, rfl, SubT.sub ⟨rfl, rfl, rfl, rfl, rfl, rfl, trivial⟩⟩
   refine sp ?_
   refine At.inBlock ?_
   refine At.rg rg2 ?_
   refine vs 2 ?_
   refine er ?_
   exact again140 _ (sinj hM).symm _ _ _ ⟨rfl, Hs214_0_0, hq214_0_0, rfl, SubT.sub ⟨rfl, rfl, rfl, rfl, rfl, rfl, trivial⟩⟩
  exact At.exit rfl (At.drop (subDrop (so (subDrop sr))) (ex140_0 _ (sinj hM).symm _ _ _ ⟨rfl, rfl, SubT.sub ⟨rfl, rfl, trivial⟩⟩))
 rintro p140_0 R140_0 H140_0 st140_0 ⟨rfl, rfl, hst140_0⟩ hM
 refine At.sub hst140_0 ?_
 refine sg rg5 ?_
 refine vs 5 ?_
 refine er ?_
 obtain rfl := sinj hM
 exact rt Tryz.func33 (.tmp rfl (.tmp rfl (.tmp rfl .nil))) sr (hk _ _ _ ⟨hRx134, rfl, rfl⟩)
theorem m117_ok (x0 : (List HullHeel)) {v0 : Value} (h0 : RdS CHullHeel 2 R H v0 x0) {r : List HullHeel} (hM : m117 x0 = some r) : FnOk 𝒥 117 #[v0] R H (fun v R' H' => RLe R R' ∧ ∃ w Hs, OwnSl CHullHeel 2 47 R' w r Hs ∧ H' = Hs ++ H ∧ v = w) := by
 rcases h0.nilOr with ⟨cap0, rfl, rfl⟩ | ⟨a0, n0, cap0, rfl⟩
 ·have hM : some ([] : List HullHeel) = some r := by simpa [m117, appM] using hM
  refine FnOk.of_at Tryz.func117 rfl (n := 8) rfl rfl fun fr cs hk => ?_
  refine sg rg1 ?_
  refine vs 1 ?_
  refine es ?_
  refine sg rg2 ?_
  refine vs 1 ?_
  refine At.s rfl rfl (Ox.eqNil rfl rfl rfl Tryz.underlying26 rfl rfl (.put rfl) ?_)
  refine er ?_
  refine At.cond_true rfl ?_
  refine sg rg1 ?_
  refine vs 1 ?_
  refine er ?_
  obtain rfl := sinj hM
  exact rt Tryz.func117 (.tmp rfl .nil) sr (hk _ _ _ ⟨(rr), .slice none 0 0, [], OwnSl.nil, rfl, rfl⟩)
 ·unfold m117 at hM
  refine FnOk.of_at Tryz.func117 rfl (n := 8) rfl rfl fun fr cs hk => ?_
  refine sg rg1 ?_
  refine vs 1 ?_
  refine es ?_
  refine sg rg2 ?_
  refine vs 1 ?_
  refine At.s rfl rfl (Ox.eqNil rfl rfl rfl Tryz.underlying26 rfl rfl (.put rfl) ?_)
  refine er ?_
  refine At.cond_false rfl ?_
  refine sp ?_
  refine sg rg4 ?_
  refine At.s rfl rfl (Ox.buildSlice (cells := #[]) rfl elem26 rfl (by decide) base26_0 fill_nil rfl fun b20 _ _ => ⟨_, (.put rfl), ?_⟩)
  refine vs 1 ?_
  obtain ⟨x21, hx21, hM⟩ := bnd hM
  refine At.s rfl rfl (Ox.append (K := CHullHeel) (fun X => X ++ (H)) rfl rfl rfl app26 Tryz.underlying26 (by simp) .id (OwnSl.lit (Enc.le Enc.nil rfl) rfl) (h0.sub (su (so sr))).arg hx21 rfl fun vx21 Hsx21 hox21 => ⟨_, (.put rfl), ?_⟩)
  refine vs 1 ?_
  refine er ?_
  obtain rfl := sinj hM
  exact rt Tryz.func117 (.tmp rfl .nil) sr (hk _ _ _ ⟨(rr), vx21, Hsx21, hox21, rfl, rfl⟩)
theorem m122_ok (x0 : (List HullPiece)) {v0 : Value} (h0 : RdS CHullPiece 5 R H v0 x0) {r : List HullPiece} (hM : m122 x0 = some r) : FnOk 𝒥 122 #[v0] R H (fun v R' H' => RLe R R' ∧ ∃ w Hs, OwnSl CHullPiece 5 58 R' w r Hs ∧ H' = Hs ++ H ∧ v = w) := by
 rcases h0.nilOr with ⟨cap0, rfl, rfl⟩ | ⟨a0, n0, cap0, rfl⟩
 ·have hM : some ([] : List HullPiece) = some r := by simpa [m122, appM] using hM
  refine FnOk.of_at Tryz.func122 rfl (n := 8) rfl rfl fun fr cs hk => ?_
  refine sg rg1 ?_
  refine vs 1 ?_
  refine es ?_
  refine sg rg2 ?_
  refine vs 1 ?_
  refine At.s rfl rfl (Ox.eqNil rfl rfl rfl Tryz.underlying24 rfl rfl (.put rfl) ?_)
  refine er ?_
  refine At.cond_true rfl ?_
  refine sg rg1 ?_
  refine vs 1 ?_
  refine er ?_
  obtain rfl := sinj hM
  exact rt Tryz.func122 (.tmp rfl .nil) sr (hk _ _ _ ⟨(rr), .slice none 0 0, [], OwnSl.nil, rfl, rfl⟩)
 ·unfold m122 at hM
  refine FnOk.of_at Tryz.func122 rfl (n := 8) rfl rfl fun fr cs hk => ?_
  refine sg rg1 ?_
  refine vs 1 ?_
  refine es ?_
  refine sg rg2 ?_
  refine vs 1 ?_
  refine At.s rfl rfl (Ox.eqNil rfl rfl rfl Tryz.underlying24 rfl rfl (.put rfl) ?_)
  refine er ?_
  refine At.cond_false rfl ?_
  refine sp ?_
  refine sg rg4 ?_
  refine At.s rfl rfl (Ox.buildSlice (cells := #[]) rfl elem24 rfl (by decide) base24_0 fill_nil rfl fun b20 _ _ => ⟨_, (.put rfl), ?_⟩)
  refine vs 1 ?_
  obtain ⟨x21, hx21, hM⟩ := bnd hM
  refine At.s rfl rfl (Ox.append (K := CHullPiece) (fun X => X ++ (H)) rfl rfl rfl app24 Tryz.underlying24 (by simp) .id (OwnSl.lit (Enc.le Enc.nil rfl) rfl) (h0.sub (su (so sr))).arg hx21 rfl fun vx21 Hsx21 hox21 => ⟨_, (.put rfl), ?_⟩)
  refine vs 1 ?_
  refine er ?_
  obtain rfl := sinj hM
  exact rt Tryz.func122 (.tmp rfl .nil) sr (hk _ _ _ ⟨(rr), vx21, Hsx21, hox21, rfl, rfl⟩)
end
end Go.Proofs.YtabamagholjdcaaGreatDoor
