/- The chapter's examples, by reckoning. Conditions: none. -/
import Derived.Test.YtabamagholjdcaaGreatDoorQHuM
import Derived.Test.YtabamagholjdcaaGreatDoorQLgC
namespace Go.Proofs.YtabamagholjdcaaGreatDoor
open Go.Lg Go.Proofs
set_option maxRecDepth 100000
set_option maxHeartbeats 4000000
def c104 (x0 : HullBook) (x1 : Cargo) (x2 : (List Bool)) : Option Int :=
 (loopC (O := Int) (fun (s51 : (Int × Int)) =>
 sel (decide (s51.2 < (x0.Pieces.length : Int)))
 ((idx x0.Pieces s51.2).bind fun x71 =>
 (idx x2 s51.2).bind fun x73 =>
 sel (!x73)
 ((idx x1.weights s51.2).bind fun x75 =>
 some (.inl (i64 (s51.1 + (i64 (x71.Arm * x75))), i64 (s51.2 + 1))))
 (some (.inl (s51.1, i64 (s51.2 + 1)))))
 (some (.inr s51.1))) (x1.ballast, 0)).bind (fun (p51_0 : Int) =>
 some p51_0)
theorem le104 (x0 : HullBook) (x1 : Cargo) (x2 : (List Bool)) : LeO (c104 x0 x1 x2) (m104 x0 x1 x2) := by
 unfold c104 m104
 repeat' (first | with_reducible exact LeO.refl _ | with_reducible refine LeO.loop fun _ => ?_ | with_reducible refine LeO.sel ?_ ?_ | with_reducible refine LeO.elim (fun _ => ?_) (fun _ => ?_) _ | with_reducible refine LeO.runY (fun _ _ => ?_) _ _ | with_reducible exact hy _ _ | with_reducible refine LeO.bind ?_ fun _ => ?_)
def c147 (x0 : Opened) (x1 : Int) : Option (List Bool × Int) :=
 (loopC (O := (List Bool)) (fun (s21 : (Int × (List Bool))) =>
 sel (decide (s21.1 < (x0.book.Pieces.length : Int)))
 ((shrM .i64 x1 s21.1).bind fun x37 =>
 (bitsI .and .i64 x37 1).bind fun x38 =>
 (idx s21.2 s21.1).bind fun _ =>
 some (.inl (i64 (s21.1 + 1), s21.2.set s21.1.toNat (x38 == 1))))
 (some (.inr s21.2))) (0, [false, false, false, false, false])).bind (fun (p21_0 : (List Bool)) =>
 (loopC (O := Int) (fun (s40 : (Int × Int)) =>
 sel (decide (s40.2 < (x0.alls.length : Int)))
 ((idx x0.alls s40.2).bind fun x56 =>
 (c104 x0.book x56 p21_0).bind fun x58 =>
 some (.inl (maxI s40.1 [x58, i64 (0 - x58)], i64 (s40.2 + 1))))
 (some (.inr s40.1))) (0, 0)).bind (fun (p40_0 : Int) =>
 some (p21_0, p40_0)))
theorem le147 (x0 : Opened) (x1 : Int) : LeO (c147 x0 x1) (m147 x0 x1) := by
 unfold c147 m147
 repeat' (first | with_reducible exact LeO.refl _ | with_reducible refine LeO.loop fun _ => ?_ | with_reducible refine LeO.sel ?_ ?_ | with_reducible refine LeO.elim (fun _ => ?_) (fun _ => ?_) _ | with_reducible refine LeO.runY (fun _ _ => ?_) _ _ | with_reducible exact le104 _ _ _ | with_reducible refine LeO.bind ?_ fun _ => ?_)
def c91 (x0 : Opened) : Option Tab :=
 (shlM .i64 1 (x0.book.Pieces.length : Int)).bind fun many =>
 ((List.range many.toNat).mapM (fun (i : Nat) => c147 x0 (i : Int))).bind fun l =>
 if x0.worsts = [] ∧ (l.map (·.1)).Nodup ∧ (∀ p ∈ l, p.1.length = 5) ∧ 0 ≤ many ∧ many ≤ 1048576 then some l else none
theorem le91 (x0 : Opened) : LeO (c91 x0) (m91 x0) := by
 unfold c91 m91
 repeat' (first | with_reducible exact LeO.refl _ | with_reducible refine LeO.loop fun _ => ?_ | with_reducible refine LeO.sel ?_ ?_ | with_reducible refine LeO.elim (fun _ => ?_) (fun _ => ?_) _ | with_reducible refine LeO.runY (fun _ _ => ?_) _ _ | with_reducible refine LeO.mapM (fun _ => ?_) _ | with_reducible exact le147 _ _ | with_reducible refine LeO.bind ?_ fun _ => ?_)
def c121 (x0 : Reach) (x1 : Int) (x2 : Int) (x3 : Int) : Option Bool :=
 sel (decide (x1 ≤ x0.Least))
 (sel (decide (x0.Least ≤ x0.Most))
 (sel (decide (x0.Most ≤ x2))
 (some (decide (i64 (x0.Most - x0.Least) < x3)))
 (some false))
 (some false))
 (some false)
theorem le121 (x0 : Reach) (x1 : Int) (x2 : Int) (x3 : Int) : LeO (c121 x0 x1 x2 x3) (m121 x0 x1 x2 x3) := by
 unfold c121 m121
 repeat' (first | with_reducible exact LeO.refl _ | with_reducible refine LeO.loop fun _ => ?_ | with_reducible refine LeO.sel ?_ ?_ | with_reducible refine LeO.elim (fun _ => ?_) (fun _ => ?_) _ | with_reducible refine LeO.runY (fun _ _ => ?_) _ _ | with_reducible exact hy _ _ | with_reducible refine LeO.bind ?_ fun _ => ?_)
def c154 (x0 : Int) (x1 : Int) (x2 : Int) : Option Bool :=
 sel (decide (x1 ≤ x0))
 (some (decide (x0 ≤ x2)))
 (some false)
theorem le154 (x0 : Int) (x1 : Int) (x2 : Int) : LeO (c154 x0 x1 x2) (m154 x0 x1 x2) := by
 unfold c154 m154
 repeat' (first | with_reducible exact LeO.refl _ | with_reducible refine LeO.loop fun _ => ?_ | with_reducible refine LeO.sel ?_ ?_ | with_reducible refine LeO.elim (fun _ => ?_) (fun _ => ?_) _ | with_reducible refine LeO.runY (fun _ _ => ?_) _ _ | with_reducible exact hy _ _ | with_reducible refine LeO.bind ?_ fun _ => ?_)
def c211 (x0 : HullBook) : Option Int :=
 (c154 x0.Limit 0 9999).bind fun x26 =>
 sel (!x26)
 (some 1)
 ((c121 x0.Ballast (-999) 999 3).bind fun x28 =>
 sel (!x28)
 (some 1)
 (some 0))
theorem le211 (x0 : HullBook) : LeO (c211 x0) (m211 x0) := by
 unfold c211 m211
 repeat' (first | with_reducible exact LeO.refl _ | with_reducible refine LeO.loop fun _ => ?_ | with_reducible refine LeO.sel ?_ ?_ | with_reducible refine LeO.elim (fun _ => ?_) (fun _ => ?_) _ | with_reducible refine LeO.runY (fun _ _ => ?_) _ _ | with_reducible exact le121 _ _ _ _ | with_reducible exact le154 _ _ _ | with_reducible exact hy _ _ | with_reducible refine LeO.bind ?_ fun _ => ?_)
def c132 (x0 : (List Int)) (x1 : Int) : Option Int :=
 (loopC (O := (Unit ⊕ Int)) (fun (s48 : Int) =>
 sel (decide (s48 < (x0.length : Int)))
 ((idx x0 s48).bind fun x70 =>
 (c154 x70 0 (i64 (x1 - 1))).bind fun x71 =>
 sel (!x71)
 (some (.inr (.inr 6)))
 (sel (decide (s48 > 0))
 ((idx x0 (i64 (s48 - 1))).bind fun x74 =>
 sel (decide (x70 ≤ x74))
 (some (.inr (.inr 7)))
 (some (.inl (i64 (s48 + 1)))))
 (some (.inl (i64 (s48 + 1))))))
 (some (.inr (.inl ())))) 0).bind (Sum.elim (fun (_ : Unit) =>
 some 0)
  (fun q => some q))
theorem le132 (x0 : (List Int)) (x1 : Int) : LeO (c132 x0 x1) (m132 x0 x1) := by
 unfold c132 m132
 repeat' (first | with_reducible exact LeO.refl _ | with_reducible refine LeO.loop fun _ => ?_ | with_reducible refine LeO.sel ?_ ?_ | with_reducible refine LeO.elim (fun _ => ?_) (fun _ => ?_) _ | with_reducible refine LeO.runY (fun _ _ => ?_) _ _ | with_reducible exact le154 _ _ _ | with_reducible exact hy _ _ | with_reducible refine LeO.bind ?_ fun _ => ?_)
def c215 (x0 : ByteArray) : Option Bool :=
 (loopC (O := (Unit ⊕ Bool)) (fun (s51 : Int) =>
 sel (decide (s51 < ((strL x0).length : Int)))
 ((idx (strL x0) s51).bind fun x73 =>
 (c154 (i64 x73) 97 122).bind fun x74 =>
 sel (!x74)
 (sel (s51 == 0)
 (some (.inr (.inr false)))
 ((c154 (i64 x73) 48 57).bind fun x77 =>
 sel (!x77)
 (some (.inr (.inr false)))
 (some (.inl (i64 (s51 + 1))))))
 (some (.inl (i64 (s51 + 1)))))
 (some (.inr (.inl ())))) 0).bind (Sum.elim (fun (_ : Unit) =>
 (c154 (x0.size : Int) 1 12).bind fun x79 =>
 some x79)
  (fun q => some q))
theorem le215 (x0 : ByteArray) : LeO (c215 x0) (m215 x0) := by
 unfold c215 m215
 repeat' (first | with_reducible exact LeO.refl _ | with_reducible refine LeO.loop fun _ => ?_ | with_reducible refine LeO.sel ?_ ?_ | with_reducible refine LeO.elim (fun _ => ?_) (fun _ => ?_) _ | with_reducible refine LeO.runY (fun _ _ => ?_) _ _ | with_reducible exact le154 _ _ _ | with_reducible exact hy _ _ | with_reducible refine LeO.bind ?_ fun _ => ?_)
def c218 (x0 : (List HullPiece)) (x1 : (HullPiece → Option Bool)) : Option Int :=
 (loopC (O := (Unit ⊕ Int)) (fun (s39 : Int) =>
 sel (decide (s39 < (x0.length : Int)))
 ((idx x0 s39).bind fun x55 =>
 (x1 x55).bind fun x56 =>
 sel x56
 (some (.inr (.inr s39)))
 (some (.inl (i64 (s39 + 1)))))
 (some (.inr (.inl ())))) 0).bind (Sum.elim (fun (_ : Unit) =>
 some (-1))
  (fun q => some q))
theorem le218 (x0 : (List HullPiece)) {x1 x1' : (HullPiece → Option Bool)} (hx1 : ∀ y, LeO (x1 y) (x1' y)) : LeO (c218 x0 x1) (m218 x0 x1') := by
 unfold c218 m218
 repeat' (first | with_reducible exact LeO.refl _ | with_reducible refine LeO.loop fun _ => ?_ | with_reducible refine LeO.sel ?_ ?_ | with_reducible refine LeO.elim (fun _ => ?_) (fun _ => ?_) _ | with_reducible refine LeO.runY (fun _ _ => ?_) _ _ | with_reducible exact hx1 _ | with_reducible exact hy _ _ | with_reducible refine LeO.bind ?_ fun _ => ?_)
def c216 (x0 : (List HullPiece)) (x1 : (HullPiece → Option Bool)) : Option Bool :=
 (c218 x0 x1).bind fun x21 =>
 some (decide (x21 ≥ 0))
theorem le216 (x0 : (List HullPiece)) {x1 x1' : (HullPiece → Option Bool)} (hx1 : ∀ y, LeO (x1 y) (x1' y)) : LeO (c216 x0 x1) (m216 x0 x1') := by
 unfold c216 m216
 repeat' (first | with_reducible exact LeO.refl _ | with_reducible refine LeO.loop fun _ => ?_ | with_reducible refine LeO.sel ?_ ?_ | with_reducible refine LeO.elim (fun _ => ?_) (fun _ => ?_) _ | with_reducible refine LeO.runY (fun _ _ => ?_) _ _ | with_reducible refine le218 _ (fun _ => ?_) | with_reducible exact hx1 _ | with_reducible exact hy _ _ | with_reducible refine LeO.bind ?_ fun _ => ?_)
def c217 (x0 : HullPiece) (x1 : HullPiece) : Option Bool :=
 some (x0.Name.toList == x1.Name.toList)
theorem le217 (x0 : HullPiece) (x1 : HullPiece) : LeO (c217 x0 x1) (m217 x0 x1) := by
 unfold c217 m217
 repeat' (first | with_reducible exact LeO.refl _ | with_reducible refine LeO.loop fun _ => ?_ | with_reducible refine LeO.sel ?_ ?_ | with_reducible refine LeO.elim (fun _ => ?_) (fun _ => ?_) _ | with_reducible refine LeO.runY (fun _ _ => ?_) _ _ | with_reducible exact hy _ _ | with_reducible refine LeO.bind ?_ fun _ => ?_)
def c212 (x0 : HullBook) : Option Int :=
 (c154 (x0.Pieces.length : Int) 1 5).bind fun x138 =>
 sel (!x138)
 (some 2)
 ((loopC (O := (Unit ⊕ Int)) (fun (s142 : Int) =>
 sel (decide (s142 < (x0.Pieces.length : Int)))
 ((idx x0.Pieces s142).bind fun x220 =>
 (c215 x220.Name).bind fun x222 =>
 sel (!x222)
 (some (.inr (.inr 4)))
 ((cutM x0.Pieces 0 s142).bind fun x233 =>
 (c216 x233 (fun y => c217 y x220)).bind fun x234 =>
 sel x234
 (some (.inr (.inr 5)))
 (((((c154 x220.Arm (-9) 9).bind fun x246 =>
 sel (!x246)
 (some true)
 ((c121 x220.Weight 1 99 3).bind fun x248 =>
 some (!x248))) : Option Bool)).bind (fun (p242_0 : Bool) =>
 sel p242_0
 (some (.inr (.inr 1)))
 ((c132 x220.On s142).bind fun x252 =>
 sel (x252 != 0)
 (some (.inr (.inr x252)))
 (some (.inl (i64 (s142 + 1)))))))))
 (some (.inr (.inl ())))) 0).bind (Sum.elim (fun (_ : Unit) =>
 some 0)
  (fun q => some q)))
theorem le212 (x0 : HullBook) : LeO (c212 x0) (m212 x0) := by
 unfold c212 m212
 repeat' (first | with_reducible exact LeO.refl _ | with_reducible refine LeO.loop fun _ => ?_ | with_reducible refine LeO.sel ?_ ?_ | with_reducible refine LeO.elim (fun _ => ?_) (fun _ => ?_) _ | with_reducible refine LeO.runY (fun _ _ => ?_) _ _ | with_reducible exact le121 _ _ _ _ | with_reducible exact le132 _ _ | with_reducible exact le154 _ _ _ | with_reducible exact le215 _ | with_reducible refine le216 _ (fun _ => ?_) | with_reducible exact le217 _ _ | with_reducible exact hy _ _ | with_reducible refine LeO.bind ?_ fun _ => ?_)
def c93 (x0 : (List Bool)) (x1 : (List Int)) : Option (List Bool) :=
 (loopC (O := (List Bool)) (fun (s40 : (Int × (List Bool))) =>
 sel (decide (s40.1 < (x1.length : Int)))
 ((idx x1 s40.1).bind fun x54 =>
 (idx s40.2 x54).bind fun _ =>
 some (.inl (i64 (s40.1 + 1), s40.2.set x54.toNat true)))
 (some (.inr s40.2))) (0, x0)).bind (fun (p40_0 : (List Bool)) =>
 some p40_0)
theorem le93 (x0 : (List Bool)) (x1 : (List Int)) : LeO (c93 x0 x1) (m93 x0 x1) := by
 unfold c93 m93
 repeat' (first | with_reducible exact LeO.refl _ | with_reducible refine LeO.loop fun _ => ?_ | with_reducible refine LeO.sel ?_ ?_ | with_reducible refine LeO.elim (fun _ => ?_) (fun _ => ?_) _ | with_reducible refine LeO.runY (fun _ _ => ?_) _ _ | with_reducible exact hy _ _ | with_reducible refine LeO.bind ?_ fun _ => ?_)
def c120 (x0 : HullBook) (x1 : Int) : Option Bool :=
 (c154 x1 0 (i64 ((x0.Pieces.length : Int) - 1))).bind fun x23 =>
 some x23
theorem le120 (x0 : HullBook) (x1 : Int) : LeO (c120 x0 x1) (m120 x0 x1) := by
 unfold c120 m120
 repeat' (first | with_reducible exact LeO.refl _ | with_reducible refine LeO.loop fun _ => ?_ | with_reducible refine LeO.sel ?_ ?_ | with_reducible refine LeO.elim (fun _ => ?_) (fun _ => ?_) _ | with_reducible refine LeO.runY (fun _ _ => ?_) _ _ | with_reducible exact le154 _ _ _ | with_reducible exact hy _ _ | with_reducible refine LeO.bind ?_ fun _ => ?_)
def c171 (x0 : (List Int)) (x1 : (Int → Option Bool)) : Option Int :=
 (loopC (O := (Unit ⊕ Int)) (fun (s39 : Int) =>
 sel (decide (s39 < (x0.length : Int)))
 ((idx x0 s39).bind fun x55 =>
 (x1 x55).bind fun x56 =>
 sel x56
 (some (.inr (.inr s39)))
 (some (.inl (i64 (s39 + 1)))))
 (some (.inr (.inl ())))) 0).bind (Sum.elim (fun (_ : Unit) =>
 some (-1))
  (fun q => some q))
theorem le171 (x0 : (List Int)) {x1 x1' : (Int → Option Bool)} (hx1 : ∀ y, LeO (x1 y) (x1' y)) : LeO (c171 x0 x1) (m171 x0 x1') := by
 unfold c171 m171
 repeat' (first | with_reducible exact LeO.refl _ | with_reducible refine LeO.loop fun _ => ?_ | with_reducible refine LeO.sel ?_ ?_ | with_reducible refine LeO.elim (fun _ => ?_) (fun _ => ?_) _ | with_reducible refine LeO.runY (fun _ _ => ?_) _ _ | with_reducible exact hx1 _ | with_reducible exact hy _ _ | with_reducible refine LeO.bind ?_ fun _ => ?_)
def c158 (x0 : (List Int)) (x1 : (Int → Option Bool)) : Option Bool :=
 (c171 x0 x1).bind fun x21 =>
 some (decide (x21 ≥ 0))
theorem le158 (x0 : (List Int)) {x1 x1' : (Int → Option Bool)} (hx1 : ∀ y, LeO (x1 y) (x1' y)) : LeO (c158 x0 x1) (m158 x0 x1') := by
 unfold c158 m158
 repeat' (first | with_reducible exact LeO.refl _ | with_reducible refine LeO.loop fun _ => ?_ | with_reducible refine LeO.sel ?_ ?_ | with_reducible refine LeO.elim (fun _ => ?_) (fun _ => ?_) _ | with_reducible refine LeO.runY (fun _ _ => ?_) _ _ | with_reducible refine le171 _ (fun _ => ?_) | with_reducible exact hx1 _ | with_reducible exact hy _ _ | with_reducible refine LeO.bind ?_ fun _ => ?_)
def c188 (x0 : (List Int)) (x1 : Int) : Option Int :=
 (loopC (O := (Unit ⊕ Int)) (fun (s36 : Int) =>
 sel (decide (s36 < (x0.length : Int)))
 ((idx x0 s36).bind fun x50 =>
 sel (x1 == x50)
 (some (.inr (.inr s36)))
 (some (.inl (i64 (s36 + 1)))))
 (some (.inr (.inl ())))) 0).bind (Sum.elim (fun (_ : Unit) =>
 some (-1))
  (fun q => some q))
theorem le188 (x0 : (List Int)) (x1 : Int) : LeO (c188 x0 x1) (m188 x0 x1) := by
 unfold c188 m188
 repeat' (first | with_reducible exact LeO.refl _ | with_reducible refine LeO.loop fun _ => ?_ | with_reducible refine LeO.sel ?_ ?_ | with_reducible refine LeO.elim (fun _ => ?_) (fun _ => ?_) _ | with_reducible refine LeO.runY (fun _ _ => ?_) _ _ | with_reducible exact hy _ _ | with_reducible refine LeO.bind ?_ fun _ => ?_)
def c175 (x0 : (List Int)) (x1 : Int) : Option Bool :=
 (c188 x0 x1).bind fun x21 =>
 some (decide (x21 ≥ 0))
theorem le175 (x0 : (List Int)) (x1 : Int) : LeO (c175 x0 x1) (m175 x0 x1) := by
 unfold c175 m175
 repeat' (first | with_reducible exact LeO.refl _ | with_reducible refine LeO.loop fun _ => ?_ | with_reducible refine LeO.sel ?_ ?_ | with_reducible refine LeO.elim (fun _ => ?_) (fun _ => ?_) _ | with_reducible refine LeO.runY (fun _ _ => ?_) _ _ | with_reducible exact le188 _ _ | with_reducible exact hy _ _ | with_reducible refine LeO.bind ?_ fun _ => ?_)
def c166 (x0 : HullBook) (x1 : Int) : Option (List Int) :=
 (loopC (O := (List Int)) (fun (s51 : ((List Int) × Int)) =>
 sel (decide (s51.2 < (x0.Pieces.length : Int)))
 ((idx x0.Pieces s51.2).bind fun x73 =>
 (c175 x73.On x1).bind fun x75 =>
 sel x75
 ((appM s51.1 [s51.2]).bind fun x78 =>
 some (.inl (x78, i64 (s51.2 + 1))))
 (some (.inl (s51.1, i64 (s51.2 + 1)))))
 (some (.inr s51.1))) ([], 0)).bind (fun (p51_0 : (List Int)) =>
 some p51_0)
theorem le166 (x0 : HullBook) (x1 : Int) : LeO (c166 x0 x1) (m166 x0 x1) := by
 unfold c166 m166
 repeat' (first | with_reducible exact LeO.refl _ | with_reducible refine LeO.loop fun _ => ?_ | with_reducible refine LeO.sel ?_ ?_ | with_reducible refine LeO.elim (fun _ => ?_) (fun _ => ?_) _ | with_reducible refine LeO.runY (fun _ _ => ?_) _ _ | with_reducible exact le175 _ _ | with_reducible exact hy _ _ | with_reducible refine LeO.bind ?_ fun _ => ?_)
def c167 (x0 : Int) (x1 : (List Bool)) : Option Bool :=
 (idx x1 x0).bind fun x21 =>
 some (!x21)
theorem le167 (x0 : Int) (x1 : (List Bool)) : LeO (c167 x0 x1) (m167 x0 x1) := by
 unfold c167 m167
 repeat' (first | with_reducible exact LeO.refl _ | with_reducible refine LeO.loop fun _ => ?_ | with_reducible refine LeO.sel ?_ ?_ | with_reducible refine LeO.elim (fun _ => ?_) (fun _ => ?_) _ | with_reducible refine LeO.runY (fun _ _ => ?_) _ _ | with_reducible exact hy _ _ | with_reducible refine LeO.bind ?_ fun _ => ?_)
def c149 (x0 : HullBook) (x1 : (List Bool)) (x2 : Int) : Option Bool :=
 (idx x1 x2).bind fun x28 =>
 sel (!x28)
 ((c166 x0 x2).bind fun x30 =>
 (c158 x30 (fun y => c167 y x1)).bind fun x31 =>
 some (!x31))
 (some false)
theorem le149 (x0 : HullBook) (x1 : (List Bool)) (x2 : Int) : LeO (c149 x0 x1 x2) (m149 x0 x1 x2) := by
 unfold c149 m149
 repeat' (first | with_reducible exact LeO.refl _ | with_reducible refine LeO.loop fun _ => ?_ | with_reducible refine LeO.sel ?_ ?_ | with_reducible refine LeO.elim (fun _ => ?_) (fun _ => ?_) _ | with_reducible refine LeO.runY (fun _ _ => ?_) _ _ | with_reducible refine le158 _ (fun _ => ?_) | with_reducible exact le166 _ _ | with_reducible exact le167 _ _ | with_reducible exact hy _ _ | with_reducible refine LeO.bind ?_ fun _ => ?_)
def c99 (x0 : HullBook) (x1 : (List Bool)) (x2 : (List Int)) : Option ((List Bool) × Int) :=
 (loopC (O := ((List Bool) ⊕ ((List Bool) × Int))) (fun (s99 : (Int × (List Bool))) =>
 sel (decide (s99.1 < (x2.length : Int)))
 ((idx x2 s99.1).bind fun x151 =>
 (c120 x0 x151).bind fun x152 =>
 sel (!x152)
 (some (.inr (.inr (s99.2, 6))))
 ((idx s99.2 x151).bind fun x160 =>
 sel x160
 (some (.inr (.inr (s99.2, 5))))
 ((c149 x0 s99.2 x151).bind fun x166 =>
 sel (!x166)
 (some (.inr (.inr (s99.2, 7))))
 ((c93 s99.2 [x151]).bind fun x171 =>
 some (.inl (i64 (s99.1 + 1), x171))))))
 (some (.inr (.inl s99.2)))) (0, x1)).bind (Sum.elim (fun (p99_0 : (List Bool)) =>
 some (p99_0, 0))
  (fun q => some q))
theorem le99 (x0 : HullBook) (x1 : (List Bool)) (x2 : (List Int)) : LeO (c99 x0 x1 x2) (m99 x0 x1 x2) := by
 unfold c99 m99
 repeat' (first | with_reducible exact LeO.refl _ | with_reducible refine LeO.loop fun _ => ?_ | with_reducible refine LeO.sel ?_ ?_ | with_reducible refine LeO.elim (fun _ => ?_) (fun _ => ?_) _ | with_reducible refine LeO.runY (fun _ _ => ?_) _ _ | with_reducible exact le93 _ _ | with_reducible exact le120 _ _ | with_reducible exact le149 _ _ _ | with_reducible exact hy _ _ | with_reducible refine LeO.bind ?_ fun _ => ?_)
def c213 (x0 : HullBook) : Option Int :=
 (c99 x0 [false, false, false, false, false] x0.Out).bind fun x24 =>
 some x24.2
theorem le213 (x0 : HullBook) : LeO (c213 x0) (m213 x0) := by
 unfold c213 m213
 repeat' (first | with_reducible exact LeO.refl _ | with_reducible refine LeO.loop fun _ => ?_ | with_reducible refine LeO.sel ?_ ?_ | with_reducible refine LeO.elim (fun _ => ?_) (fun _ => ?_) _ | with_reducible refine LeO.runY (fun _ _ => ?_) _ _ | with_reducible exact le99 _ _ _ | with_reducible exact hy _ _ | with_reducible refine LeO.bind ?_ fun _ => ?_)
def c214 (x0 : HullBook) : Option Int :=
 sel (decide ((x0.Heels.length : Int) > 4))
 (some 2)
 ((loopC (O := (Unit ⊕ Int)) (fun (s71 : Int) =>
 sel (decide (s71 < (x0.Heels.length : Int)))
 ((idx x0.Heels s71).bind fun x103 =>
 (c154 x103.After 0 (x0.Out.length : Int)).bind fun x105 =>
 sel (!x105)
 (some (.inr (.inr 6)))
 (sel (x103.Side == 0)
 (sel (x103.Side == 0)
 (some (.inl (i64 (s71 + 1))))
 (some (.inr (.inr 1))))
 (sel (x103.Side == 1)
 (sel (x103.Side == 1)
 (some (.inl (i64 (s71 + 1))))
 (some (.inr (.inr 1))))
 (sel (x103.Side == 2)
 (some (.inl (i64 (s71 + 1))))
 (some (.inr (.inr 1)))))))
 (some (.inr (.inl ())))) 0).bind (Sum.elim (fun (_ : Unit) =>
 some 0)
  (fun q => some q)))
theorem le214 (x0 : HullBook) : LeO (c214 x0) (m214 x0) := by
 unfold c214 m214
 repeat' (first | with_reducible exact LeO.refl _ | with_reducible refine LeO.loop fun _ => ?_ | with_reducible refine LeO.sel ?_ ?_ | with_reducible refine LeO.elim (fun _ => ?_) (fun _ => ?_) _ | with_reducible refine LeO.runY (fun _ _ => ?_) _ _ | with_reducible exact le154 _ _ _ | with_reducible exact hy _ _ | with_reducible refine LeO.bind ?_ fun _ => ?_)
def c83 (x0 : HullBook) : Option Int :=
 (c211 (⟨x0.Limit, ⟨x0.Ballast.Least, x0.Ballast.Most⟩, x0.Pieces, x0.Out, x0.Heels⟩ : HullBook)).bind fun x35 =>
 sel (x35 != 0)
 (some x35)
 ((c212 (⟨x0.Limit, ⟨x0.Ballast.Least, x0.Ballast.Most⟩, x0.Pieces, x0.Out, x0.Heels⟩ : HullBook)).bind fun x38 =>
 sel (x38 != 0)
 (some x38)
 ((c213 (⟨x0.Limit, ⟨x0.Ballast.Least, x0.Ballast.Most⟩, x0.Pieces, x0.Out, x0.Heels⟩ : HullBook)).bind fun x41 =>
 sel (x41 != 0)
 (some x41)
 ((c214 (⟨x0.Limit, ⟨x0.Ballast.Least, x0.Ballast.Most⟩, x0.Pieces, x0.Out, x0.Heels⟩ : HullBook)).bind fun x44 =>
 sel (x44 != 0)
 (some x44)
 (some 0))))
theorem le83 (x0 : HullBook) : LeO (c83 x0) (m83 x0) := by
 unfold c83 m83
 repeat' (first | with_reducible exact LeO.refl _ | with_reducible refine LeO.loop fun _ => ?_ | with_reducible refine LeO.sel ?_ ?_ | with_reducible refine LeO.elim (fun _ => ?_) (fun _ => ?_) _ | with_reducible refine LeO.runY (fun _ _ => ?_) _ _ | with_reducible exact le211 _ | with_reducible exact le212 _ | with_reducible exact le213 _ | with_reducible exact le214 _ | with_reducible exact hy _ _ | with_reducible refine LeO.bind ?_ fun _ => ?_)
def c103 (x0 : HullBook) (x1 : Int) : Option Bool :=
 some (decide (maxI x1 [i64 (0 - x1)] > x0.Limit))
theorem le103 (x0 : HullBook) (x1 : Int) : LeO (c103 x0 x1) (m103 x0 x1) := by
 unfold c103 m103
 repeat' (first | with_reducible exact LeO.refl _ | with_reducible refine LeO.loop fun _ => ?_ | with_reducible refine LeO.sel ?_ ?_ | with_reducible refine LeO.elim (fun _ => ?_) (fun _ => ?_) _ | with_reducible refine LeO.runY (fun _ _ => ?_) _ _ | with_reducible exact hy _ _ | with_reducible refine LeO.bind ?_ fun _ => ?_)
def c174 (x0 : (List HullHeel)) (x1 : (HullHeel → Option Bool)) : Option Int :=
 (loopC (O := (Unit ⊕ Int)) (fun (s39 : Int) =>
 sel (decide (s39 < (x0.length : Int)))
 ((idx x0 s39).bind fun x55 =>
 (x1 x55).bind fun x56 =>
 sel x56
 (some (.inr (.inr s39)))
 (some (.inl (i64 (s39 + 1)))))
 (some (.inr (.inl ())))) 0).bind (Sum.elim (fun (_ : Unit) =>
 some (-1))
  (fun q => some q))
theorem le174 (x0 : (List HullHeel)) {x1 x1' : (HullHeel → Option Bool)} (hx1 : ∀ y, LeO (x1 y) (x1' y)) : LeO (c174 x0 x1) (m174 x0 x1') := by
 unfold c174 m174
 repeat' (first | with_reducible exact LeO.refl _ | with_reducible refine LeO.loop fun _ => ?_ | with_reducible refine LeO.sel ?_ ?_ | with_reducible refine LeO.elim (fun _ => ?_) (fun _ => ?_) _ | with_reducible refine LeO.runY (fun _ _ => ?_) _ _ | with_reducible exact hx1 _ | with_reducible exact hy _ _ | with_reducible refine LeO.bind ?_ fun _ => ?_)
def c162 (x0 : (List HullHeel)) (x1 : (HullHeel → Option Bool)) : Option Bool :=
 (c174 x0 x1).bind fun x21 =>
 some (decide (x21 ≥ 0))
theorem le162 (x0 : (List HullHeel)) {x1 x1' : (HullHeel → Option Bool)} (hx1 : ∀ y, LeO (x1 y) (x1' y)) : LeO (c162 x0 x1) (m162 x0 x1') := by
 unfold c162 m162
 repeat' (first | with_reducible exact LeO.refl _ | with_reducible refine LeO.loop fun _ => ?_ | with_reducible refine LeO.sel ?_ ?_ | with_reducible refine LeO.elim (fun _ => ?_) (fun _ => ?_) _ | with_reducible refine LeO.runY (fun _ _ => ?_) _ _ | with_reducible refine le174 _ (fun _ => ?_) | with_reducible exact hx1 _ | with_reducible exact hy _ _ | with_reducible refine LeO.bind ?_ fun _ => ?_)
def c164 (x0 : Int) : Option Int :=
 sel (decide (x0 > 0))
 (some 2)
 (sel (decide (x0 < 0))
 (some 1)
 (some 0))
theorem le164 (x0 : Int) : LeO (c164 x0) (m164 x0) := by
 unfold c164 m164
 repeat' (first | with_reducible exact LeO.refl _ | with_reducible refine LeO.loop fun _ => ?_ | with_reducible refine LeO.sel ?_ ?_ | with_reducible refine LeO.elim (fun _ => ?_) (fun _ => ?_) _ | with_reducible refine LeO.runY (fun _ _ => ?_) _ _ | with_reducible exact hy _ _ | with_reducible refine LeO.bind ?_ fun _ => ?_)
def c163 (x0 : HullHeel) (x1 : Int) (x2 : Int) : Option Bool :=
 sel (x0.After == x1)
 ((c164 x2).bind fun x25 =>
 some (x0.Side != x25))
 (some false)
theorem le163 (x0 : HullHeel) (x1 : Int) (x2 : Int) : LeO (c163 x0 x1 x2) (m163 x0 x1 x2) := by
 unfold c163 m163
 repeat' (first | with_reducible exact LeO.refl _ | with_reducible refine LeO.loop fun _ => ?_ | with_reducible refine LeO.sel ?_ ?_ | with_reducible refine LeO.elim (fun _ => ?_) (fun _ => ?_) _ | with_reducible refine LeO.runY (fun _ _ => ?_) _ _ | with_reducible exact le164 _ | with_reducible exact hy _ _ | with_reducible refine LeO.bind ?_ fun _ => ?_)
def c143 (x0 : HullBook) (x1 : Cargo) : Option Bool :=
 (loopC (O := (Unit ⊕ Bool)) (fun (s64 : Int) =>
 sel (decide (s64 < i64 ((x0.Out.length : Int) + 1)))
 ((cutM x0.Out 0 s64).bind fun x95 =>
 (c93 [false, false, false, false, false] x95).bind fun x96 =>
 (c104 x0 x1 x96).bind fun x97 =>
 (c103 x0 x97).bind fun x100 =>
 sel x100
 (some (.inr (.inr false)))
 ((c162 x0.Heels (fun y => c163 y s64 x97)).bind fun x102 =>
 sel x102
 (some (.inr (.inr false)))
 (some (.inl (i64 (s64 + 1))))))
 (some (.inr (.inl ())))) 0).bind (Sum.elim (fun (_ : Unit) =>
 some true)
  (fun q => some q))
theorem le143 (x0 : HullBook) (x1 : Cargo) : LeO (c143 x0 x1) (m143 x0 x1) := by
 unfold c143 m143
 repeat' (first | with_reducible exact LeO.refl _ | with_reducible refine LeO.loop fun _ => ?_ | with_reducible refine LeO.sel ?_ ?_ | with_reducible refine LeO.elim (fun _ => ?_) (fun _ => ?_) _ | with_reducible refine LeO.runY (fun _ _ => ?_) _ _ | with_reducible exact le93 _ _ | with_reducible exact le103 _ _ | with_reducible exact le104 _ _ _ | with_reducible refine le162 _ (fun _ => ?_) | with_reducible exact le163 _ _ _ | with_reducible exact hy _ _ | with_reducible refine LeO.bind ?_ fun _ => ?_)
def c157 {S : Type} (ys : Cargo → S → Option (S × Bool)) : Nat → Cargo → Int → HullBook → S → Option (S × Bool)
 | 0, _, _, _, _ => none
 | k + 1, x0, x1, x2, s0 =>
  sel (x1 == (x2.Pieces.length : Int))
  (((((c143 x2 x0).bind fun x31 =>
  sel (!x31)
  (some (s0, true))
  ((ys x0 s0).bind fun x33 =>
  some (x33.1, x33.2))) : Option (S × Bool))).bind (fun (p27_0 : (S × Bool)) =>
  some (p27_0.1, p27_0.2)))
  ((idx x2.Pieces x1).bind fun x34 =>
  (loopC (O := (S ⊕ (S × Bool))) (fun (s36 : (S × Int × (List Int))) =>
  sel (decide (s36.2.1 ≤ x34.Weight.Most))
  ((idx s36.2.2 x1).bind fun _ =>
  (c157 ys k (⟨x0.ballast, s36.2.2.set x1.toNat s36.2.1⟩ : Cargo) (i64 (x1 + 1)) x2 s36.1).bind fun x53 =>
  sel (!x53.2)
  (some (.inr (.inr (x53.1, false))))
  (some (.inl (x53.1, i64 (s36.2.1 + 1), s36.2.2.set x1.toNat s36.2.1))))
  (some (.inr (.inl s36.1)))) (s0, x34.Weight.Least, x0.weights)).bind (Sum.elim (fun (p36_0 : S) =>
  some (p36_0, true))
   (fun q => some q)))
theorem le157 {S : Type} {ys ys' : Cargo → S → Option (S × Bool)} (h : ∀ y s, LeO (ys y s) (ys' y s)) : ∀ k x0 x1 x2 s0, LeO (c157 ys k x0 x1 x2 s0) (m157 ys' k x0 x1 x2 s0)
 | 0, _, _, _, _ => LeO.none
 | k + 1, x0, x1, x2, s0 => by
  have ih := le157 h k
  rw [c157, m157]
  repeat' (first | with_reducible exact LeO.refl _ | with_reducible refine LeO.loop fun _ => ?_ | with_reducible refine LeO.sel ?_ ?_ | with_reducible refine LeO.elim (fun _ => ?_) (fun _ => ?_) _ | with_reducible refine LeO.runY (fun _ _ => ?_) _ _ | with_reducible exact le143 _ _ | with_reducible exact h _ _ | with_reducible exact ih _ _ _ _ | with_reducible refine LeO.bind ?_ fun _ => ?_)
def c130 {S : Type} (ys : Cargo → S → Option (S × Bool)) (x0 : HullBook) (s0 : S) : Option S :=
 (loopC (O := (S ⊕ S)) (fun (s26 : (S × Int)) =>
  sel (decide (s26.2 ≤ x0.Ballast.Most))
  ((c157 ys 9 (⟨s26.2, [0, 0, 0, 0, 0]⟩ : Cargo) 0 x0 s26.1).bind fun x40 =>
  sel (!x40.2)
  (some (.inr (.inr x40.1)))
  (some (.inl (x40.1, i64 (s26.2 + 1)))))
  (some (.inr (.inl s26.1)))) (s0, x0.Ballast.Least)).bind (Sum.elim (fun (p26_0 : S) =>
  some p26_0)
   (fun q => some q))
theorem le130 {S : Type} {ys ys' : Cargo → S → Option (S × Bool)} (h : ∀ y s, LeO (ys y s) (ys' y s)) (x0 : HullBook) (s0 : S) : LeO (c130 ys x0 s0) (m130 ys' x0 s0) := by
 unfold c130 m130
 repeat' (first | with_reducible exact LeO.refl _ | with_reducible refine LeO.loop fun _ => ?_ | with_reducible refine LeO.sel ?_ ?_ | with_reducible refine LeO.elim (fun _ => ?_) (fun _ => ?_) _ | with_reducible refine LeO.runY (fun _ _ => ?_) _ _ | with_reducible refine le157 (fun _ _ => ?_) _ _ _ _ _ | with_reducible exact h _ _ | with_reducible refine LeO.bind ?_ fun _ => ?_)
def c165 (x1 : (Cargo → ((List Cargo) ⊕ Empty) → Option (((List Cargo) ⊕ Empty) × Bool)) → ((List Cargo) ⊕ Empty) → Option ((List Cargo) ⊕ Empty)) : Option (List Cargo) :=
 (x1 (runY (fun (x33e : Cargo) (s33 : (List Cargo)) => (((appM s33 [x33e]).bind fun x43 =>
 some (.inl x43)) : Option ((List Cargo) ⊕ Empty)))) (.inl [])).bind (Sum.elim (fun (s33 : (List Cargo)) =>
 some s33)
  (fun (o : Empty) => o.elim))
theorem le165 {x1 x1' : (Cargo → ((List Cargo) ⊕ Empty) → Option (((List Cargo) ⊕ Empty) × Bool)) → ((List Cargo) ⊕ Empty) → Option ((List Cargo) ⊕ Empty)} (hx1 : ∀ ys ys', (∀ y s, LeO (ys y s) (ys' y s)) → ∀ s, LeO (x1 ys s) (x1' ys' s)) : LeO (c165 x1) (m165 x1') := by
 unfold c165 m165
 repeat' (first | with_reducible exact LeO.refl _ | with_reducible refine LeO.loop fun _ => ?_ | with_reducible refine LeO.sel ?_ ?_ | with_reducible refine LeO.elim (fun _ => ?_) (fun _ => ?_) _ | with_reducible refine LeO.runY (fun _ _ => ?_) _ _ | with_reducible refine hx1 _ _ (fun _ _ => ?_) _ | with_reducible exact hx1 | with_reducible exact hy _ _ | with_reducible refine LeO.bind ?_ fun _ => ?_)
def c146 (x0 : (Cargo → ((List Cargo) ⊕ Empty) → Option (((List Cargo) ⊕ Empty) × Bool)) → ((List Cargo) ⊕ Empty) → Option ((List Cargo) ⊕ Empty)) : Option (List Cargo) :=
 (c165 x0).bind fun x21 =>
 some x21
theorem le146 {x0 x0' : (Cargo → ((List Cargo) ⊕ Empty) → Option (((List Cargo) ⊕ Empty) × Bool)) → ((List Cargo) ⊕ Empty) → Option ((List Cargo) ⊕ Empty)} (hx0 : ∀ ys ys', (∀ y s, LeO (ys y s) (ys' y s)) → ∀ s, LeO (x0 ys s) (x0' ys' s)) : LeO (c146 x0) (m146 x0') := by
 unfold c146 m146
 repeat' (first | with_reducible exact LeO.refl _ | with_reducible refine LeO.loop fun _ => ?_ | with_reducible refine LeO.sel ?_ ?_ | with_reducible refine LeO.elim (fun _ => ?_) (fun _ => ?_) _ | with_reducible refine LeO.runY (fun _ _ => ?_) _ _ | with_reducible refine le165 (fun _ _ hy _ => ?_) | with_reducible refine hx0 _ _ (fun _ _ => ?_) _ | with_reducible exact hx0 | with_reducible exact hy _ _ | with_reducible refine LeO.bind ?_ fun _ => ?_)
def c89 (x0 : HullBook) (x1 : (HullBook → Option Int)) : Option (Opened × Int) :=
 (c83 x0).bind fun x36 =>
 sel (x36 != 0)
 (some ((⟨⟨0, ⟨0, 0⟩, [], [], []⟩, [], nilTab⟩ : Opened), x36))
 ((x1 x0).bind fun x42 =>
 sel (x42 != 0)
 (some ((⟨⟨0, ⟨0, 0⟩, [], [], []⟩, [], nilTab⟩ : Opened), x42))
 ((c146 (fun y s => c130 y x0 s)).bind fun x46 =>
 sel ((x46.length : Int) == 0)
 (some ((⟨⟨0, ⟨0, 0⟩, [], [], []⟩, [], nilTab⟩ : Opened), 9))
 (some ((⟨⟨x0.Limit, ⟨x0.Ballast.Least, x0.Ballast.Most⟩, x0.Pieces, x0.Out, x0.Heels⟩, x46, []⟩ : Opened), 0))))
theorem le89 (x0 : HullBook) {x1 x1' : (HullBook → Option Int)} (hx1 : ∀ y, LeO (x1 y) (x1' y)) : LeO (c89 x0 x1) (m89 x0 x1') := by
 unfold c89 m89
 repeat' (first | with_reducible exact LeO.refl _ | with_reducible refine LeO.loop fun _ => ?_ | with_reducible refine LeO.sel ?_ ?_ | with_reducible refine LeO.elim (fun _ => ?_) (fun _ => ?_) _ | with_reducible refine LeO.runY (fun _ _ => ?_) _ _ | with_reducible exact le83 _ | with_reducible refine le130 (fun _ _ => ?_) _ _ | with_reducible refine le146 (fun _ _ hy _ => ?_) | with_reducible exact hx1 _ | with_reducible exact hy _ _ | with_reducible refine LeO.bind ?_ fun _ => ?_)
def c90 (_ : HullBook) : Option Int :=
 some 0
theorem le90 (x0 : HullBook) : LeO (c90 x0) (m90 x0) := by
 unfold c90 m90
 repeat' (first | with_reducible exact LeO.refl _ | with_reducible refine LeO.loop fun _ => ?_ | with_reducible refine LeO.sel ?_ ?_ | with_reducible refine LeO.elim (fun _ => ?_) (fun _ => ?_) _ | with_reducible refine LeO.runY (fun _ _ => ?_) _ _ | with_reducible exact hy _ _ | with_reducible refine LeO.bind ?_ fun _ => ?_)
def c92 (x0 : HullBook) (x1 : (List Bool)) : Option (List Int) :=
 (loopC (O := (List Int)) (fun (s47 : ((List Int) × Int)) =>
 sel (decide (s47.2 < (x0.Pieces.length : Int)))
 ((c149 x0 x1 s47.2).bind fun x65 =>
 sel x65
 ((appM s47.1 [s47.2]).bind fun x68 =>
 some (.inl (x68, i64 (s47.2 + 1))))
 (some (.inl (s47.1, i64 (s47.2 + 1)))))
 (some (.inr s47.1))) ([], 0)).bind (fun (p47_0 : (List Int)) =>
 some p47_0)
theorem le92 (x0 : HullBook) (x1 : (List Bool)) : LeO (c92 x0 x1) (m92 x0 x1) := by
 unfold c92 m92
 repeat' (first | with_reducible exact LeO.refl _ | with_reducible refine LeO.loop fun _ => ?_ | with_reducible refine LeO.sel ?_ ?_ | with_reducible refine LeO.elim (fun _ => ?_) (fun _ => ?_) _ | with_reducible refine LeO.runY (fun _ _ => ?_) _ _ | with_reducible exact le149 _ _ _ | with_reducible exact hy _ _ | with_reducible refine LeO.bind ?_ fun _ => ?_)
def c151 {S : Type} (ys : (List Bool) → S → Option (S × Bool)) (x1 : HullBook) (x2 : (List Int)) (s0 : S) : Option S :=
 (c93 [false, false, false, false, false] x1.Out).bind fun x20 =>
  (loopC (O := (S ⊕ S)) (fun (s22 : (S × Int × (List Bool))) =>
  sel (decide (s22.2.1 < (x2.length : Int)))
  ((idx x2 s22.2.1).bind fun x42 =>
  (c93 s22.2.2 [x42]).bind fun x44 =>
  (ys x44 s22.1).bind fun x45 =>
  sel (!x45.2)
  (some (.inr (.inr x45.1)))
  (some (.inl (x45.1, i64 (s22.2.1 + 1), x44))))
  (some (.inr (.inl s22.1)))) (s0, 0, x20)).bind (Sum.elim (fun (p22_0 : S) =>
  some p22_0)
   (fun q => some q))
theorem le151 {S : Type} {ys ys' : (List Bool) → S → Option (S × Bool)} (h : ∀ y s, LeO (ys y s) (ys' y s)) (x1 : HullBook) (x2 : (List Int)) (s0 : S) : LeO (c151 ys x1 x2 s0) (m151 ys' x1 x2 s0) := by
 unfold c151 m151
 repeat' (first | with_reducible exact LeO.refl _ | with_reducible refine LeO.loop fun _ => ?_ | with_reducible refine LeO.sel ?_ ?_ | with_reducible refine LeO.elim (fun _ => ?_) (fun _ => ?_) _ | with_reducible refine LeO.runY (fun _ _ => ?_) _ _ | with_reducible exact le93 _ _ | with_reducible exact h _ _ | with_reducible refine LeO.bind ?_ fun _ => ?_)
def c102 (x0 : HullBook) (x1 : (List Int)) : Option (HullBook × (List Int)) :=
 some (x0, x1)
theorem le102 (x0 : HullBook) (x1 : (List Int)) : LeO (c102 x0 x1) (m102 x0 x1) := by
 unfold c102 m102
 repeat' (first | with_reducible exact LeO.refl _ | with_reducible refine LeO.loop fun _ => ?_ | with_reducible refine LeO.sel ?_ ?_ | with_reducible refine LeO.elim (fun _ => ?_) (fun _ => ?_) _ | with_reducible refine LeO.runY (fun _ _ => ?_) _ _ | with_reducible exact hy _ _ | with_reducible refine LeO.bind ?_ fun _ => ?_)
def c94 (x0 : Opened) (x1 : (List Int)) : Option Int :=
 (c102 x0.book x1).bind fun x29 =>
 (c151 (runY (fun (x30e : (List Bool)) (s30 : Int) => ((some (.inl (maxI s30 [mapGet x0.worsts x30e]))) : Option (Int ⊕ Empty)))) x29.1 x29.2 (.inl 0)).bind (Sum.elim (fun (s30 : Int) =>
 some s30)
  (fun (o : Empty) => o.elim))
theorem le94 (x0 : Opened) (x1 : (List Int)) : LeO (c94 x0 x1) (m94 x0 x1) := by
 unfold c94 m94
 repeat' (first | with_reducible exact LeO.refl _ | with_reducible refine LeO.loop fun _ => ?_ | with_reducible refine LeO.sel ?_ ?_ | with_reducible refine LeO.elim (fun _ => ?_) (fun _ => ?_) _ | with_reducible refine LeO.runY (fun _ _ => ?_) _ _ | with_reducible exact le102 _ _ | with_reducible refine le151 (fun _ _ => ?_) _ _ _ | with_reducible exact hy _ _ | with_reducible refine LeO.bind ?_ fun _ => ?_)
def c20 (x0 : HullBook) : Option ((List Int) × Int) :=
 (c89 x0 (fun y => c90 y)).bind fun x62 =>
 sel (x62.2 != 0)
 (some ([], x62.2))
 ((c91 x62.1).bind fun x67 =>
 (c93 [false, false, false, false, false] x0.Out).bind fun x68 =>
 (c92 x62.1.book x68).bind fun x69 =>
 (loopC (O := (List Int)) (fun (s70 : ((List Int) × Int)) =>
 sel (decide (s70.2 < (x69.length : Int)))
 ((idx x69 s70.2).bind fun x94 =>
 (c94 (⟨⟨x62.1.book.Limit, ⟨x62.1.book.Ballast.Least, x62.1.book.Ballast.Most⟩, x62.1.book.Pieces, x62.1.book.Out, x62.1.book.Heels⟩, x62.1.alls, x67⟩ : Opened) [x94]).bind fun x96 =>
 sel (decide (x96 ≤ x0.Limit))
 ((appM s70.1 [x94]).bind fun x100 =>
 some (.inl (x100, i64 (s70.2 + 1))))
 (some (.inl (s70.1, i64 (s70.2 + 1)))))
 (some (.inr s70.1))) ([], 0)).bind (fun (p70_0 : (List Int)) =>
 some (p70_0, 0)))
theorem le20 (x0 : HullBook) : LeO (c20 x0) (m20 x0) := by
 unfold c20 m20
 repeat' (first | with_reducible exact LeO.refl _ | with_reducible refine LeO.loop fun _ => ?_ | with_reducible refine LeO.sel ?_ ?_ | with_reducible refine LeO.elim (fun _ => ?_) (fun _ => ?_) _ | with_reducible refine LeO.runY (fun _ _ => ?_) _ _ | with_reducible refine le89 _ (fun _ => ?_) | with_reducible exact le90 _ | with_reducible exact le91 _ | with_reducible exact le92 _ _ | with_reducible exact le93 _ _ | with_reducible exact le94 _ _ | with_reducible exact hy _ _ | with_reducible refine LeO.bind ?_ fun _ => ?_)
def c98 (x0 : HullBook) (x1 : (List Int)) : Option Int :=
 (c93 [false, false, false, false, false] x0.Out).bind fun x30 =>
 (c99 x0 x30 x1).bind fun x31 =>
 sel (x31.2 != 0)
 (some x31.2)
 (sel (i64 ((x0.Out.length : Int) + (x1.length : Int)) != (x0.Pieces.length : Int))
 (some 2)
 (some 0))
theorem le98 (x0 : HullBook) (x1 : (List Int)) : LeO (c98 x0 x1) (m98 x0 x1) := by
 unfold c98 m98
 repeat' (first | with_reducible exact LeO.refl _ | with_reducible refine LeO.loop fun _ => ?_ | with_reducible refine LeO.sel ?_ ?_ | with_reducible refine LeO.elim (fun _ => ?_) (fun _ => ?_) _ | with_reducible refine LeO.runY (fun _ _ => ?_) _ _ | with_reducible exact le93 _ _ | with_reducible exact le99 _ _ _ | with_reducible exact hy _ _ | with_reducible refine LeO.bind ?_ fun _ => ?_)
def c100 (x0 : Opened) (x1 : (Cargo → Option Bool)) : Option Int :=
 (loopC (O := Int) (fun (s46 : (Int × Int)) =>
 sel (decide (s46.2 < (x0.alls.length : Int)))
 ((idx x0.alls s46.2).bind fun x64 =>
 (x1 x64).bind fun x66 =>
 sel x66
 (some (.inl (i64 (s46.1 + 1), i64 (s46.2 + 1))))
 (some (.inl (s46.1, i64 (s46.2 + 1)))))
 (some (.inr s46.1))) (0, 0)).bind (fun (p46_0 : Int) =>
 sel (p46_0 == 0)
 (some 2)
 (sel (p46_0 == (x0.alls.length : Int))
 (some 1)
 (some 0)))
theorem le100 (x0 : Opened) {x1 x1' : (Cargo → Option Bool)} (hx1 : ∀ y, LeO (x1 y) (x1' y)) : LeO (c100 x0 x1) (m100 x0 x1') := by
 unfold c100 m100
 repeat' (first | with_reducible exact LeO.refl _ | with_reducible refine LeO.loop fun _ => ?_ | with_reducible refine LeO.sel ?_ ?_ | with_reducible refine LeO.elim (fun _ => ?_) (fun _ => ?_) _ | with_reducible refine LeO.runY (fun _ _ => ?_) _ _ | with_reducible exact hx1 _ | with_reducible exact hy _ _ | with_reducible refine LeO.bind ?_ fun _ => ?_)
def c101 (x0 : Cargo) (x1 : Opened) (x2 : (List Int)) : Option Bool :=
 (c102 x1.book x2).bind fun x34 =>
 (c151 (runY (fun (x35e : (List Bool)) (_ : Unit) => (((c104 x1.book x0 x35e).bind fun x41 =>
 (c103 x1.book x41).bind fun x42 =>
 sel x42
 (some (.inr ()))
 (some (.inl ()))) : Option (Unit ⊕ Unit)))) x34.1 x34.2 (.inl ())).bind (Sum.elim (fun (_ : Unit) =>
 some true)
  (fun (_ : Unit) =>
 some false))
theorem le101 (x0 : Cargo) (x1 : Opened) (x2 : (List Int)) : LeO (c101 x0 x1 x2) (m101 x0 x1 x2) := by
 unfold c101 m101
 repeat' (first | with_reducible exact LeO.refl _ | with_reducible refine LeO.loop fun _ => ?_ | with_reducible refine LeO.sel ?_ ?_ | with_reducible refine LeO.elim (fun _ => ?_) (fun _ => ?_) _ | with_reducible refine LeO.runY (fun _ _ => ?_) _ _ | with_reducible exact le102 _ _ | with_reducible exact le103 _ _ | with_reducible exact le104 _ _ _ | with_reducible refine le151 (fun _ _ => ?_) _ _ _ | with_reducible exact hy _ _ | with_reducible refine LeO.bind ?_ fun _ => ?_)
def c23 (x0 : HullBook) (x1 : (List Int)) : Option (Int × Int) :=
 (c89 x0 (fun y => c98 y x1)).bind fun x29 =>
 sel (x29.2 != 0)
 (some (0, x29.2))
 ((c100 x29.1 (fun y => c101 y x29.1 x1)).bind fun x32 =>
 some (x32, 0))
theorem le23 (x0 : HullBook) (x1 : (List Int)) : LeO (c23 x0 x1) (m23 x0 x1) := by
 unfold c23 m23
 repeat' (first | with_reducible exact LeO.refl _ | with_reducible refine LeO.loop fun _ => ?_ | with_reducible refine LeO.sel ?_ ?_ | with_reducible refine LeO.elim (fun _ => ?_) (fun _ => ?_) _ | with_reducible refine LeO.runY (fun _ _ => ?_) _ _ | with_reducible refine le89 _ (fun _ => ?_) | with_reducible exact le98 _ _ | with_reducible refine le100 _ (fun _ => ?_) | with_reducible exact le101 _ _ _ | with_reducible exact hy _ _ | with_reducible refine LeO.bind ?_ fun _ => ?_)
def c125 (x0 : (List Int)) : Option (List Int) :=
 (appM [] x0).bind fun x21 =>
 some x21
theorem le125 (x0 : (List Int)) : LeO (c125 x0) (m125 x0) := by
 unfold c125 m125
 repeat' (first | with_reducible exact LeO.refl _ | with_reducible refine LeO.loop fun _ => ?_ | with_reducible refine LeO.sel ?_ ?_ | with_reducible refine LeO.elim (fun _ => ?_) (fun _ => ?_) _ | with_reducible refine LeO.runY (fun _ _ => ?_) _ _ | with_reducible exact hy _ _ | with_reducible refine LeO.bind ?_ fun _ => ?_)
def c152 {S : Type} (ys : (List Int) → S → Option (S × Bool)) : Nat → (List Int) → (List Bool) → HullBook → S → Option (S × Bool)
 | 0, _, _, _, _ => none
 | k + 1, x0, x1, x2, s0 =>
  (c92 x2 x1).bind fun x21 =>
  sel ((x21.length : Int) == 0)
  ((ys x0 s0).bind fun x26 =>
  some (x26.1, x26.2))
  ((loopC (O := (S ⊕ (S × Bool))) (fun (s27 : (S × Int)) =>
  sel (decide (s27.2 < (x21.length : Int)))
  ((idx x21 s27.2).bind fun x57 =>
  (c125 x0).bind fun x58 =>
  (appM x58 [x57]).bind fun x60 =>
  (c93 x1 [x57]).bind fun x62 =>
  (c152 ys k x60 x62 x2 s27.1).bind fun x63 =>
  sel (!x63.2)
  (some (.inr (.inr (x63.1, false))))
  (some (.inl (x63.1, i64 (s27.2 + 1)))))
  (some (.inr (.inl s27.1)))) (s0, 0)).bind (Sum.elim (fun (p27_0 : S) =>
  some (p27_0, true))
   (fun q => some q)))
theorem le152 {S : Type} {ys ys' : (List Int) → S → Option (S × Bool)} (h : ∀ y s, LeO (ys y s) (ys' y s)) : ∀ k x0 x1 x2 s0, LeO (c152 ys k x0 x1 x2 s0) (m152 ys' k x0 x1 x2 s0)
 | 0, _, _, _, _ => LeO.none
 | k + 1, x0, x1, x2, s0 => by
  have ih := le152 h k
  rw [c152, m152]
  repeat' (first | with_reducible exact LeO.refl _ | with_reducible refine LeO.loop fun _ => ?_ | with_reducible refine LeO.sel ?_ ?_ | with_reducible refine LeO.elim (fun _ => ?_) (fun _ => ?_) _ | with_reducible refine LeO.runY (fun _ _ => ?_) _ _ | with_reducible exact le92 _ _ | with_reducible exact le93 _ _ | with_reducible exact le125 _ | with_reducible exact h _ _ | with_reducible exact ih _ _ _ _ | with_reducible refine LeO.bind ?_ fun _ => ?_)
def c108 {S : Type} (ys : (List Int) → S → Option (S × Bool)) (x0 : HullBook) (s0 : S) : Option S :=
 (c93 [false, false, false, false, false] x0.Out).bind fun x26 =>
  (c152 ys 9 [] x26 x0 s0).bind fun x27 =>
  some x27.1
theorem le108 {S : Type} {ys ys' : (List Int) → S → Option (S × Bool)} (h : ∀ y s, LeO (ys y s) (ys' y s)) (x0 : HullBook) (s0 : S) : LeO (c108 ys x0 s0) (m108 ys' x0 s0) := by
 unfold c108 m108
 repeat' (first | with_reducible exact LeO.refl _ | with_reducible refine LeO.loop fun _ => ?_ | with_reducible refine LeO.sel ?_ ?_ | with_reducible refine LeO.elim (fun _ => ?_) (fun _ => ?_) _ | with_reducible refine LeO.runY (fun _ _ => ?_) _ _ | with_reducible exact le93 _ _ | with_reducible refine le152 (fun _ _ => ?_) _ _ _ _ _ | with_reducible exact h _ _ | with_reducible refine LeO.bind ?_ fun _ => ?_)
def c25 (x0 : HullBook) : Option (Int × Int) :=
 (c89 x0 (fun y => c90 y)).bind fun x48 =>
 sel (x48.2 != 0)
 (some (0, x48.2))
 ((c91 x48.1).bind fun x53 =>
 (c108 (runY (fun (x55e : (List Int)) (s55 : Int) => (((c102 x48.1.book x55e).bind fun x68 =>
 (c151 (runY (fun (x69e : (List Bool)) (_ : Unit) => ((sel (decide (mapGet x53 x69e > x0.Limit))
 (some (.inr ()))
 (some (.inl ()))) : Option (Unit ⊕ Unit)))) x68.1 x68.2 (.inl ())).bind (Sum.elim (fun (_ : Unit) =>
 some (.inl (i64 (s55 + 1))))
  (fun (_ : Unit) =>
 some (.inl s55)))) : Option (Int ⊕ Empty)))) x48.1.book (.inl 0)).bind (Sum.elim (fun (s55 : Int) =>
 some (s55, 0))
  (fun (o : Empty) => o.elim)))
theorem le25 (x0 : HullBook) : LeO (c25 x0) (m25 x0) := by
 unfold c25 m25
 repeat' (first | with_reducible exact LeO.refl _ | with_reducible refine LeO.loop fun _ => ?_ | with_reducible refine LeO.sel ?_ ?_ | with_reducible refine LeO.elim (fun _ => ?_) (fun _ => ?_) _ | with_reducible refine LeO.runY (fun _ _ => ?_) _ _ | with_reducible refine le89 _ (fun _ => ?_) | with_reducible exact le90 _ | with_reducible exact le91 _ | with_reducible exact le102 _ _ | with_reducible refine le108 (fun _ _ => ?_) _ _ | with_reducible refine le151 (fun _ _ => ?_) _ _ _ | with_reducible exact hy _ _ | with_reducible refine LeO.bind ?_ fun _ => ?_)
def c27 (x0 : HullBook) : Option ((List Int) × Bool × Int) :=
 (c89 x0 (fun y => c90 y)).bind fun x39 =>
 sel (x39.2 != 0)
 (some ([], false, x39.2))
 ((c91 x39.1).bind fun x44 =>
 (c108 (runY (fun (x45e : (List Int)) (_ : Unit) => (((c94 (⟨⟨x39.1.book.Limit, ⟨x39.1.book.Ballast.Least, x39.1.book.Ballast.Most⟩, x39.1.book.Pieces, x39.1.book.Out, x39.1.book.Heels⟩, x39.1.alls, x44⟩ : Opened) x45e).bind fun x48 =>
 sel (decide (x48 ≤ x0.Limit))
 (some (.inr x45e))
 (some (.inl ()))) : Option (Unit ⊕ (List Int))))) x39.1.book (.inl ())).bind (Sum.elim (fun (_ : Unit) =>
 some ([], false, 0))
  (fun (p45_0 : (List Int)) =>
 some (p45_0, true, 0))))
theorem le27 (x0 : HullBook) : LeO (c27 x0) (m27 x0) := by
 unfold c27 m27
 repeat' (first | with_reducible exact LeO.refl _ | with_reducible refine LeO.loop fun _ => ?_ | with_reducible refine LeO.sel ?_ ?_ | with_reducible refine LeO.elim (fun _ => ?_) (fun _ => ?_) _ | with_reducible refine LeO.runY (fun _ _ => ?_) _ _ | with_reducible refine le89 _ (fun _ => ?_) | with_reducible exact le90 _ | with_reducible exact le91 _ | with_reducible exact le94 _ _ | with_reducible refine le108 (fun _ _ => ?_) _ _ | with_reducible exact hy _ _ | with_reducible refine LeO.bind ?_ fun _ => ?_)
def c110 (x0 : Least) (x1 : (List Int)) (x2 : Int) : Option Least :=
 (((sel (!x0.some_)
 (some true)
 (some (decide (x2 < x0.number)))) : Option Bool)).bind (fun (p24_0 : Bool) =>
 sel p24_0
 (some (⟨x1, x2, true⟩ : Least))
 (some x0))
theorem le110 (x0 : Least) (x1 : (List Int)) (x2 : Int) : LeO (c110 x0 x1 x2) (m110 x0 x1 x2) := by
 unfold c110 m110
 repeat' (first | with_reducible exact LeO.refl _ | with_reducible refine LeO.loop fun _ => ?_ | with_reducible refine LeO.sel ?_ ?_ | with_reducible refine LeO.elim (fun _ => ?_) (fun _ => ?_) _ | with_reducible refine LeO.runY (fun _ _ => ?_) _ _ | with_reducible exact hy _ _ | with_reducible refine LeO.bind ?_ fun _ => ?_)
def c29 (x0 : HullBook) : Option ((List Int) × Int × Int) :=
 (c89 x0 (fun y => c90 y)).bind fun x36 =>
 sel (x36.2 != 0)
 (some ([], 0, x36.2))
 ((c91 x36.1).bind fun x41 =>
 (c108 (runY (fun (x43e : (List Int)) (s43 : ((List Int) × Int × Bool)) => (((c94 (⟨⟨x36.1.book.Limit, ⟨x36.1.book.Ballast.Least, x36.1.book.Ballast.Most⟩, x36.1.book.Pieces, x36.1.book.Out, x36.1.book.Heels⟩, x36.1.alls, x41⟩ : Opened) x43e).bind fun x48 =>
 (c110 (⟨s43.1, s43.2.1, s43.2.2⟩ : Least) x43e x48).bind fun x49 =>
 some (.inl (x49.thing, x49.number, x49.some_))) : Option (((List Int) × Int × Bool) ⊕ Empty)))) x36.1.book (.inl ([], 0, false))).bind (Sum.elim (fun (s43 : ((List Int) × Int × Bool)) =>
 some (s43.1, s43.2.1, 0))
  (fun (o : Empty) => o.elim)))
theorem le29 (x0 : HullBook) : LeO (c29 x0) (m29 x0) := by
 unfold c29 m29
 repeat' (first | with_reducible exact LeO.refl _ | with_reducible refine LeO.loop fun _ => ?_ | with_reducible refine LeO.sel ?_ ?_ | with_reducible refine LeO.elim (fun _ => ?_) (fun _ => ?_) _ | with_reducible refine LeO.runY (fun _ _ => ?_) _ _ | with_reducible refine le89 _ (fun _ => ?_) | with_reducible exact le90 _ | with_reducible exact le91 _ | with_reducible exact le94 _ _ | with_reducible refine le108 (fun _ _ => ?_) _ _ | with_reducible exact le110 _ _ _ | with_reducible exact hy _ _ | with_reducible refine LeO.bind ?_ fun _ => ?_)
def c112 (x0 : HullBook) : Option Bool :=
 (c130 (runY (fun (_ : Cargo) (_ : Unit) => ((some (.inr ())) : Option (Unit ⊕ Unit)))) x0 (.inl ())).bind (Sum.elim (fun (_ : Unit) =>
 some false)
  (fun (_ : Unit) =>
 some true))
theorem le112 (x0 : HullBook) : LeO (c112 x0) (m112 x0) := by
 unfold c112 m112
 repeat' (first | with_reducible exact LeO.refl _ | with_reducible refine LeO.loop fun _ => ?_ | with_reducible refine LeO.sel ?_ ?_ | with_reducible refine LeO.elim (fun _ => ?_) (fun _ => ?_) _ | with_reducible refine LeO.runY (fun _ _ => ?_) _ _ | with_reducible refine le130 (fun _ _ => ?_) _ _ | with_reducible exact hy _ _ | with_reducible refine LeO.bind ?_ fun _ => ?_)
def c176 (x0 : Int) : Option Bool :=
 some (x0 != x0)
theorem le176 (x0 : Int) : LeO (c176 x0) (m176 x0) := by
 unfold c176 m176
 repeat' (first | with_reducible exact LeO.refl _ | with_reducible refine LeO.loop fun _ => ?_ | with_reducible refine LeO.sel ?_ ?_ | with_reducible refine LeO.elim (fun _ => ?_) (fun _ => ?_) _ | with_reducible refine LeO.runY (fun _ _ => ?_) _ _ | with_reducible exact hy _ _ | with_reducible refine LeO.bind ?_ fun _ => ?_)
def c168 (x0 : Int) (x1 : Int) : Option Int :=
 (c176 x0).bind fun x36 =>
 (c176 x1).bind fun x37 =>
 sel x36
 (sel x37
 (some 0)
 (some (-1)))
 (sel x37
 (some 1)
 (sel (decide (x0 < x1))
 (some (-1))
 (sel (decide (x0 > x1))
 (some 1)
 (some 0))))
theorem le168 (x0 : Int) (x1 : Int) : LeO (c168 x0 x1) (m168 x0 x1) := by
 unfold c168 m168
 repeat' (first | with_reducible exact LeO.refl _ | with_reducible refine LeO.loop fun _ => ?_ | with_reducible refine LeO.sel ?_ ?_ | with_reducible refine LeO.elim (fun _ => ?_) (fun _ => ?_) _ | with_reducible refine LeO.runY (fun _ _ => ?_) _ _ | with_reducible exact le176 _ | with_reducible exact hy _ _ | with_reducible refine LeO.bind ?_ fun _ => ?_)
def c153 (x0 : (List Int)) (x1 : (List Int)) : Option Int :=
 (loopC (O := (Unit ⊕ Int)) (fun (s52 : Int) =>
 sel (decide (s52 < (x0.length : Int)))
 ((idx x0 s52).bind fun x76 =>
 sel (decide (s52 ≥ (x1.length : Int)))
 (some (.inr (.inr 1)))
 ((idx x1 s52).bind fun x80 =>
 (c168 x76 x80).bind fun x81 =>
 sel (x81 != 0)
 (some (.inr (.inr x81)))
 (some (.inl (i64 (s52 + 1))))))
 (some (.inr (.inl ())))) 0).bind (Sum.elim (fun (_ : Unit) =>
 sel (decide ((x0.length : Int) < (x1.length : Int)))
 (some (-1))
 (some 0))
  (fun q => some q))
theorem le153 (x0 : (List Int)) (x1 : (List Int)) : LeO (c153 x0 x1) (m153 x0 x1) := by
 unfold c153 m153
 repeat' (first | with_reducible exact LeO.refl _ | with_reducible refine LeO.loop fun _ => ?_ | with_reducible refine LeO.sel ?_ ?_ | with_reducible refine LeO.elim (fun _ => ?_) (fun _ => ?_) _ | with_reducible refine LeO.runY (fun _ _ => ?_) _ _ | with_reducible exact le168 _ _ | with_reducible exact hy _ _ | with_reducible refine LeO.bind ?_ fun _ => ?_)
def c113 (x0 : (List Int)) (x1 : (List Int)) : Option Bool :=
 sel (decide ((x0.length : Int) < (x1.length : Int)))
 (some true)
 (sel ((x0.length : Int) == (x1.length : Int))
 ((c153 x0 x1).bind fun x25 =>
 some (decide (x25 < 0)))
 (some false))
theorem le113 (x0 : (List Int)) (x1 : (List Int)) : LeO (c113 x0 x1) (m113 x0 x1) := by
 unfold c113 m113
 repeat' (first | with_reducible exact LeO.refl _ | with_reducible refine LeO.loop fun _ => ?_ | with_reducible refine LeO.sel ?_ ?_ | with_reducible refine LeO.elim (fun _ => ?_) (fun _ => ?_) _ | with_reducible refine LeO.runY (fun _ _ => ?_) _ _ | with_reducible exact le153 _ _ | with_reducible exact hy _ _ | with_reducible refine LeO.bind ?_ fun _ => ?_)
def c31 (x0 : HullBook) : Option ((List Int) × Int) :=
 (c83 x0).bind fun x204 =>
 sel (x204 != 0)
 (some ([], x204))
 ((c112 x0).bind fun x209 =>
 sel x209
 (some ([], 0))
 ((shlM .i64 1 (x0.Heels.length : Int)).bind fun x213 =>
 (loopC (O := (List (List Int))) (fun (s214 : ((List (List Int)) × Int)) =>
 sel (decide (s214.2 < x213))
 ((loopC (O := ((List Int) × (List HullHeel))) (fun (s319 : ((List Int) × Int × (List HullHeel))) =>
 sel (decide (s319.2.1 < (x0.Heels.length : Int)))
 ((idx x0.Heels s319.2.1).bind fun x349 =>
 (shrM .i64 s214.2 s319.2.1).bind fun x351 =>
 (bitsI .and .i64 x351 1).bind fun x352 =>
 sel (x352 == 1)
 ((appM s319.1 [s319.2.1]).bind fun x355 =>
 (appM s319.2.2 [x349]).bind fun x357 =>
 some (.inl (x355, i64 (s319.2.1 + 1), x357)))
 (some (.inl (s319.1, i64 (s319.2.1 + 1), s319.2.2))))
 (some (.inr (s319.1, s319.2.2)))) ([], 0, [])).bind (fun (p319_0 : ((List Int) × (List HullHeel))) =>
 (c112 (⟨x0.Limit, ⟨x0.Ballast.Least, x0.Ballast.Most⟩, x0.Pieces, x0.Out, p319_0.2⟩ : HullBook)).bind fun x359 =>
 sel (!x359)
 ((appM s214.1 [p319_0.1]).bind fun x364 =>
 some (.inl (x364, i64 (s214.2 + 1))))
 (some (.inl (s214.1, i64 (s214.2 + 1))))))
 (some (.inr s214.1))) ([], 0)).bind (fun (p214_0 : (List (List Int))) =>
 (idx p214_0 0).bind fun x365 =>
 (loopC (O := (List Int)) (fun (s366 : ((List Int) × Int)) =>
 sel (decide (s366.2 < (p214_0.length : Int)))
 ((idx p214_0 s366.2).bind fun x382 =>
 (c113 x382 s366.1).bind fun x383 =>
 sel x383
 (some (.inl (x382, i64 (s366.2 + 1))))
 (some (.inl (s366.1, i64 (s366.2 + 1)))))
 (some (.inr s366.1))) (x365, 0)).bind (fun (p366_0 : (List Int)) =>
 sel ((p366_0.length : Int) == 0)
 (some ([], 8))
 (some (p366_0, 0))))))
theorem le31 (x0 : HullBook) : LeO (c31 x0) (m31 x0) := by
 unfold c31 m31
 repeat' (first | with_reducible exact LeO.refl _ | with_reducible refine LeO.loop fun _ => ?_ | with_reducible refine LeO.sel ?_ ?_ | with_reducible refine LeO.elim (fun _ => ?_) (fun _ => ?_) _ | with_reducible refine LeO.runY (fun _ _ => ?_) _ _ | with_reducible exact le83 _ | with_reducible exact le112 _ | with_reducible exact le113 _ _ | with_reducible exact hy _ _ | with_reducible refine LeO.bind ?_ fun _ => ?_)
def c33 (x0 : HullBook) : Option (Int × Int × Int) :=
 (c89 x0 (fun y => c90 y)).bind fun x134 =>
 sel (x134.2 != 0)
 (some (0, 0, x134.2))
 ((loopC (O := (Int × Int)) (fun (s140 : (Int × Int × (Int → Int → Int) × Int)) =>
 sel (decide (s140.2.2.2 < (x0.Pieces.length : Int)))
 ((loopC (O := ((Int → Int → Int) × Int)) (fun (s214 : ((Int → Int → Int) × Int × Int)) =>
 sel (decide (s214.2.2 < (x134.1.alls.length : Int)))
 ((idx x134.1.alls s214.2.2).bind fun x238 =>
 (idx x238.weights s140.2.2.2).bind fun x240 =>
 some (.inl (updW s214.1 s140.2.2.2 x240 (i64 ((s214.1 s140.2.2.2 x240) + 1)), maxI s214.2.1 [(updW s214.1 s140.2.2.2 x240 (i64 ((s214.1 s140.2.2.2 x240) + 1))) s140.2.2.2 x240], i64 (s214.2.2 + 1))))
 (some (.inr (s214.1, s214.2.1)))) (s140.2.2.1, 0, 0)).bind (fun (p214_0 : ((Int → Int → Int) × Int)) =>
 sel (decide (p214_0.2 < s140.2.1))
 (some (.inl (s140.2.2.2, p214_0.2, p214_0.1, i64 (s140.2.2.2 + 1))))
 (some (.inl (s140.1, s140.2.1, p214_0.1, i64 (s140.2.2.2 + 1))))))
 (some (.inr (s140.1, s140.2.1)))) ((-1), (x134.1.alls.length : Int), (fun _ _ => 0), 0)).bind (fun (p140_0 : (Int × Int)) =>
 some (p140_0.1, p140_0.2, 0)))
theorem le33 (x0 : HullBook) : LeO (c33 x0) (m33 x0) := by
 unfold c33 m33
 repeat' (first | with_reducible exact LeO.refl _ | with_reducible refine LeO.loop fun _ => ?_ | with_reducible refine LeO.sel ?_ ?_ | with_reducible refine LeO.elim (fun _ => ?_) (fun _ => ?_) _ | with_reducible refine LeO.runY (fun _ _ => ?_) _ _ | with_reducible refine le89 _ (fun _ => ?_) | with_reducible exact le90 _ | with_reducible exact hy _ _ | with_reducible refine LeO.bind ?_ fun _ => ?_)
def c117 (x0 : (List HullHeel)) : Option (List HullHeel) :=
 (appM [] x0).bind fun x21 =>
 some x21
theorem le117 (x0 : (List HullHeel)) : LeO (c117 x0) (m117 x0) := by
 unfold c117 m117
 repeat' (first | with_reducible exact LeO.refl _ | with_reducible refine LeO.loop fun _ => ?_ | with_reducible refine LeO.sel ?_ ?_ | with_reducible refine LeO.elim (fun _ => ?_) (fun _ => ?_) _ | with_reducible refine LeO.runY (fun _ _ => ?_) _ _ | with_reducible exact hy _ _ | with_reducible refine LeO.bind ?_ fun _ => ?_)
def c122 (x0 : (List HullPiece)) : Option (List HullPiece) :=
 (appM [] x0).bind fun x21 =>
 some x21
theorem le122 (x0 : (List HullPiece)) : LeO (c122 x0) (m122 x0) := by
 unfold c122 m122
 repeat' (first | with_reducible exact LeO.refl _ | with_reducible refine LeO.loop fun _ => ?_ | with_reducible refine LeO.sel ?_ ?_ | with_reducible refine LeO.elim (fun _ => ?_) (fun _ => ?_) _ | with_reducible refine LeO.runY (fun _ _ => ?_) _ _ | with_reducible exact hy _ _ | with_reducible refine LeO.bind ?_ fun _ => ?_)
def c118 (x0 : HullBook) : Option (HullBook × Int) :=
 (c83 x0).bind fun x66 =>
 sel (x66 != 0)
 (some ((⟨0, ⟨0, 0⟩, [], [], []⟩ : HullBook), x66))
 ((c112 (⟨x0.Limit, ⟨x0.Ballast.Least, x0.Ballast.Most⟩, x0.Pieces, x0.Out, x0.Heels⟩ : HullBook)).bind fun x70 =>
 sel (!x70)
 (some ((⟨0, ⟨0, 0⟩, [], [], []⟩ : HullBook), 9))
 ((c122 x0.Pieces).bind fun x74 =>
 (c125 x0.Out).bind fun x75 =>
 (c117 x0.Heels).bind fun x76 =>
 (loopC (O := (List HullPiece)) (fun (s77 : ((List HullPiece) × Int)) =>
 sel (decide (s77.2 < (x74.length : Int)))
 ((idx s77.1 s77.2).bind fun x99 =>
 (c125 x99.On).bind fun x101 =>
 (idx s77.1 s77.2).bind fun x102 =>
 some (.inl (s77.1.set s77.2.toNat (⟨x102.Name, x102.Arm, ⟨x102.Weight.Least, x102.Weight.Most⟩, x101⟩ : HullPiece), i64 (s77.2 + 1))))
 (some (.inr s77.1))) (x74, 0)).bind (fun (p77_0 : (List HullPiece)) =>
 some ((⟨x0.Limit, ⟨x0.Ballast.Least, x0.Ballast.Most⟩, p77_0, x75, x76⟩ : HullBook), 0))))
theorem le118 (x0 : HullBook) : LeO (c118 x0) (m118 x0) := by
 unfold c118 m118
 repeat' (first | with_reducible exact LeO.refl _ | with_reducible refine LeO.loop fun _ => ?_ | with_reducible refine LeO.sel ?_ ?_ | with_reducible refine LeO.elim (fun _ => ?_) (fun _ => ?_) _ | with_reducible refine LeO.runY (fun _ _ => ?_) _ _ | with_reducible exact le83 _ | with_reducible exact le112 _ | with_reducible exact le117 _ | with_reducible exact le122 _ | with_reducible exact le125 _ | with_reducible exact hy _ _ | with_reducible refine LeO.bind ?_ fun _ => ?_)
def c35 (x0 : HullBook) (x1 : HullHeel) : Option (HullBook × Int) :=
 (c83 x0).bind fun x36 =>
 sel (x36 != 0)
 (some ((⟨0, ⟨0, 0⟩, [], [], []⟩ : HullBook), x36))
 ((c117 x0.Heels).bind fun x40 =>
 (appM x40 [x1]).bind fun x42 =>
 (c118 (⟨x0.Limit, ⟨x0.Ballast.Least, x0.Ballast.Most⟩, x0.Pieces, x0.Out, x42⟩ : HullBook)).bind fun x44 =>
 some (x44.1, x44.2))
theorem le35 (x0 : HullBook) (x1 : HullHeel) : LeO (c35 x0 x1) (m35 x0 x1) := by
 unfold c35 m35
 repeat' (first | with_reducible exact LeO.refl _ | with_reducible refine LeO.loop fun _ => ?_ | with_reducible refine LeO.sel ?_ ?_ | with_reducible refine LeO.elim (fun _ => ?_) (fun _ => ?_) _ | with_reducible refine LeO.runY (fun _ _ => ?_) _ _ | with_reducible exact le83 _ | with_reducible exact le117 _ | with_reducible exact le118 _ | with_reducible exact hy _ _ | with_reducible refine LeO.bind ?_ fun _ => ?_)
def c38 (x0 : HullBook) (x1 : Int) (x2 : Reach) : Option (HullBook × Int) :=
 (c83 x0).bind fun x51 =>
 sel (x51 != 0)
 (some ((⟨0, ⟨0, 0⟩, [], [], []⟩ : HullBook), x51))
 ((c120 (⟨x0.Limit, ⟨x0.Ballast.Least, x0.Ballast.Most⟩, x0.Pieces, x0.Out, x0.Heels⟩ : HullBook) x1).bind fun x55 =>
 sel (!x55)
 (some ((⟨0, ⟨0, 0⟩, [], [], []⟩ : HullBook), 6))
 ((c121 x2 1 99 99).bind fun x61 =>
 sel (!x61)
 (some ((⟨0, ⟨0, 0⟩, [], [], []⟩ : HullBook), 1))
 ((idx x0.Pieces x1).bind fun x65 =>
 sel (decide (maxI x65.Weight.Least [x2.Least] > minI x65.Weight.Most [x2.Most]))
 (some ((⟨0, ⟨0, 0⟩, [], [], []⟩ : HullBook), 9))
 ((c122 x0.Pieces).bind fun x71 =>
 (idx x71 x1).bind fun x72 =>
 (c118 (⟨x0.Limit, ⟨x0.Ballast.Least, x0.Ballast.Most⟩, x71.set x1.toNat (⟨x72.Name, x72.Arm, ⟨maxI x65.Weight.Least [x2.Least], minI x65.Weight.Most [x2.Most]⟩, x72.On⟩ : HullPiece), x0.Out, x0.Heels⟩ : HullBook)).bind fun x74 =>
 some (x74.1, x74.2)))))
theorem le38 (x0 : HullBook) (x1 : Int) (x2 : Reach) : LeO (c38 x0 x1 x2) (m38 x0 x1 x2) := by
 unfold c38 m38
 repeat' (first | with_reducible exact LeO.refl _ | with_reducible refine LeO.loop fun _ => ?_ | with_reducible refine LeO.sel ?_ ?_ | with_reducible refine LeO.elim (fun _ => ?_) (fun _ => ?_) _ | with_reducible refine LeO.runY (fun _ _ => ?_) _ _ | with_reducible exact le83 _ | with_reducible exact le118 _ | with_reducible exact le120 _ _ | with_reducible exact le121 _ _ _ _ | with_reducible exact le122 _ | with_reducible exact hy _ _ | with_reducible refine LeO.bind ?_ fun _ => ?_)
def c40 (x0 : HullBook) (x1 : Int) : Option (HullBook × Int) :=
 (c83 x0).bind fun x41 =>
 sel (x41 != 0)
 (some ((⟨0, ⟨0, 0⟩, [], [], []⟩ : HullBook), x41))
 ((c93 [false, false, false, false, false] x0.Out).bind fun x45 =>
 (c99 (⟨x0.Limit, ⟨x0.Ballast.Least, x0.Ballast.Most⟩, x0.Pieces, x0.Out, x0.Heels⟩ : HullBook) x45 [x1]).bind fun x47 =>
 sel (x47.2 != 0)
 (some ((⟨0, ⟨0, 0⟩, [], [], []⟩ : HullBook), x47.2))
 ((c125 x0.Out).bind fun x53 =>
 (appM x53 [x1]).bind fun x55 =>
 (c118 (⟨x0.Limit, ⟨x0.Ballast.Least, x0.Ballast.Most⟩, x0.Pieces, x55, x0.Heels⟩ : HullBook)).bind fun x56 =>
 some (x56.1, x56.2)))
theorem le40 (x0 : HullBook) (x1 : Int) : LeO (c40 x0 x1) (m40 x0 x1) := by
 unfold c40 m40
 repeat' (first | with_reducible exact LeO.refl _ | with_reducible refine LeO.loop fun _ => ?_ | with_reducible refine LeO.sel ?_ ?_ | with_reducible refine LeO.elim (fun _ => ?_) (fun _ => ?_) _ | with_reducible refine LeO.runY (fun _ _ => ?_) _ _ | with_reducible exact le83 _ | with_reducible exact le93 _ _ | with_reducible exact le99 _ _ _ | with_reducible exact le118 _ | with_reducible exact le125 _ | with_reducible exact hy _ _ | with_reducible refine LeO.bind ?_ fun _ => ?_)
def c127 (x0 : HullBook) (x1 : Int) : Option Int :=
 (c120 x0 x1).bind fun x24 =>
 sel (!x24)
 (some 6)
 (some 0)
theorem le127 (x0 : HullBook) (x1 : Int) : LeO (c127 x0 x1) (m127 x0 x1) := by
 unfold c127 m127
 repeat' (first | with_reducible exact LeO.refl _ | with_reducible refine LeO.loop fun _ => ?_ | with_reducible refine LeO.sel ?_ ?_ | with_reducible refine LeO.elim (fun _ => ?_) (fun _ => ?_) _ | with_reducible refine LeO.runY (fun _ _ => ?_) _ _ | with_reducible exact le120 _ _ | with_reducible exact hy _ _ | with_reducible refine LeO.bind ?_ fun _ => ?_)
def c183 (x0 : Int) (x1 : Int) : Option Bool :=
 (c176 x0).bind fun x24 =>
 sel x24
 ((c176 x1).bind fun x26 =>
 sel (!x26)
 (some true)
 (some (decide (x0 < x1))))
 (some (decide (x0 < x1)))
theorem le183 (x0 : Int) (x1 : Int) : LeO (c183 x0 x1) (m183 x0 x1) := by
 unfold c183 m183
 repeat' (first | with_reducible exact LeO.refl _ | with_reducible refine LeO.loop fun _ => ?_ | with_reducible refine LeO.sel ?_ ?_ | with_reducible refine LeO.elim (fun _ => ?_) (fun _ => ?_) _ | with_reducible refine LeO.runY (fun _ _ => ?_) _ _ | with_reducible exact le176 _ | with_reducible exact hy _ _ | with_reducible refine LeO.bind ?_ fun _ => ?_)
def c177 (x0 : (List Int)) (x1 : Int) (x2 : Int) : Option (List Int) :=
 (loopC (O := (List Int)) (fun (s195 : ((List Int) × Int)) =>
 sel (decide (s195.2 < x2))
 ((loopC (O := (List Int)) (fun (s315 : ((List Int) × Int)) =>
 (((sel (decide (s315.2 > x1))
 ((idx s315.1 s315.2).bind fun x358 =>
 (idx s315.1 (i64 (s315.2 - 1))).bind fun x359 =>
 (c183 x358 x359).bind fun x360 =>
 some x360)
 (some false)) : Option Bool)).bind (fun (p352_0 : Bool) =>
 sel p352_0
 ((idx s315.1 (i64 (s315.2 - 1))).bind fun x364 =>
 (idx s315.1 s315.2).bind fun x365 =>
 (idx s315.1 s315.2).bind fun _ =>
 (idx (s315.1.set s315.2.toNat x364) (i64 (s315.2 - 1))).bind fun _ =>
 some (.inl ((s315.1.set s315.2.toNat x364).set (i64 (s315.2 - 1)).toNat x365, i64 (s315.2 - 1))))
 (some (.inr s315.1)))) (s195.1, s195.2)).bind (fun (p315_0 : (List Int)) =>
 some (.inl (p315_0, i64 (s195.2 + 1)))))
 (some (.inr s195.1))) (x0, i64 (x1 + 1))).bind (fun (p195_0 : (List Int)) =>
 some p195_0)
theorem le177 (x0 : (List Int)) (x1 : Int) (x2 : Int) : LeO (c177 x0 x1 x2) (m177 x0 x1 x2) := by
 unfold c177 m177
 repeat' (first | with_reducible exact LeO.refl _ | with_reducible refine LeO.loop fun _ => ?_ | with_reducible refine LeO.sel ?_ ?_ | with_reducible refine LeO.elim (fun _ => ?_) (fun _ => ?_) _ | with_reducible refine LeO.runY (fun _ _ => ?_) _ _ | with_reducible exact le183 _ _ | with_reducible exact hy _ _ | with_reducible refine LeO.bind ?_ fun _ => ?_)
def c187 (x0 : Int) : Option Int :=
 (((sel (decide (x0 ≥ 4294967296))
 ((shrM .u64 x0 32).bind fun x40 =>
 some (x40, 32))
 (some (x0, 0))) : Option (Int × Int))).bind (fun (p36_0 : (Int × Int)) =>
 (((sel (decide (p36_0.1 ≥ 65536))
 ((shrM .u64 p36_0.1 16).bind fun x45 =>
 some (x45, i64 (p36_0.2 + 16)))
 (some (p36_0.1, p36_0.2))) : Option (Int × Int))).bind (fun (p41_0 : (Int × Int)) =>
 (((sel (decide (p41_0.1 ≥ 256))
 ((shrM .u64 p41_0.1 8).bind fun x50 =>
 some (x50, i64 (p41_0.2 + 8)))
 (some (p41_0.1, p41_0.2))) : Option (Int × Int))).bind (fun (p46_0 : (Int × Int)) =>
 (strAt (⟨#[0, 1, 2, 2, 3, 3, 3, 3, 4, 4, 4, 4, 4, 4, 4, 4, 5, 5, 5, 5, 5, 5, 5, 5, 5, 5, 5, 5, 5, 5, 5, 5, 6, 6, 6, 6, 6, 6, 6, 6, 6, 6, 6, 6, 6, 6, 6, 6, 6, 6, 6, 6, 6, 6, 6, 6, 6, 6, 6, 6, 6, 6, 6, 6, 7, 7, 7, 7, 7, 7, 7, 7, 7, 7, 7, 7, 7, 7, 7, 7, 7, 7, 7, 7, 7, 7, 7, 7, 7, 7, 7, 7, 7, 7, 7, 7, 7, 7, 7, 7, 7, 7, 7, 7, 7, 7, 7, 7, 7, 7, 7, 7, 7, 7, 7, 7, 7, 7, 7, 7, 7, 7, 7, 7, 7, 7, 7, 7, 8, 8, 8, 8, 8, 8, 8, 8, 8, 8, 8, 8, 8, 8, 8, 8, 8, 8, 8, 8, 8, 8, 8, 8, 8, 8, 8, 8, 8, 8, 8, 8, 8, 8, 8, 8, 8, 8, 8, 8, 8, 8, 8, 8, 8, 8, 8, 8, 8, 8, 8, 8, 8, 8, 8, 8, 8, 8, 8, 8, 8, 8, 8, 8, 8, 8, 8, 8, 8, 8, 8, 8, 8, 8, 8, 8, 8, 8, 8, 8, 8, 8, 8, 8, 8, 8, 8, 8, 8, 8, 8, 8, 8, 8, 8, 8, 8, 8, 8, 8, 8, 8, 8, 8, 8, 8, 8, 8, 8, 8, 8, 8, 8, 8, 8, 8, 8, 8, 8, 8, 8, 8, 8, 8, 8, 8, 8, 8]⟩) (IntKind.wrap .u8 p46_0.1)).bind fun x51 =>
 some (i64 (p46_0.2 + (i64 x51))))))
theorem le187 (x0 : Int) : LeO (c187 x0) (m187 x0) := by
 unfold c187 m187
 repeat' (first | with_reducible exact LeO.refl _ | with_reducible refine LeO.loop fun _ => ?_ | with_reducible refine LeO.sel ?_ ?_ | with_reducible refine LeO.elim (fun _ => ?_) (fun _ => ?_) _ | with_reducible refine LeO.runY (fun _ _ => ?_) _ _ | with_reducible exact hy _ _ | with_reducible refine LeO.bind ?_ fun _ => ?_)
def c170 (x0 : Int) : Option Int :=
 (c187 x0).bind fun x21 =>
 some x21
theorem le170 (x0 : Int) : LeO (c170 x0) (m170 x0) := by
 unfold c170 m170
 repeat' (first | with_reducible exact LeO.refl _ | with_reducible refine LeO.loop fun _ => ?_ | with_reducible refine LeO.sel ?_ ?_ | with_reducible refine LeO.elim (fun _ => ?_) (fun _ => ?_) _ | with_reducible refine LeO.runY (fun _ _ => ?_) _ _ | with_reducible exact le187 _ | with_reducible exact hy _ _ | with_reducible refine LeO.bind ?_ fun _ => ?_)
def c169 (x0 : (List Int)) (x1 : Int) (x2 : Int) (_ : Int) : Option (List Int) :=
 (loopC (O := (List Int)) (fun (_ : Unit) =>
 sel (decide (i64 (x2 - x1) ≤ 12))
 ((c177 x0 x1 x2).bind fun x41 =>
 some (.inr x41))
 (none)) ()).bind (fun q => some q)
theorem le169 (x0 : (List Int)) (x1 : Int) (x2 : Int) (x3 : Int) : LeO (c169 x0 x1 x2 x3) (m169 x0 x1 x2 x3) := by
 unfold c169 m169
 repeat' (first | with_reducible exact LeO.refl _ | with_reducible refine LeO.loop fun _ => ?_ | with_reducible refine LeO.sel ?_ ?_ | with_reducible refine LeO.elim (fun _ => ?_) (fun _ => ?_) _ | with_reducible refine LeO.runY (fun _ _ => ?_) _ _ | with_reducible exact le177 _ _ _ | with_reducible exact hy _ _ | with_reducible refine LeO.bind ?_ fun _ => ?_)
def c155 (x0 : (List Int)) : Option (List Int) :=
 (c170 (IntKind.wrap .u64 (x0.length : Int))).bind fun x22 =>
 (c169 x0 0 (x0.length : Int) x22).bind fun x23 =>
 some x23
theorem le155 (x0 : (List Int)) : LeO (c155 x0) (m155 x0) := by
 unfold c155 m155
 repeat' (first | with_reducible exact LeO.refl _ | with_reducible refine LeO.loop fun _ => ?_ | with_reducible refine LeO.sel ?_ ?_ | with_reducible refine LeO.elim (fun _ => ?_) (fun _ => ?_) _ | with_reducible refine LeO.runY (fun _ _ => ?_) _ _ | with_reducible exact le169 _ _ _ _ | with_reducible exact le170 _ | with_reducible exact hy _ _ | with_reducible refine LeO.bind ?_ fun _ => ?_)
def c156 (x0 : (List Int)) : Option (List Int) :=
 sel (decide ((x0.length : Int) < 2))
 (some x0)
 ((loopC (O := Unit) (fun (s45 : Int) =>
 sel (decide (s45 < (x0.length : Int)))
 ((idx x0 s45).bind fun x61 =>
 (idx x0 (i64 (s45 - 1))).bind fun x62 =>
 sel (x61 == x62)
 (none)
 (some (.inl (i64 (s45 + 1)))))
 (some (.inr ()))) 1).bind (fun (_ : Unit) =>
 some x0))
theorem le156 (x0 : (List Int)) : LeO (c156 x0) (m156 x0) := by
 unfold c156 m156
 repeat' (first | with_reducible exact LeO.refl _ | with_reducible refine LeO.loop fun _ => ?_ | with_reducible refine LeO.sel ?_ ?_ | with_reducible refine LeO.elim (fun _ => ?_) (fun _ => ?_) _ | with_reducible refine LeO.runY (fun _ _ => ?_) _ _ | with_reducible exact hy _ _ | with_reducible refine LeO.bind ?_ fun _ => ?_)
def c128 (x0 : Opened) (x1 : (Cargo → Option Int)) : Option (List Int) :=
 (loopC (O := (List Int)) (fun (s50 : ((List Int) × Int)) =>
 sel (decide (s50.2 < (x0.alls.length : Int)))
 ((idx x0.alls s50.2).bind fun x70 =>
 (x1 x70).bind fun x72 =>
 (appM s50.1 [x72]).bind fun x74 =>
 some (.inl (x74, i64 (s50.2 + 1))))
 (some (.inr s50.1))) ([], 0)).bind (fun (p50_0 : (List Int)) =>
 (c155 p50_0).bind fun x75 =>
 (c156 x75).bind fun x76 =>
 some x76)
theorem le128 (x0 : Opened) {x1 x1' : (Cargo → Option Int)} (hx1 : ∀ y, LeO (x1 y) (x1' y)) : LeO (c128 x0 x1) (m128 x0 x1') := by
 unfold c128 m128
 repeat' (first | with_reducible exact LeO.refl _ | with_reducible refine LeO.loop fun _ => ?_ | with_reducible refine LeO.sel ?_ ?_ | with_reducible refine LeO.elim (fun _ => ?_) (fun _ => ?_) _ | with_reducible refine LeO.runY (fun _ _ => ?_) _ _ | with_reducible exact le155 _ | with_reducible exact le156 _ | with_reducible exact hx1 _ | with_reducible exact hy _ _ | with_reducible refine LeO.bind ?_ fun _ => ?_)
def c129 (x0 : Cargo) (x1 : Int) : Option Int :=
 (idx x0.weights x1).bind fun x23 =>
 some x23
theorem le129 (x0 : Cargo) (x1 : Int) : LeO (c129 x0 x1) (m129 x0 x1) := by
 unfold c129 m129
 repeat' (first | with_reducible exact LeO.refl _ | with_reducible refine LeO.loop fun _ => ?_ | with_reducible refine LeO.sel ?_ ?_ | with_reducible refine LeO.elim (fun _ => ?_) (fun _ => ?_) _ | with_reducible refine LeO.runY (fun _ _ => ?_) _ _ | with_reducible exact hy _ _ | with_reducible refine LeO.bind ?_ fun _ => ?_)
def c43 (x0 : HullBook) (x1 : Int) : Option ((List Int) × Int) :=
 (c89 x0 (fun y => c127 y x1)).bind fun x29 =>
 sel (x29.2 != 0)
 (some ([], x29.2))
 ((c128 x29.1 (fun y => c129 y x1)).bind fun x32 =>
 some (x32, 0))
theorem le43 (x0 : HullBook) (x1 : Int) : LeO (c43 x0 x1) (m43 x0 x1) := by
 unfold c43 m43
 repeat' (first | with_reducible exact LeO.refl _ | with_reducible refine LeO.loop fun _ => ?_ | with_reducible refine LeO.sel ?_ ?_ | with_reducible refine LeO.elim (fun _ => ?_) (fun _ => ?_) _ | with_reducible refine LeO.runY (fun _ _ => ?_) _ _ | with_reducible refine le89 _ (fun _ => ?_) | with_reducible exact le127 _ _ | with_reducible refine le128 _ (fun _ => ?_) | with_reducible exact le129 _ _ | with_reducible exact hy _ _ | with_reducible refine LeO.bind ?_ fun _ => ?_)
def c44 (x0 : HullBook) : Option (Int × Int) :=
 (c83 x0).bind fun x28 =>
 sel (x28 != 0)
 (some (0, x28))
 ((c130 (runY (fun (_ : Cargo) (s33 : Int) => ((some (.inl (i64 (s33 + 1)))) : Option (Int ⊕ Empty)))) (⟨x0.Limit, ⟨x0.Ballast.Least, x0.Ballast.Most⟩, x0.Pieces, x0.Out, x0.Heels⟩ : HullBook) (.inl 0)).bind (Sum.elim (fun (s33 : Int) =>
 some (s33, 0))
  (fun (o : Empty) => o.elim)))
theorem le44 (x0 : HullBook) : LeO (c44 x0) (m44 x0) := by
 unfold c44 m44
 repeat' (first | with_reducible exact LeO.refl _ | with_reducible refine LeO.loop fun _ => ?_ | with_reducible refine LeO.sel ?_ ?_ | with_reducible refine LeO.elim (fun _ => ?_) (fun _ => ?_) _ | with_reducible refine LeO.runY (fun _ _ => ?_) _ _ | with_reducible exact le83 _ | with_reducible refine le130 (fun _ _ => ?_) _ _ | with_reducible exact hy _ _ | with_reducible refine LeO.bind ?_ fun _ => ?_)
def c72 (x0 : Int) (x1 : Int) : Option Reach :=
 some (⟨x0, x1⟩ : Reach)
theorem le72 (x0 : Int) (x1 : Int) : LeO (c72 x0 x1) (m72 x0 x1) := by
 unfold c72 m72
 repeat' (first | with_reducible exact LeO.refl _ | with_reducible refine LeO.loop fun _ => ?_ | with_reducible refine LeO.sel ?_ ?_ | with_reducible refine LeO.elim (fun _ => ?_) (fun _ => ?_) _ | with_reducible refine LeO.runY (fun _ _ => ?_) _ _ | with_reducible exact hy _ _ | with_reducible refine LeO.bind ?_ fun _ => ?_)
def c45 (x0 : Int) : Option Reach :=
 (c72 x0 x0).bind fun x23 =>
 some x23
theorem le45 (x0 : Int) : LeO (c45 x0) (m45 x0) := by
 unfold c45 m45
 repeat' (first | with_reducible exact LeO.refl _ | with_reducible refine LeO.loop fun _ => ?_ | with_reducible refine LeO.sel ?_ ?_ | with_reducible refine LeO.elim (fun _ => ?_) (fun _ => ?_) _ | with_reducible refine LeO.runY (fun _ _ => ?_) _ _ | with_reducible exact le72 _ _ | with_reducible exact hy _ _ | with_reducible refine LeO.bind ?_ fun _ => ?_)
def c159 (x0 : Int) : Option Bool :=
 (c154 x0 0 99).bind fun x21 =>
 some (!x21)
theorem le159 (x0 : Int) : LeO (c159 x0) (m159 x0) := by
 unfold c159 m159
 repeat' (first | with_reducible exact LeO.refl _ | with_reducible refine LeO.loop fun _ => ?_ | with_reducible refine LeO.sel ?_ ?_ | with_reducible refine LeO.elim (fun _ => ?_) (fun _ => ?_) _ | with_reducible refine LeO.runY (fun _ _ => ?_) _ _ | with_reducible exact le154 _ _ _ | with_reducible exact hy _ _ | with_reducible refine LeO.bind ?_ fun _ => ?_)
def c131 (x0 : HullBook) (x1 : HullCase) : Option (Cargo × Int) :=
 (c154 x1.Ballast (-999) 999).bind fun x44 =>
 sel (!x44)
 (some ((⟨0, [0, 0, 0, 0, 0]⟩ : Cargo), 1))
 (sel ((x1.Weights.length : Int) != (x0.Pieces.length : Int))
 (some ((⟨0, [0, 0, 0, 0, 0]⟩ : Cargo), 2))
 ((c158 x1.Weights (fun y => c159 y)).bind fun x56 =>
 sel x56
 (some ((⟨0, [0, 0, 0, 0, 0]⟩ : Cargo), 1))
 (some ((⟨x1.Ballast, copyL [0, 0, 0, 0, 0] x1.Weights⟩ : Cargo), 0))))
theorem le131 (x0 : HullBook) (x1 : HullCase) : LeO (c131 x0 x1) (m131 x0 x1) := by
 unfold c131 m131
 repeat' (first | with_reducible exact LeO.refl _ | with_reducible refine LeO.loop fun _ => ?_ | with_reducible refine LeO.sel ?_ ?_ | with_reducible refine LeO.elim (fun _ => ?_) (fun _ => ?_) _ | with_reducible refine LeO.runY (fun _ _ => ?_) _ _ | with_reducible exact le154 _ _ _ | with_reducible refine le158 _ (fun _ => ?_) | with_reducible exact le159 _ | with_reducible exact hy _ _ | with_reducible refine LeO.bind ?_ fun _ => ?_)
def c50 (x0 : HullBook) (x1 : HullCase) (x2 : (List Int)) : Option (Int × Int) :=
 (c83 x0).bind fun x40 =>
 sel (x40 != 0)
 (some (0, x40))
 ((c131 x0 x1).bind fun x45 =>
 sel (x45.2 != 0)
 (some (0, x45.2))
 ((c132 x2 (x0.Pieces.length : Int)).bind fun x50 =>
 sel (x50 != 0)
 (some (0, x50))
 ((c93 [false, false, false, false, false] x2).bind fun x54 =>
 (c104 x0 x45.1 x54).bind fun x55 =>
 some (x55, 0))))
theorem le50 (x0 : HullBook) (x1 : HullCase) (x2 : (List Int)) : LeO (c50 x0 x1 x2) (m50 x0 x1 x2) := by
 unfold c50 m50
 repeat' (first | with_reducible exact LeO.refl _ | with_reducible refine LeO.loop fun _ => ?_ | with_reducible refine LeO.sel ?_ ?_ | with_reducible refine LeO.elim (fun _ => ?_) (fun _ => ?_) _ | with_reducible refine LeO.runY (fun _ _ => ?_) _ _ | with_reducible exact le83 _ | with_reducible exact le93 _ _ | with_reducible exact le104 _ _ _ | with_reducible exact le131 _ _ | with_reducible exact le132 _ _ | with_reducible exact hy _ _ | with_reducible refine LeO.bind ?_ fun _ => ?_)
def c53 (x0 : HullBook) : Option ((List Int) × Int) :=
 (c83 x0).bind fun x28 =>
 sel (x28 != 0)
 (some ([], x28))
 ((c93 [false, false, false, false, false] x0.Out).bind fun x32 =>
 (c92 (⟨x0.Limit, ⟨x0.Ballast.Least, x0.Ballast.Most⟩, x0.Pieces, x0.Out, x0.Heels⟩ : HullBook) x32).bind fun x33 =>
 some (x33, 0))
theorem le53 (x0 : HullBook) : LeO (c53 x0) (m53 x0) := by
 unfold c53 m53
 repeat' (first | with_reducible exact LeO.refl _ | with_reducible refine LeO.loop fun _ => ?_ | with_reducible refine LeO.sel ?_ ?_ | with_reducible refine LeO.elim (fun _ => ?_) (fun _ => ?_) _ | with_reducible refine LeO.runY (fun _ _ => ?_) _ _ | with_reducible exact le83 _ | with_reducible exact le92 _ _ | with_reducible exact le93 _ _ | with_reducible exact hy _ _ | with_reducible refine LeO.bind ?_ fun _ => ?_)
def c160 (x0 : HullBook) (x1 : (List Int)) : Option Int :=
 (c132 x1 (x0.Pieces.length : Int)).bind fun x23 =>
 some x23
theorem le160 (x0 : HullBook) (x1 : (List Int)) : LeO (c160 x0 x1) (m160 x0 x1) := by
 unfold c160 m160
 repeat' (first | with_reducible exact LeO.refl _ | with_reducible refine LeO.loop fun _ => ?_ | with_reducible refine LeO.sel ?_ ?_ | with_reducible refine LeO.elim (fun _ => ?_) (fun _ => ?_) _ | with_reducible refine LeO.runY (fun _ _ => ?_) _ _ | with_reducible exact le132 _ _ | with_reducible exact hy _ _ | with_reducible refine LeO.bind ?_ fun _ => ?_)
def c133 (x0 : (List Int)) : Option (List Int) :=
 some x0
theorem le133 (x0 : (List Int)) : LeO (c133 x0) (m133 x0) := by
 unfold c133 m133
 repeat' (first | with_reducible exact LeO.refl _ | with_reducible refine LeO.loop fun _ => ?_ | with_reducible refine LeO.sel ?_ ?_ | with_reducible refine LeO.elim (fun _ => ?_) (fun _ => ?_) _ | with_reducible refine LeO.runY (fun _ _ => ?_) _ _ | with_reducible exact hy _ _ | with_reducible refine LeO.bind ?_ fun _ => ?_)
def c134 (x0 : Cargo) (x1 : Opened) (x2 : (List Int)) : Option Bool :=
 (c93 [false, false, false, false, false] x2).bind fun x25 =>
 (c104 x1.book x0 x25).bind fun x26 =>
 (c103 x1.book x26).bind fun x27 =>
 some x27
theorem le134 (x0 : Cargo) (x1 : Opened) (x2 : (List Int)) : LeO (c134 x0 x1 x2) (m134 x0 x1 x2) := by
 unfold c134 m134
 repeat' (first | with_reducible exact LeO.refl _ | with_reducible refine LeO.loop fun _ => ?_ | with_reducible refine LeO.sel ?_ ?_ | with_reducible refine LeO.elim (fun _ => ?_) (fun _ => ?_) _ | with_reducible refine LeO.runY (fun _ _ => ?_) _ _ | with_reducible exact le93 _ _ | with_reducible exact le103 _ _ | with_reducible exact le104 _ _ _ | with_reducible exact hy _ _ | with_reducible refine LeO.bind ?_ fun _ => ?_)
def c56 (x0 : HullBook) (x1 : (List Int)) : Option (Int × Int) :=
 (c133 x1).bind fun x31 =>
 (c89 x0 (fun y => c160 y x31)).bind fun x32 =>
 sel (x32.2 != 0)
 (some (0, x32.2))
 ((c100 x32.1 (fun y => c134 y x32.1 x1)).bind fun x36 =>
 some (x36, 0))
theorem le56 (x0 : HullBook) (x1 : (List Int)) : LeO (c56 x0 x1) (m56 x0 x1) := by
 unfold c56 m56
 repeat' (first | with_reducible exact LeO.refl _ | with_reducible refine LeO.loop fun _ => ?_ | with_reducible refine LeO.sel ?_ ?_ | with_reducible refine LeO.elim (fun _ => ?_) (fun _ => ?_) _ | with_reducible refine LeO.runY (fun _ _ => ?_) _ _ | with_reducible refine le89 _ (fun _ => ?_) | with_reducible refine le100 _ (fun _ => ?_) | with_reducible exact le133 _ | with_reducible exact le134 _ _ _ | with_reducible exact le160 _ _ | with_reducible exact hy _ _ | with_reducible refine LeO.bind ?_ fun _ => ?_)
def c60 (x0 : HullBook) (x1 : HullHeel) : Option HullBook :=
 (appM [] x0.Heels).bind fun x33 =>
 (appM x33 [x1]).bind fun x35 =>
 some (⟨x0.Limit, ⟨x0.Ballast.Least, x0.Ballast.Most⟩, x0.Pieces, x0.Out, x35⟩ : HullBook)
theorem le60 (x0 : HullBook) (x1 : HullHeel) : LeO (c60 x0 x1) (m60 x0 x1) := by
 unfold c60 m60
 repeat' (first | with_reducible exact LeO.refl _ | with_reducible refine LeO.loop fun _ => ?_ | with_reducible refine LeO.sel ?_ ?_ | with_reducible refine LeO.elim (fun _ => ?_) (fun _ => ?_) _ | with_reducible refine LeO.runY (fun _ _ => ?_) _ _ | with_reducible exact hy _ _ | with_reducible refine LeO.bind ?_ fun _ => ?_)
def c64 (x0 : HullBook) (x1 : Int) : Option HullBook :=
 (appM [] x0.Out).bind fun x30 =>
 (appM x30 [x1]).bind fun x32 =>
 some (⟨x0.Limit, ⟨x0.Ballast.Least, x0.Ballast.Most⟩, x0.Pieces, x32, x0.Heels⟩ : HullBook)
theorem le64 (x0 : HullBook) (x1 : Int) : LeO (c64 x0 x1) (m64 x0 x1) := by
 unfold c64 m64
 repeat' (first | with_reducible exact LeO.refl _ | with_reducible refine LeO.loop fun _ => ?_ | with_reducible refine LeO.sel ?_ ?_ | with_reducible refine LeO.elim (fun _ => ?_) (fun _ => ?_) _ | with_reducible refine LeO.runY (fun _ _ => ?_) _ _ | with_reducible exact hy _ _ | with_reducible refine LeO.bind ?_ fun _ => ?_)
def c137 (x0 : Cargo) (x1 : Opened) (x2 : (List Int)) : Option Int :=
 (c93 [false, false, false, false, false] x2).bind fun x24 =>
 (c104 x1.book x0 x24).bind fun x25 =>
 some x25
theorem le137 (x0 : Cargo) (x1 : Opened) (x2 : (List Int)) : LeO (c137 x0 x1 x2) (m137 x0 x1 x2) := by
 unfold c137 m137
 repeat' (first | with_reducible exact LeO.refl _ | with_reducible refine LeO.loop fun _ => ?_ | with_reducible refine LeO.sel ?_ ?_ | with_reducible refine LeO.elim (fun _ => ?_) (fun _ => ?_) _ | with_reducible refine LeO.runY (fun _ _ => ?_) _ _ | with_reducible exact le93 _ _ | with_reducible exact le104 _ _ _ | with_reducible exact hy _ _ | with_reducible refine LeO.bind ?_ fun _ => ?_)
def c71 (x0 : HullBook) (x1 : (List Int)) : Option (Reach × Int) :=
 (c133 x1).bind fun x37 =>
 (c89 x0 (fun y => c160 y x37)).bind fun x38 =>
 sel (x38.2 != 0)
 (some ((⟨0, 0⟩ : Reach), x38.2))
 ((c128 x38.1 (fun y => c137 y x38.1 x1)).bind fun x44 =>
 (idx x44 0).bind fun x46 =>
 (idx x44 (i64 ((x44.length : Int) - 1))).bind fun x47 =>
 some ((⟨x46, x47⟩ : Reach), 0))
theorem le71 (x0 : HullBook) (x1 : (List Int)) : LeO (c71 x0 x1) (m71 x0 x1) := by
 unfold c71 m71
 repeat' (first | with_reducible exact LeO.refl _ | with_reducible refine LeO.loop fun _ => ?_ | with_reducible refine LeO.sel ?_ ?_ | with_reducible refine LeO.elim (fun _ => ?_) (fun _ => ?_) _ | with_reducible refine LeO.runY (fun _ _ => ?_) _ _ | with_reducible refine le89 _ (fun _ => ?_) | with_reducible refine le128 _ (fun _ => ?_) | with_reducible exact le133 _ | with_reducible exact le137 _ _ _ | with_reducible exact le160 _ _ | with_reducible exact hy _ _ | with_reducible refine LeO.bind ?_ fun _ => ?_)
def c87  : Option HullBook :=
 (c72 20 21).bind fun x29 =>
 (c45 30).bind fun x30 =>
 (c45 10).bind fun x31 =>
 some (⟨62, ⟨0, 0⟩, [(⟨⟨#[103, 117, 110]⟩, (-3), ⟨x29.Least, x29.Most⟩, []⟩ : HullPiece), (⟨⟨#[99, 104, 101, 115, 116]⟩, 2, ⟨x30.Least, x30.Most⟩, []⟩ : HullPiece), (⟨⟨#[97, 110, 99, 104, 111, 114]⟩, 1, ⟨x31.Least, x31.Most⟩, [0]⟩ : HullPiece)], [], []⟩ : HullBook)
theorem le87  : LeO (c87 ) (m87 ) := by
 unfold c87 m87
 repeat' (first | with_reducible exact LeO.refl _ | with_reducible refine LeO.loop fun _ => ?_ | with_reducible refine LeO.sel ?_ ?_ | with_reducible refine LeO.elim (fun _ => ?_) (fun _ => ?_) _ | with_reducible refine LeO.runY (fun _ _ => ?_) _ _ | with_reducible exact le45 _ | with_reducible exact le72 _ _ | with_reducible exact hy _ _ | with_reducible refine LeO.bind ?_ fun _ => ?_)
def c55 (x0 : (List Int)) (x1 : (List Int)) : Option Bool :=
 (loopC (O := (Unit ⊕ Bool)) (fun (s69 : Int) =>
 sel (decide (s69 < (x1.length : Int)))
 ((((sel (decide (s69 ≥ (x0.length : Int)))
 (some true)
 ((idx x0 s69).bind fun x110 =>
 (idx x1 s69).bind fun x111 =>
 some (decide (x110 < x111)))) : Option Bool)).bind (fun (p105_0 : Bool) =>
 sel p105_0
 (some (.inr (.inr true)))
 ((idx x0 s69).bind fun x115 =>
 (idx x1 s69).bind fun x116 =>
 sel (decide (x115 > x116))
 (some (.inr (.inr false)))
 (some (.inl (i64 (s69 + 1)))))))
 (some (.inr (.inl ())))) 0).bind (Sum.elim (fun (_ : Unit) =>
 some false)
  (fun q => some q))
theorem le55 (x0 : (List Int)) (x1 : (List Int)) : LeO (c55 x0 x1) (m55 x0 x1) := by
 unfold c55 m55
 repeat' (first | with_reducible exact LeO.refl _ | with_reducible refine LeO.loop fun _ => ?_ | with_reducible refine LeO.sel ?_ ?_ | with_reducible refine LeO.elim (fun _ => ?_) (fun _ => ?_) _ | with_reducible refine LeO.runY (fun _ _ => ?_) _ _ | with_reducible exact hy _ _ | with_reducible refine LeO.bind ?_ fun _ => ?_)
def c22 (x0 : (List Int)) (x1 : (List Int)) : Option Bool :=
 (c55 x0 x1).bind fun x23 =>
 sel (!x23)
 ((c55 x1 x0).bind fun x25 =>
 some (!x25))
 (some false)
theorem le22 (x0 : (List Int)) (x1 : (List Int)) : LeO (c22 x0 x1) (m22 x0 x1) := by
 unfold c22 m22
 repeat' (first | with_reducible exact LeO.refl _ | with_reducible refine LeO.loop fun _ => ?_ | with_reducible refine LeO.sel ?_ ?_ | with_reducible refine LeO.elim (fun _ => ?_) (fun _ => ?_) _ | with_reducible refine LeO.runY (fun _ _ => ?_) _ _ | with_reducible exact le55 _ _ | with_reducible exact hy _ _ | with_reducible refine LeO.bind ?_ fun _ => ?_)
def c88 (x0 : (List Int)) (x1 : (List Int)) : Option Bool :=
 (c22 x0 x1).bind fun x21 =>
 some x21
theorem le88 (x0 : (List Int)) (x1 : (List Int)) : LeO (c88 x0 x1) (m88 x0 x1) := by
 unfold c88 m88
 repeat' (first | with_reducible exact LeO.refl _ | with_reducible refine LeO.loop fun _ => ?_ | with_reducible refine LeO.sel ?_ ?_ | with_reducible refine LeO.elim (fun _ => ?_) (fun _ => ?_) _ | with_reducible refine LeO.runY (fun _ _ => ?_) _ _ | with_reducible exact le22 _ _ | with_reducible exact hy _ _ | with_reducible refine LeO.bind ?_ fun _ => ?_)
def c19  : Option Bool :=
 (c87).bind fun x177 =>
 (c64 x177 2).bind fun x179 =>
 (c60 x179 (⟨1, 0⟩ : HullHeel)).bind fun x180 =>
 (c50 x177 (⟨0, [21, 30, 10]⟩ : HullCase) [1]).bind fun x184 =>
 (c44 x177).bind fun x186 =>
 (c43 x177 0).bind fun x187 =>
 (c71 x177 [2]).bind fun x189 =>
 (c56 x177 [0]).bind fun x193 =>
 (c56 x177 [1, 2]).bind fun x196 =>
 (c53 x177).bind fun x198 =>
 (c20 x177).bind fun x199 =>
 (c44 x180).bind fun x200 =>
 (((sel (x184.2 != 0)
 (some true)
 (sel (x186.2 != 0)
 (some true)
 (sel (x187.2 != 0)
 (some true)
 (sel (x189.2 != 0)
 (some true)
 (sel (x193.2 != 0)
 (some true)
 (sel (x196.2 != 0)
 (some true)
 (sel (x198.2 != 0)
 (some true)
 (sel (x199.2 != 0)
 (some true)
 (some (x200.2 != 0)))))))))) : Option Bool)).bind (fun (p201_0 : Bool) =>
 sel p201_0
 (some false)
 ((((sel (x184.1 != (-53))
 (some true)
 (sel (x186.1 != 2)
 (some true)
 ((c88 x187.1 [20, 21]).bind fun x240 =>
 sel (!x240)
 (some true)
 ((c72 (-3) 0).bind fun x242 =>
 sel (!(eqReach x189.1 x242 == true))
 (some true)
 (sel (x193.1 != 1)
 (some true)
 (sel (x196.1 != 0)
 (some true)
 ((c88 x198.1 [1, 2]).bind fun x247 =>
 sel (!x247)
 (some true)
 ((c88 x199.1 [1, 2]).bind fun x250 =>
 sel (!x250)
 (some true)
 (some (x200.1 != 1)))))))))) : Option Bool)).bind (fun (p221_0 : Bool) =>
 sel p221_0
 (some false)
 ((c23 x177 [2, 0, 1]).bind fun x256 =>
 (c23 x177 [2, 1, 0]).bind fun x259 =>
 (c23 x177 [0, 1, 2]).bind fun x262 =>
 (c25 x177).bind fun x264 =>
 (c27 x177).bind fun x265 =>
 (c29 x177).bind fun x266 =>
 (c25 x180).bind fun x267 =>
 (((sel (x256.2 != 0)
 (some true)
 (sel (x259.2 != 0)
 (some true)
 (sel (x262.2 != 7)
 (some true)
 (sel (x264.2 != 0)
 (some true)
 (sel (x265.2.2 != 0)
 (some true)
 (sel (x266.2.2 != 0)
 (some true)
 (some (x267.2 != 0)))))))) : Option Bool)).bind (fun (p268_0 : Bool) =>
 sel p268_0
 (some false)
 ((((sel (x256.1 != 1)
 (some true)
 (sel (x259.1 != 0)
 (some true)
 (sel (x264.1 != 1)
 (some true)
 (sel (!x265.2.1)
 (some true)
 ((c88 x265.1 [2, 0, 1]).bind fun x301 =>
 sel (!x301)
 (some true)
 ((c88 x266.1 [2, 0, 1]).bind fun x304 =>
 sel (!x304)
 (some true)
 (sel (x266.2.1 != 60)
 (some true)
 (some (x267.1 != 2))))))))) : Option Bool)).bind (fun (p284_0 : Bool) =>
 sel p284_0
 (some false)
 ((c33 x177).bind fun x310 =>
 (c40 x177 0).bind fun x311 =>
 (c40 x177 2).bind fun x312 =>
 (c35 x312.1 (⟨1, 2⟩ : HullHeel)).bind fun x314 =>
 (c60 x177 (⟨0, 1⟩ : HullHeel)).bind fun x315 =>
 (c60 x315 (⟨0, 2⟩ : HullHeel)).bind fun x316 =>
 (c31 x316).bind fun x318 =>
 (c45 21).bind fun x319 =>
 (c38 x177 0 x319).bind fun x320 =>
 (c25 x320.1).bind fun x321 =>
 sel (x310.2.2 == 0)
 (sel (x311.2 == 7)
 (sel (x312.2 == 0)
 (sel (x314.2 == 9)
 (sel (x318.2 == 0)
 (sel (x320.2 == 0)
 (sel (x321.2 == 0)
 (sel (x310.1 == 0)
 (sel (x310.2.1 == 1)
 ((c88 x318.1 [0]).bind fun x332 =>
 sel x332
 (some (x321.1 == 1))
 (some false))
 (some false))
 (some false))
 (some false))
 (some false))
 (some false))
 (some false))
 (some false))
 (some false))
 (some false)))))))))
theorem le19  : LeO (c19 ) (m19 ) := by
 unfold c19 m19
 repeat' (first | with_reducible exact LeO.refl _ | with_reducible refine LeO.loop fun _ => ?_ | with_reducible refine LeO.sel ?_ ?_ | with_reducible refine LeO.elim (fun _ => ?_) (fun _ => ?_) _ | with_reducible refine LeO.runY (fun _ _ => ?_) _ _ | with_reducible exact le20 _ | with_reducible exact le23 _ _ | with_reducible exact le25 _ | with_reducible exact le27 _ | with_reducible exact le29 _ | with_reducible exact le31 _ | with_reducible exact le33 _ | with_reducible exact le35 _ _ | with_reducible exact le38 _ _ _ | with_reducible exact le40 _ _ | with_reducible exact le43 _ _ | with_reducible exact le44 _ | with_reducible exact le45 _ | with_reducible exact le50 _ _ _ | with_reducible exact le53 _ | with_reducible exact le56 _ _ | with_reducible exact le60 _ _ | with_reducible exact le64 _ _ | with_reducible exact le71 _ _ | with_reducible exact le72 _ _ | with_reducible exact le87  | with_reducible exact le88 _ _ | with_reducible exact hy _ _ | with_reducible refine LeO.bind ?_ fun _ => ?_)
def c51 (x0 : (List Int)) : Option (List Int) :=
 (loopC (O := (List Int)) (fun (s121 : ((List Int) × Int)) =>
 sel (decide (s121.2 < (x0.length : Int)))
 ((loopC (O := Int) (fun (s191 : Int) =>
 sel (decide (s191 < (s121.1.length : Int)))
 ((idx s121.1 s191).bind fun x201 =>
 (idx x0 s121.2).bind fun x202 =>
 sel (decide (x201 < x202))
 (some (.inl (i64 (s191 + 1))))
 (some (.inr s191)))
 (some (.inr s191))) 0).bind (fun (p191_0 : Int) =>
 (((sel (p191_0 == (s121.1.length : Int))
 (some true)
 ((idx s121.1 p191_0).bind fun x209 =>
 (idx x0 s121.2).bind fun x210 =>
 some (x209 != x210))) : Option Bool)).bind (fun (p204_0 : Bool) =>
 sel p204_0
 ((cutM s121.1 0 p191_0).bind fun x213 =>
 (appM [] x213).bind fun x214 =>
 (idx x0 s121.2).bind fun x215 =>
 (appM x214 [x215]).bind fun x217 =>
 (cutM s121.1 p191_0 (s121.1.length : Int)).bind fun x218 =>
 (appM x217 x218).bind fun x219 =>
 some (.inl (x219, i64 (s121.2 + 1))))
 (some (.inl (s121.1, i64 (s121.2 + 1)))))))
 (some (.inr s121.1))) ([], 0)).bind (fun (p121_0 : (List Int)) =>
 some p121_0)
theorem le51 (x0 : (List Int)) : LeO (c51 x0) (m51 x0) := by
 unfold c51 m51
 repeat' (first | with_reducible exact LeO.refl _ | with_reducible refine LeO.loop fun _ => ?_ | with_reducible refine LeO.sel ?_ ?_ | with_reducible refine LeO.elim (fun _ => ?_) (fun _ => ?_) _ | with_reducible refine LeO.runY (fun _ _ => ?_) _ _ | with_reducible exact hy _ _ | with_reducible refine LeO.bind ?_ fun _ => ?_)
theorem righted_ok : m19 = some true := le19 _ (by decide +kernel)
end Go.Proofs.YtabamagholjdcaaGreatDoor
