/- What the functions compute. Conditions: none. -/
import Derived.Test.YtabamagholjdcaaGreatDoorQHuF
namespace Go.Proofs.YtabamagholjdcaaGreatDoor
open Go.Lg Go.Proofs
set_option maxRecDepth 100000
noncomputable def m104 (x0 : HullBook) (x1 : Cargo) (x2 : (List Bool)) : Option Int :=
 (loopM (O := Int) (fun (s51 : (Int × Int)) =>
 sel (decide (s51.2 < (x0.Pieces.length : Int)))
 ((idx x0.Pieces s51.2).bind fun x71 =>
 (idx x2 s51.2).bind fun x73 =>
 sel (!x73)
 ((idx x1.weights s51.2).bind fun x75 =>
 some (.inl (i64 (s51.1 + (i64 (x71.Arm * x75))), i64 (s51.2 + 1))))
 (some (.inl (s51.1, i64 (s51.2 + 1)))))
 (some (.inr s51.1))) (x1.ballast, 0)).bind (fun (p51_0 : Int) =>
 some p51_0)
noncomputable def m147 (x0 : Opened) (x1 : Int) : Option (List Bool × Int) :=
 (loopM (O := (List Bool)) (fun (s21 : (Int × (List Bool))) =>
 sel (decide (s21.1 < (x0.book.Pieces.length : Int)))
 ((shrM .i64 x1 s21.1).bind fun x37 =>
 (bitsI .and .i64 x37 1).bind fun x38 =>
 (idx s21.2 s21.1).bind fun _ =>
 some (.inl (i64 (s21.1 + 1), s21.2.set s21.1.toNat (x38 == 1))))
 (some (.inr s21.2))) (0, [false, false, false, false, false])).bind (fun (p21_0 : (List Bool)) =>
 (loopM (O := Int) (fun (s40 : (Int × Int)) =>
 sel (decide (s40.2 < (x0.alls.length : Int)))
 ((idx x0.alls s40.2).bind fun x56 =>
 (m104 x0.book x56 p21_0).bind fun x58 =>
 some (.inl (maxI s40.1 [x58, i64 (0 - x58)], i64 (s40.2 + 1))))
 (some (.inr s40.1))) (0, 0)).bind (fun (p40_0 : Int) =>
 some (p21_0, p40_0)))
noncomputable def m91 (x0 : Opened) : Option Tab :=
 (shlM .i64 1 (x0.book.Pieces.length : Int)).bind fun many =>
 ((List.range many.toNat).mapM (fun (i : Nat) => m147 x0 (i : Int))).bind fun l =>
 if x0.worsts = [] ∧ (l.map (·.1)).Nodup ∧ (∀ p ∈ l, p.1.length = 5) ∧ 0 ≤ many ∧ many ≤ 1048576 then some l else none
def Reckons {B : Base} {main : Bool} (𝒥 : Jd Tryz.prog B main) : Prop := ∀ {R : RMap} {H : HList} (x0 : Opened) {v0_3 v0_4 v0_5 v0_6 v0_7 : Value} {Hs : HList}, SlR CHullPiece 5 R v0_3 x0.book.Pieces → SlR (CI .i64) 1 R v0_4 x0.book.Out → SlR CHullHeel 2 R v0_5 x0.book.Heels → SlR CCargo 6 R v0_6 x0.alls → OwnM v0_7 x0.worsts Hs → ∀ {r : Tab}, m91 x0 = some r →
 FnOk 𝒥 91 #[.agg #[iv x0.book.Limit, iv x0.book.Ballast.Least, iv x0.book.Ballast.Most, v0_3, v0_4, v0_5, v0_6, v0_7]] R (Hs ++ H) fun v R' H' => ∃ Hs', (RLe R R' ∧ MapR R' v0_7 r ∧ v = .tuple #[] ∧ Hs' = []) ∧ H' = Hs' ++ H
abbrev recV (r : List Bool × Int) : Value := .agg (List.toArray ([] ++ (r.1.map Value.bool ++ [iv r.2])))
noncomputable def m18 (x0 : HullBook) : Option Bool :=
 (((sel (decide ((x0.Pieces.length : Int) > 20))
 (some true)
 (sel (decide ((x0.Out.length : Int) > 20))
 (some true)
 (some (decide ((x0.Heels.length : Int) > 20))))) : Option Bool)).bind (fun (p52_0 : Bool) =>
 sel p52_0
 (some true)
 ((loopM (O := (Unit ⊕ Bool)) (fun (s60 : Int) =>
 sel (decide (s60 < (x0.Pieces.length : Int)))
 ((idx x0.Pieces s60).bind fun x78 =>
 sel (decide ((x78.Name.size : Int) > 100))
 (some (.inr (.inr true)))
 ((idx x0.Pieces s60).bind fun x80 =>
 sel (decide ((x80.On.length : Int) > 20))
 (some (.inr (.inr true)))
 (some (.inl (i64 (s60 + 1))))))
 (some (.inr (.inl ())))) 0).bind (Sum.elim (fun (_ : Unit) =>
 some false)
  (fun q => some q))))
noncomputable def m121 (x0 : Reach) (x1 : Int) (x2 : Int) (x3 : Int) : Option Bool :=
 sel (decide (x1 ≤ x0.Least))
 (sel (decide (x0.Least ≤ x0.Most))
 (sel (decide (x0.Most ≤ x2))
 (some (decide (i64 (x0.Most - x0.Least) < x3)))
 (some false))
 (some false))
 (some false)
noncomputable def m154 (x0 : Int) (x1 : Int) (x2 : Int) : Option Bool :=
 sel (decide (x1 ≤ x0))
 (some (decide (x0 ≤ x2)))
 (some false)
noncomputable def m211 (x0 : HullBook) : Option Int :=
 (m154 x0.Limit 0 9999).bind fun x26 =>
 sel (!x26)
 (some 1)
 ((m121 x0.Ballast (-999) 999 3).bind fun x28 =>
 sel (!x28)
 (some 1)
 (some 0))
noncomputable def m132 (x0 : (List Int)) (x1 : Int) : Option Int :=
 (loopM (O := (Unit ⊕ Int)) (fun (s48 : Int) =>
 sel (decide (s48 < (x0.length : Int)))
 ((idx x0 s48).bind fun x70 =>
 (m154 x70 0 (i64 (x1 - 1))).bind fun x71 =>
 sel (!x71)
 (some (.inr (.inr 6)))
 (sel (decide (s48 > 0))
 ((idx x0 (i64 (s48 - 1))).bind fun x74 =>
 sel (decide (x70 ≤ x74))
 (some (.inr (.inr 7)))
 (some (.inl (i64 (s48 + 1)))))
 (some (.inl (i64 (s48 + 1))))))
 (some (.inr (.inl ())))) 0).bind (Sum.elim (fun (_ : Unit) =>
 some 0)
  (fun q => some q))
noncomputable def m215 (x0 : ByteArray) : Option Bool :=
 (loopM (O := (Unit ⊕ Bool)) (fun (s51 : Int) =>
 sel (decide (s51 < ((strL x0).length : Int)))
 ((idx (strL x0) s51).bind fun x73 =>
 (m154 (i64 x73) 97 122).bind fun x74 =>
 sel (!x74)
 (sel (s51 == 0)
 (some (.inr (.inr false)))
 ((m154 (i64 x73) 48 57).bind fun x77 =>
 sel (!x77)
 (some (.inr (.inr false)))
 (some (.inl (i64 (s51 + 1))))))
 (some (.inl (i64 (s51 + 1)))))
 (some (.inr (.inl ())))) 0).bind (Sum.elim (fun (_ : Unit) =>
 (m154 (x0.size : Int) 1 12).bind fun x79 =>
 some x79)
  (fun q => some q))
noncomputable def m218 (x0 : (List HullPiece)) (x1 : (HullPiece → Option Bool)) : Option Int :=
 (loopM (O := (Unit ⊕ Int)) (fun (s39 : Int) =>
 sel (decide (s39 < (x0.length : Int)))
 ((idx x0 s39).bind fun x55 =>
 (x1 x55).bind fun x56 =>
 sel x56
 (some (.inr (.inr s39)))
 (some (.inl (i64 (s39 + 1)))))
 (some (.inr (.inl ())))) 0).bind (Sum.elim (fun (_ : Unit) =>
 some (-1))
  (fun q => some q))
noncomputable def m216 (x0 : (List HullPiece)) (x1 : (HullPiece → Option Bool)) : Option Bool :=
 (m218 x0 x1).bind fun x21 =>
 some (decide (x21 ≥ 0))
noncomputable def m217 (x0 : HullPiece) (x1 : HullPiece) : Option Bool :=
 some (x0.Name.toList == x1.Name.toList)
noncomputable def m212 (x0 : HullBook) : Option Int :=
 (m154 (x0.Pieces.length : Int) 1 5).bind fun x138 =>
 sel (!x138)
 (some 2)
 ((loopM (O := (Unit ⊕ Int)) (fun (s142 : Int) =>
 sel (decide (s142 < (x0.Pieces.length : Int)))
 ((idx x0.Pieces s142).bind fun x220 =>
 (m215 x220.Name).bind fun x222 =>
 sel (!x222)
 (some (.inr (.inr 4)))
 ((cutM x0.Pieces 0 s142).bind fun x233 =>
 (m216 x233 (fun y => m217 y x220)).bind fun x234 =>
 sel x234
 (some (.inr (.inr 5)))
 (((((m154 x220.Arm (-9) 9).bind fun x246 =>
 sel (!x246)
 (some true)
 ((m121 x220.Weight 1 99 3).bind fun x248 =>
 some (!x248))) : Option Bool)).bind (fun (p242_0 : Bool) =>
 sel p242_0
 (some (.inr (.inr 1)))
 ((m132 x220.On s142).bind fun x252 =>
 sel (x252 != 0)
 (some (.inr (.inr x252)))
 (some (.inl (i64 (s142 + 1)))))))))
 (some (.inr (.inl ())))) 0).bind (Sum.elim (fun (_ : Unit) =>
 some 0)
  (fun q => some q)))
noncomputable def m93 (x0 : (List Bool)) (x1 : (List Int)) : Option (List Bool) :=
 (loopM (O := (List Bool)) (fun (s40 : (Int × (List Bool))) =>
 sel (decide (s40.1 < (x1.length : Int)))
 ((idx x1 s40.1).bind fun x54 =>
 (idx s40.2 x54).bind fun _ =>
 some (.inl (i64 (s40.1 + 1), s40.2.set x54.toNat true)))
 (some (.inr s40.2))) (0, x0)).bind (fun (p40_0 : (List Bool)) =>
 some p40_0)
noncomputable def m120 (x0 : HullBook) (x1 : Int) : Option Bool :=
 (m154 x1 0 (i64 ((x0.Pieces.length : Int) - 1))).bind fun x23 =>
 some x23
noncomputable def m171 (x0 : (List Int)) (x1 : (Int → Option Bool)) : Option Int :=
 (loopM (O := (Unit ⊕ Int)) (fun (s39 : Int) =>
 sel (decide (s39 < (x0.length : Int)))
 ((idx x0 s39).bind fun x55 =>
 (x1 x55).bind fun x56 =>
 sel x56
 (some (.inr (.inr s39)))
 (some (.inl (i64 (s39 + 1)))))
 (some (.inr (.inl ())))) 0).bind (Sum.elim (fun (_ : Unit) =>
 some (-1))
  (fun q => some q))
noncomputable def m158 (x0 : (List Int)) (x1 : (Int → Option Bool)) : Option Bool :=
 (m171 x0 x1).bind fun x21 =>
 some (decide (x21 ≥ 0))
noncomputable def m188 (x0 : (List Int)) (x1 : Int) : Option Int :=
 (loopM (O := (Unit ⊕ Int)) (fun (s36 : Int) =>
 sel (decide (s36 < (x0.length : Int)))
 ((idx x0 s36).bind fun x50 =>
 sel (x1 == x50)
 (some (.inr (.inr s36)))
 (some (.inl (i64 (s36 + 1)))))
 (some (.inr (.inl ())))) 0).bind (Sum.elim (fun (_ : Unit) =>
 some (-1))
  (fun q => some q))
noncomputable def m175 (x0 : (List Int)) (x1 : Int) : Option Bool :=
 (m188 x0 x1).bind fun x21 =>
 some (decide (x21 ≥ 0))
noncomputable def m166 (x0 : HullBook) (x1 : Int) : Option (List Int) :=
 (loopM (O := (List Int)) (fun (s51 : ((List Int) × Int)) =>
 sel (decide (s51.2 < (x0.Pieces.length : Int)))
 ((idx x0.Pieces s51.2).bind fun x73 =>
 (m175 x73.On x1).bind fun x75 =>
 sel x75
 ((appM s51.1 [s51.2]).bind fun x78 =>
 some (.inl (x78, i64 (s51.2 + 1))))
 (some (.inl (s51.1, i64 (s51.2 + 1)))))
 (some (.inr s51.1))) ([], 0)).bind (fun (p51_0 : (List Int)) =>
 some p51_0)
noncomputable def m167 (x0 : Int) (x1 : (List Bool)) : Option Bool :=
 (idx x1 x0).bind fun x21 =>
 some (!x21)
noncomputable def m149 (x0 : HullBook) (x1 : (List Bool)) (x2 : Int) : Option Bool :=
 (idx x1 x2).bind fun x28 =>
 sel (!x28)
 ((m166 x0 x2).bind fun x30 =>
 (m158 x30 (fun y => m167 y x1)).bind fun x31 =>
 some (!x31))
 (some false)
noncomputable def m99 (x0 : HullBook) (x1 : (List Bool)) (x2 : (List Int)) : Option ((List Bool) × Int) :=
 (loopM (O := ((List Bool) ⊕ ((List Bool) × Int))) (fun (s99 : (Int × (List Bool))) =>
 sel (decide (s99.1 < (x2.length : Int)))
 ((idx x2 s99.1).bind fun x151 =>
 (m120 x0 x151).bind fun x152 =>
 sel (!x152)
 (some (.inr (.inr (s99.2, 6))))
 ((idx s99.2 x151).bind fun x160 =>
 sel x160
 (some (.inr (.inr (s99.2, 5))))
 ((m149 x0 s99.2 x151).bind fun x166 =>
 sel (!x166)
 (some (.inr (.inr (s99.2, 7))))
 ((m93 s99.2 [x151]).bind fun x171 =>
 some (.inl (i64 (s99.1 + 1), x171))))))
 (some (.inr (.inl s99.2)))) (0, x1)).bind (Sum.elim (fun (p99_0 : (List Bool)) =>
 some (p99_0, 0))
  (fun q => some q))
noncomputable def m213 (x0 : HullBook) : Option Int :=
 (m99 x0 [false, false, false, false, false] x0.Out).bind fun x24 =>
 some x24.2
noncomputable def m214 (x0 : HullBook) : Option Int :=
 sel (decide ((x0.Heels.length : Int) > 4))
 (some 2)
 ((loopM (O := (Unit ⊕ Int)) (fun (s71 : Int) =>
 sel (decide (s71 < (x0.Heels.length : Int)))
 ((idx x0.Heels s71).bind fun x103 =>
 (m154 x103.After 0 (x0.Out.length : Int)).bind fun x105 =>
 sel (!x105)
 (some (.inr (.inr 6)))
 (sel (x103.Side == 0)
 (sel (x103.Side == 0)
 (some (.inl (i64 (s71 + 1))))
 (some (.inr (.inr 1))))
 (sel (x103.Side == 1)
 (sel (x103.Side == 1)
 (some (.inl (i64 (s71 + 1))))
 (some (.inr (.inr 1))))
 (sel (x103.Side == 2)
 (some (.inl (i64 (s71 + 1))))
 (some (.inr (.inr 1)))))))
 (some (.inr (.inl ())))) 0).bind (Sum.elim (fun (_ : Unit) =>
 some 0)
  (fun q => some q)))
noncomputable def m83 (x0 : HullBook) : Option Int :=
 (m211 (⟨x0.Limit, ⟨x0.Ballast.Least, x0.Ballast.Most⟩, x0.Pieces, x0.Out, x0.Heels⟩ : HullBook)).bind fun x35 =>
 sel (x35 != 0)
 (some x35)
 ((m212 (⟨x0.Limit, ⟨x0.Ballast.Least, x0.Ballast.Most⟩, x0.Pieces, x0.Out, x0.Heels⟩ : HullBook)).bind fun x38 =>
 sel (x38 != 0)
 (some x38)
 ((m213 (⟨x0.Limit, ⟨x0.Ballast.Least, x0.Ballast.Most⟩, x0.Pieces, x0.Out, x0.Heels⟩ : HullBook)).bind fun x41 =>
 sel (x41 != 0)
 (some x41)
 ((m214 (⟨x0.Limit, ⟨x0.Ballast.Least, x0.Ballast.Most⟩, x0.Pieces, x0.Out, x0.Heels⟩ : HullBook)).bind fun x44 =>
 sel (x44 != 0)
 (some x44)
 (some 0))))
noncomputable def m103 (x0 : HullBook) (x1 : Int) : Option Bool :=
 some (decide (maxI x1 [i64 (0 - x1)] > x0.Limit))
noncomputable def m174 (x0 : (List HullHeel)) (x1 : (HullHeel → Option Bool)) : Option Int :=
 (loopM (O := (Unit ⊕ Int)) (fun (s39 : Int) =>
 sel (decide (s39 < (x0.length : Int)))
 ((idx x0 s39).bind fun x55 =>
 (x1 x55).bind fun x56 =>
 sel x56
 (some (.inr (.inr s39)))
 (some (.inl (i64 (s39 + 1)))))
 (some (.inr (.inl ())))) 0).bind (Sum.elim (fun (_ : Unit) =>
 some (-1))
  (fun q => some q))
noncomputable def m162 (x0 : (List HullHeel)) (x1 : (HullHeel → Option Bool)) : Option Bool :=
 (m174 x0 x1).bind fun x21 =>
 some (decide (x21 ≥ 0))
noncomputable def m164 (x0 : Int) : Option Int :=
 sel (decide (x0 > 0))
 (some 2)
 (sel (decide (x0 < 0))
 (some 1)
 (some 0))
noncomputable def m163 (x0 : HullHeel) (x1 : Int) (x2 : Int) : Option Bool :=
 sel (x0.After == x1)
 ((m164 x2).bind fun x25 =>
 some (x0.Side != x25))
 (some false)
noncomputable def m143 (x0 : HullBook) (x1 : Cargo) : Option Bool :=
 (loopM (O := (Unit ⊕ Bool)) (fun (s64 : Int) =>
 sel (decide (s64 < i64 ((x0.Out.length : Int) + 1)))
 ((cutM x0.Out 0 s64).bind fun x95 =>
 (m93 [false, false, false, false, false] x95).bind fun x96 =>
 (m104 x0 x1 x96).bind fun x97 =>
 (m103 x0 x97).bind fun x100 =>
 sel x100
 (some (.inr (.inr false)))
 ((m162 x0.Heels (fun y => m163 y s64 x97)).bind fun x102 =>
 sel x102
 (some (.inr (.inr false)))
 (some (.inl (i64 (s64 + 1))))))
 (some (.inr (.inl ())))) 0).bind (Sum.elim (fun (_ : Unit) =>
 some true)
  (fun q => some q))
noncomputable def m157 {S : Type} (ys : Cargo → S → Option (S × Bool)) : Nat → Cargo → Int → HullBook → S → Option (S × Bool)
 | 0, _, _, _, _ => none
 | k + 1, x0, x1, x2, s0 =>
  sel (x1 == (x2.Pieces.length : Int))
  (((((m143 x2 x0).bind fun x31 =>
  sel (!x31)
  (some (s0, true))
  ((ys x0 s0).bind fun x33 =>
  some (x33.1, x33.2))) : Option (S × Bool))).bind (fun (p27_0 : (S × Bool)) =>
  some (p27_0.1, p27_0.2)))
  ((idx x2.Pieces x1).bind fun x34 =>
  (loopM (O := (S ⊕ (S × Bool))) (fun (s36 : (S × Int × (List Int))) =>
  sel (decide (s36.2.1 ≤ x34.Weight.Most))
  ((idx s36.2.2 x1).bind fun _ =>
  (m157 ys k (⟨x0.ballast, s36.2.2.set x1.toNat s36.2.1⟩ : Cargo) (i64 (x1 + 1)) x2 s36.1).bind fun x53 =>
  sel (!x53.2)
  (some (.inr (.inr (x53.1, false))))
  (some (.inl (x53.1, i64 (s36.2.1 + 1), s36.2.2.set x1.toNat s36.2.1))))
  (some (.inr (.inl s36.1)))) (s0, x34.Weight.Least, x0.weights)).bind (Sum.elim (fun (p36_0 : S) =>
  some (p36_0, true))
   (fun q => some q)))
noncomputable def m130 {S : Type} (ys : Cargo → S → Option (S × Bool)) (x0 : HullBook) (s0 : S) : Option S :=
 (loopM (O := (S ⊕ S)) (fun (s26 : (S × Int)) =>
  sel (decide (s26.2 ≤ x0.Ballast.Most))
  ((m157 ys 9 (⟨s26.2, [0, 0, 0, 0, 0]⟩ : Cargo) 0 x0 s26.1).bind fun x40 =>
  sel (!x40.2)
  (some (.inr (.inr x40.1)))
  (some (.inl (x40.1, i64 (s26.2 + 1)))))
  (some (.inr (.inl s26.1)))) (s0, x0.Ballast.Least)).bind (Sum.elim (fun (p26_0 : S) =>
  some p26_0)
   (fun q => some q))
noncomputable def m165 (x1 : (Cargo → ((List Cargo) ⊕ Empty) → Option (((List Cargo) ⊕ Empty) × Bool)) → ((List Cargo) ⊕ Empty) → Option ((List Cargo) ⊕ Empty)) : Option (List Cargo) :=
 (x1 (runY (fun (x33e : Cargo) (s33 : (List Cargo)) => (((appM s33 [x33e]).bind fun x43 =>
 some (.inl x43)) : Option ((List Cargo) ⊕ Empty)))) (.inl [])).bind (Sum.elim (fun (s33 : (List Cargo)) =>
 some s33)
  (fun (o : Empty) => o.elim))
noncomputable def m146 (x0 : (Cargo → ((List Cargo) ⊕ Empty) → Option (((List Cargo) ⊕ Empty) × Bool)) → ((List Cargo) ⊕ Empty) → Option ((List Cargo) ⊕ Empty)) : Option (List Cargo) :=
 (m165 x0).bind fun x21 =>
 some x21
noncomputable def m89 (x0 : HullBook) (x1 : (HullBook → Option Int)) : Option (Opened × Int) :=
 (m83 x0).bind fun x36 =>
 sel (x36 != 0)
 (some ((⟨⟨0, ⟨0, 0⟩, [], [], []⟩, [], nilTab⟩ : Opened), x36))
 ((x1 x0).bind fun x42 =>
 sel (x42 != 0)
 (some ((⟨⟨0, ⟨0, 0⟩, [], [], []⟩, [], nilTab⟩ : Opened), x42))
 ((m146 (fun y s => m130 y x0 s)).bind fun x46 =>
 sel ((x46.length : Int) == 0)
 (some ((⟨⟨0, ⟨0, 0⟩, [], [], []⟩, [], nilTab⟩ : Opened), 9))
 (some ((⟨⟨x0.Limit, ⟨x0.Ballast.Least, x0.Ballast.Most⟩, x0.Pieces, x0.Out, x0.Heels⟩, x46, []⟩ : Opened), 0))))
noncomputable def m90 (_ : HullBook) : Option Int :=
 some 0
noncomputable def m92 (x0 : HullBook) (x1 : (List Bool)) : Option (List Int) :=
 (loopM (O := (List Int)) (fun (s47 : ((List Int) × Int)) =>
 sel (decide (s47.2 < (x0.Pieces.length : Int)))
 ((m149 x0 x1 s47.2).bind fun x65 =>
 sel x65
 ((appM s47.1 [s47.2]).bind fun x68 =>
 some (.inl (x68, i64 (s47.2 + 1))))
 (some (.inl (s47.1, i64 (s47.2 + 1)))))
 (some (.inr s47.1))) ([], 0)).bind (fun (p47_0 : (List Int)) =>
 some p47_0)
noncomputable def m151 {S : Type} (ys : (List Bool) → S → Option (S × Bool)) (x1 : HullBook) (x2 : (List Int)) (s0 : S) : Option S :=
 (m93 [false, false, false, false, false] x1.Out).bind fun x20 =>
  (loopM (O := (S ⊕ S)) (fun (s22 : (S × Int × (List Bool))) =>
  sel (decide (s22.2.1 < (x2.length : Int)))
  ((idx x2 s22.2.1).bind fun x42 =>
  (m93 s22.2.2 [x42]).bind fun x44 =>
  (ys x44 s22.1).bind fun x45 =>
  sel (!x45.2)
  (some (.inr (.inr x45.1)))
  (some (.inl (x45.1, i64 (s22.2.1 + 1), x44))))
  (some (.inr (.inl s22.1)))) (s0, 0, x20)).bind (Sum.elim (fun (p22_0 : S) =>
  some p22_0)
   (fun q => some q))
noncomputable def m102 (x0 : HullBook) (x1 : (List Int)) : Option (HullBook × (List Int)) :=
 some (x0, x1)
noncomputable def m94 (x0 : Opened) (x1 : (List Int)) : Option Int :=
 (m102 x0.book x1).bind fun x29 =>
 (m151 (runY (fun (x30e : (List Bool)) (s30 : Int) => ((some (.inl (maxI s30 [mapGet x0.worsts x30e]))) : Option (Int ⊕ Empty)))) x29.1 x29.2 (.inl 0)).bind (Sum.elim (fun (s30 : Int) =>
 some s30)
  (fun (o : Empty) => o.elim))
noncomputable def m20 (x0 : HullBook) : Option ((List Int) × Int) :=
 (m89 x0 (fun y => m90 y)).bind fun x62 =>
 sel (x62.2 != 0)
 (some ([], x62.2))
 ((m91 x62.1).bind fun x67 =>
 (m93 [false, false, false, false, false] x0.Out).bind fun x68 =>
 (m92 x62.1.book x68).bind fun x69 =>
 (loopM (O := (List Int)) (fun (s70 : ((List Int) × Int)) =>
 sel (decide (s70.2 < (x69.length : Int)))
 ((idx x69 s70.2).bind fun x94 =>
 (m94 (⟨⟨x62.1.book.Limit, ⟨x62.1.book.Ballast.Least, x62.1.book.Ballast.Most⟩, x62.1.book.Pieces, x62.1.book.Out, x62.1.book.Heels⟩, x62.1.alls, x67⟩ : Opened) [x94]).bind fun x96 =>
 sel (decide (x96 ≤ x0.Limit))
 ((appM s70.1 [x94]).bind fun x100 =>
 some (.inl (x100, i64 (s70.2 + 1))))
 (some (.inl (s70.1, i64 (s70.2 + 1)))))
 (some (.inr s70.1))) ([], 0)).bind (fun (p70_0 : (List Int)) =>
 some (p70_0, 0)))
noncomputable def m98 (x0 : HullBook) (x1 : (List Int)) : Option Int :=
 (m93 [false, false, false, false, false] x0.Out).bind fun x30 =>
 (m99 x0 x30 x1).bind fun x31 =>
 sel (x31.2 != 0)
 (some x31.2)
 (sel (i64 ((x0.Out.length : Int) + (x1.length : Int)) != (x0.Pieces.length : Int))
 (some 2)
 (some 0))
noncomputable def m100 (x0 : Opened) (x1 : (Cargo → Option Bool)) : Option Int :=
 (loopM (O := Int) (fun (s46 : (Int × Int)) =>
 sel (decide (s46.2 < (x0.alls.length : Int)))
 ((idx x0.alls s46.2).bind fun x64 =>
 (x1 x64).bind fun x66 =>
 sel x66
 (some (.inl (i64 (s46.1 + 1), i64 (s46.2 + 1))))
 (some (.inl (s46.1, i64 (s46.2 + 1)))))
 (some (.inr s46.1))) (0, 0)).bind (fun (p46_0 : Int) =>
 sel (p46_0 == 0)
 (some 2)
 (sel (p46_0 == (x0.alls.length : Int))
 (some 1)
 (some 0)))
noncomputable def m101 (x0 : Cargo) (x1 : Opened) (x2 : (List Int)) : Option Bool :=
 (m102 x1.book x2).bind fun x34 =>
 (m151 (runY (fun (x35e : (List Bool)) (_ : Unit) => (((m104 x1.book x0 x35e).bind fun x41 =>
 (m103 x1.book x41).bind fun x42 =>
 sel x42
 (some (.inr ()))
 (some (.inl ()))) : Option (Unit ⊕ Unit)))) x34.1 x34.2 (.inl ())).bind (Sum.elim (fun (_ : Unit) =>
 some true)
  (fun (_ : Unit) =>
 some false))
noncomputable def m23 (x0 : HullBook) (x1 : (List Int)) : Option (Int × Int) :=
 (m89 x0 (fun y => m98 y x1)).bind fun x29 =>
 sel (x29.2 != 0)
 (some (0, x29.2))
 ((m100 x29.1 (fun y => m101 y x29.1 x1)).bind fun x32 =>
 some (x32, 0))
noncomputable def m125 (x0 : (List Int)) : Option (List Int) :=
 (appM [] x0).bind fun x21 =>
 some x21
noncomputable def m152 {S : Type} (ys : (List Int) → S → Option (S × Bool)) : Nat → (List Int) → (List Bool) → HullBook → S → Option (S × Bool)
 | 0, _, _, _, _ => none
 | k + 1, x0, x1, x2, s0 =>
  (m92 x2 x1).bind fun x21 =>
  sel ((x21.length : Int) == 0)
  ((ys x0 s0).bind fun x26 =>
  some (x26.1, x26.2))
  ((loopM (O := (S ⊕ (S × Bool))) (fun (s27 : (S × Int)) =>
  sel (decide (s27.2 < (x21.length : Int)))
  ((idx x21 s27.2).bind fun x57 =>
  (m125 x0).bind fun x58 =>
  (appM x58 [x57]).bind fun x60 =>
  (m93 x1 [x57]).bind fun x62 =>
  (m152 ys k x60 x62 x2 s27.1).bind fun x63 =>
  sel (!x63.2)
  (some (.inr (.inr (x63.1, false))))
  (some (.inl (x63.1, i64 (s27.2 + 1)))))
  (some (.inr (.inl s27.1)))) (s0, 0)).bind (Sum.elim (fun (p27_0 : S) =>
  some (p27_0, true))
   (fun q => some q)))
noncomputable def m108 {S : Type} (ys : (List Int) → S → Option (S × Bool)) (x0 : HullBook) (s0 : S) : Option S :=
 (m93 [false, false, false, false, false] x0.Out).bind fun x26 =>
  (m152 ys 9 [] x26 x0 s0).bind fun x27 =>
  some x27.1
noncomputable def m25 (x0 : HullBook) : Option (Int × Int) :=
 (m89 x0 (fun y => m90 y)).bind fun x48 =>
 sel (x48.2 != 0)
 (some (0, x48.2))
 ((m91 x48.1).bind fun x53 =>
 (m108 (runY (fun (x55e : (List Int)) (s55 : Int) => (((m102 x48.1.book x55e).bind fun x68 =>
 (m151 (runY (fun (x69e : (List Bool)) (_ : Unit) => ((sel (decide (mapGet x53 x69e > x0.Limit))
 (some (.inr ()))
 (some (.inl ()))) : Option (Unit ⊕ Unit)))) x68.1 x68.2 (.inl ())).bind (Sum.elim (fun (_ : Unit) =>
 some (.inl (i64 (s55 + 1))))
  (fun (_ : Unit) =>
 some (.inl s55)))) : Option (Int ⊕ Empty)))) x48.1.book (.inl 0)).bind (Sum.elim (fun (s55 : Int) =>
 some (s55, 0))
  (fun (o : Empty) => o.elim)))
noncomputable def m27 (x0 : HullBook) : Option ((List Int) × Bool × Int) :=
 (m89 x0 (fun y => m90 y)).bind fun x39 =>
 sel (x39.2 != 0)
 (some ([], false, x39.2))
 ((m91 x39.1).bind fun x44 =>
 (m108 (runY (fun (x45e : (List Int)) (_ : Unit) => (((m94 (⟨⟨x39.1.book.Limit, ⟨x39.1.book.Ballast.Least, x39.1.book.Ballast.Most⟩, x39.1.book.Pieces, x39.1.book.Out, x39.1.book.Heels⟩, x39.1.alls, x44⟩ : Opened) x45e).bind fun x48 =>
 sel (decide (x48 ≤ x0.Limit))
 (some (.inr x45e))
 (some (.inl ()))) : Option (Unit ⊕ (List Int))))) x39.1.book (.inl ())).bind (Sum.elim (fun (_ : Unit) =>
 some ([], false, 0))
  (fun (p45_0 : (List Int)) =>
 some (p45_0, true, 0))))
noncomputable def m110 (x0 : Least) (x1 : (List Int)) (x2 : Int) : Option Least :=
 (((sel (!x0.some_)
 (some true)
 (some (decide (x2 < x0.number)))) : Option Bool)).bind (fun (p24_0 : Bool) =>
 sel p24_0
 (some (⟨x1, x2, true⟩ : Least))
 (some x0))
noncomputable def m29 (x0 : HullBook) : Option ((List Int) × Int × Int) :=
 (m89 x0 (fun y => m90 y)).bind fun x36 =>
 sel (x36.2 != 0)
 (some ([], 0, x36.2))
 ((m91 x36.1).bind fun x41 =>
 (m108 (runY (fun (x43e : (List Int)) (s43 : ((List Int) × Int × Bool)) => (((m94 (⟨⟨x36.1.book.Limit, ⟨x36.1.book.Ballast.Least, x36.1.book.Ballast.Most⟩, x36.1.book.Pieces, x36.1.book.Out, x36.1.book.Heels⟩, x36.1.alls, x41⟩ : Opened) x43e).bind fun x48 =>
 (m110 (⟨s43.1, s43.2.1, s43.2.2⟩ : Least) x43e x48).bind fun x49 =>
 some (.inl (x49.thing, x49.number, x49.some_))) : Option (((List Int) × Int × Bool) ⊕ Empty)))) x36.1.book (.inl ([], 0, false))).bind (Sum.elim (fun (s43 : ((List Int) × Int × Bool)) =>
 some (s43.1, s43.2.1, 0))
  (fun (o : Empty) => o.elim)))
noncomputable def m112 (x0 : HullBook) : Option Bool :=
 (m130 (runY (fun (_ : Cargo) (_ : Unit) => ((some (.inr ())) : Option (Unit ⊕ Unit)))) x0 (.inl ())).bind (Sum.elim (fun (_ : Unit) =>
 some false)
  (fun (_ : Unit) =>
 some true))
noncomputable def m176 (x0 : Int) : Option Bool :=
 some (x0 != x0)
noncomputable def m168 (x0 : Int) (x1 : Int) : Option Int :=
 (m176 x0).bind fun x36 =>
 (m176 x1).bind fun x37 =>
 sel x36
 (sel x37
 (some 0)
 (some (-1)))
 (sel x37
 (some 1)
 (sel (decide (x0 < x1))
 (some (-1))
 (sel (decide (x0 > x1))
 (some 1)
 (some 0))))
noncomputable def m153 (x0 : (List Int)) (x1 : (List Int)) : Option Int :=
 (loopM (O := (Unit ⊕ Int)) (fun (s52 : Int) =>
 sel (decide (s52 < (x0.length : Int)))
 ((idx x0 s52).bind fun x76 =>
 sel (decide (s52 ≥ (x1.length : Int)))
 (some (.inr (.inr 1)))
 ((idx x1 s52).bind fun x80 =>
 (m168 x76 x80).bind fun x81 =>
 sel (x81 != 0)
 (some (.inr (.inr x81)))
 (some (.inl (i64 (s52 + 1))))))
 (some (.inr (.inl ())))) 0).bind (Sum.elim (fun (_ : Unit) =>
 sel (decide ((x0.length : Int) < (x1.length : Int)))
 (some (-1))
 (some 0))
  (fun q => some q))
noncomputable def m113 (x0 : (List Int)) (x1 : (List Int)) : Option Bool :=
 sel (decide ((x0.length : Int) < (x1.length : Int)))
 (some true)
 (sel ((x0.length : Int) == (x1.length : Int))
 ((m153 x0 x1).bind fun x25 =>
 some (decide (x25 < 0)))
 (some false))
noncomputable def m31 (x0 : HullBook) : Option ((List Int) × Int) :=
 (m83 x0).bind fun x204 =>
 sel (x204 != 0)
 (some ([], x204))
 ((m112 x0).bind fun x209 =>
 sel x209
 (some ([], 0))
 ((shlM .i64 1 (x0.Heels.length : Int)).bind fun x213 =>
 (loopM (O := (List (List Int))) (fun (s214 : ((List (List Int)) × Int)) =>
 sel (decide (s214.2 < x213))
 ((loopM (O := ((List Int) × (List HullHeel))) (fun (s319 : ((List Int) × Int × (List HullHeel))) =>
 sel (decide (s319.2.1 < (x0.Heels.length : Int)))
 ((idx x0.Heels s319.2.1).bind fun x349 =>
 (shrM .i64 s214.2 s319.2.1).bind fun x351 =>
 (bitsI .and .i64 x351 1).bind fun x352 =>
 sel (x352 == 1)
 ((appM s319.1 [s319.2.1]).bind fun x355 =>
 (appM s319.2.2 [x349]).bind fun x357 =>
 some (.inl (x355, i64 (s319.2.1 + 1), x357)))
 (some (.inl (s319.1, i64 (s319.2.1 + 1), s319.2.2))))
 (some (.inr (s319.1, s319.2.2)))) ([], 0, [])).bind (fun (p319_0 : ((List Int) × (List HullHeel))) =>
 (m112 (⟨x0.Limit, ⟨x0.Ballast.Least, x0.Ballast.Most⟩, x0.Pieces, x0.Out, p319_0.2⟩ : HullBook)).bind fun x359 =>
 sel (!x359)
 ((appM s214.1 [p319_0.1]).bind fun x364 =>
 some (.inl (x364, i64 (s214.2 + 1))))
 (some (.inl (s214.1, i64 (s214.2 + 1))))))
 (some (.inr s214.1))) ([], 0)).bind (fun (p214_0 : (List (List Int))) =>
 (idx p214_0 0).bind fun x365 =>
 (loopM (O := (List Int)) (fun (s366 : ((List Int) × Int)) =>
 sel (decide (s366.2 < (p214_0.length : Int)))
 ((idx p214_0 s366.2).bind fun x382 =>
 (m113 x382 s366.1).bind fun x383 =>
 sel x383
 (some (.inl (x382, i64 (s366.2 + 1))))
 (some (.inl (s366.1, i64 (s366.2 + 1)))))
 (some (.inr s366.1))) (x365, 0)).bind (fun (p366_0 : (List Int)) =>
 sel ((p366_0.length : Int) == 0)
 (some ([], 8))
 (some (p366_0, 0))))))
noncomputable def m33 (x0 : HullBook) : Option (Int × Int × Int) :=
 (m89 x0 (fun y => m90 y)).bind fun x134 =>
 sel (x134.2 != 0)
 (some (0, 0, x134.2))
 ((loopM (O := (Int × Int)) (fun (s140 : (Int × Int × (Int → Int → Int) × Int)) =>
 sel (decide (s140.2.2.2 < (x0.Pieces.length : Int)))
 ((loopM (O := ((Int → Int → Int) × Int)) (fun (s214 : ((Int → Int → Int) × Int × Int)) =>
 sel (decide (s214.2.2 < (x134.1.alls.length : Int)))
 ((idx x134.1.alls s214.2.2).bind fun x238 =>
 (idx x238.weights s140.2.2.2).bind fun x240 =>
 some (.inl (updW s214.1 s140.2.2.2 x240 (i64 ((s214.1 s140.2.2.2 x240) + 1)), maxI s214.2.1 [(updW s214.1 s140.2.2.2 x240 (i64 ((s214.1 s140.2.2.2 x240) + 1))) s140.2.2.2 x240], i64 (s214.2.2 + 1))))
 (some (.inr (s214.1, s214.2.1)))) (s140.2.2.1, 0, 0)).bind (fun (p214_0 : ((Int → Int → Int) × Int)) =>
 sel (decide (p214_0.2 < s140.2.1))
 (some (.inl (s140.2.2.2, p214_0.2, p214_0.1, i64 (s140.2.2.2 + 1))))
 (some (.inl (s140.1, s140.2.1, p214_0.1, i64 (s140.2.2.2 + 1))))))
 (some (.inr (s140.1, s140.2.1)))) ((-1), (x134.1.alls.length : Int), (fun _ _ => 0), 0)).bind (fun (p140_0 : (Int × Int)) =>
 some (p140_0.1, p140_0.2, 0)))
noncomputable def m117 (x0 : (List HullHeel)) : Option (List HullHeel) :=
 (appM [] x0).bind fun x21 =>
 some x21
noncomputable def m122 (x0 : (List HullPiece)) : Option (List HullPiece) :=
 (appM [] x0).bind fun x21 =>
 some x21
noncomputable def m118 (x0 : HullBook) : Option (HullBook × Int) :=
 (m83 x0).bind fun x66 =>
 sel (x66 != 0)
 (some ((⟨0, ⟨0, 0⟩, [], [], []⟩ : HullBook), x66))
 ((m112 (⟨x0.Limit, ⟨x0.Ballast.Least, x0.Ballast.Most⟩, x0.Pieces, x0.Out, x0.Heels⟩ : HullBook)).bind fun x70 =>
 sel (!x70)
 (some ((⟨0, ⟨0, 0⟩, [], [], []⟩ : HullBook), 9))
 ((m122 x0.Pieces).bind fun x74 =>
 (m125 x0.Out).bind fun x75 =>
 (m117 x0.Heels).bind fun x76 =>
 (loopM (O := (List HullPiece)) (fun (s77 : ((List HullPiece) × Int)) =>
 sel (decide (s77.2 < (x74.length : Int)))
 ((idx s77.1 s77.2).bind fun x99 =>
 (m125 x99.On).bind fun x101 =>
 (idx s77.1 s77.2).bind fun x102 =>
 some (.inl (s77.1.set s77.2.toNat (⟨x102.Name, x102.Arm, ⟨x102.Weight.Least, x102.Weight.Most⟩, x101⟩ : HullPiece), i64 (s77.2 + 1))))
 (some (.inr s77.1))) (x74, 0)).bind (fun (p77_0 : (List HullPiece)) =>
 some ((⟨x0.Limit, ⟨x0.Ballast.Least, x0.Ballast.Most⟩, p77_0, x75, x76⟩ : HullBook), 0))))
noncomputable def m35 (x0 : HullBook) (x1 : HullHeel) : Option (HullBook × Int) :=
 (m83 x0).bind fun x36 =>
 sel (x36 != 0)
 (some ((⟨0, ⟨0, 0⟩, [], [], []⟩ : HullBook), x36))
 ((m117 x0.Heels).bind fun x40 =>
 (appM x40 [x1]).bind fun x42 =>
 (m118 (⟨x0.Limit, ⟨x0.Ballast.Least, x0.Ballast.Most⟩, x0.Pieces, x0.Out, x42⟩ : HullBook)).bind fun x44 =>
 some (x44.1, x44.2))
noncomputable def m38 (x0 : HullBook) (x1 : Int) (x2 : Reach) : Option (HullBook × Int) :=
 (m83 x0).bind fun x51 =>
 sel (x51 != 0)
 (some ((⟨0, ⟨0, 0⟩, [], [], []⟩ : HullBook), x51))
 ((m120 (⟨x0.Limit, ⟨x0.Ballast.Least, x0.Ballast.Most⟩, x0.Pieces, x0.Out, x0.Heels⟩ : HullBook) x1).bind fun x55 =>
 sel (!x55)
 (some ((⟨0, ⟨0, 0⟩, [], [], []⟩ : HullBook), 6))
 ((m121 x2 1 99 99).bind fun x61 =>
 sel (!x61)
 (some ((⟨0, ⟨0, 0⟩, [], [], []⟩ : HullBook), 1))
 ((idx x0.Pieces x1).bind fun x65 =>
 sel (decide (maxI x65.Weight.Least [x2.Least] > minI x65.Weight.Most [x2.Most]))
 (some ((⟨0, ⟨0, 0⟩, [], [], []⟩ : HullBook), 9))
 ((m122 x0.Pieces).bind fun x71 =>
 (idx x71 x1).bind fun x72 =>
 (m118 (⟨x0.Limit, ⟨x0.Ballast.Least, x0.Ballast.Most⟩, x71.set x1.toNat (⟨x72.Name, x72.Arm, ⟨maxI x65.Weight.Least [x2.Least], minI x65.Weight.Most [x2.Most]⟩, x72.On⟩ : HullPiece), x0.Out, x0.Heels⟩ : HullBook)).bind fun x74 =>
 some (x74.1, x74.2)))))
noncomputable def m40 (x0 : HullBook) (x1 : Int) : Option (HullBook × Int) :=
 (m83 x0).bind fun x41 =>
 sel (x41 != 0)
 (some ((⟨0, ⟨0, 0⟩, [], [], []⟩ : HullBook), x41))
 ((m93 [false, false, false, false, false] x0.Out).bind fun x45 =>
 (m99 (⟨x0.Limit, ⟨x0.Ballast.Least, x0.Ballast.Most⟩, x0.Pieces, x0.Out, x0.Heels⟩ : HullBook) x45 [x1]).bind fun x47 =>
 sel (x47.2 != 0)
 (some ((⟨0, ⟨0, 0⟩, [], [], []⟩ : HullBook), x47.2))
 ((m125 x0.Out).bind fun x53 =>
 (appM x53 [x1]).bind fun x55 =>
 (m118 (⟨x0.Limit, ⟨x0.Ballast.Least, x0.Ballast.Most⟩, x0.Pieces, x55, x0.Heels⟩ : HullBook)).bind fun x56 =>
 some (x56.1, x56.2)))
noncomputable def m127 (x0 : HullBook) (x1 : Int) : Option Int :=
 (m120 x0 x1).bind fun x24 =>
 sel (!x24)
 (some 6)
 (some 0)
noncomputable def m183 (x0 : Int) (x1 : Int) : Option Bool :=
 (m176 x0).bind fun x24 =>
 sel x24
 ((m176 x1).bind fun x26 =>
 sel (!x26)
 (some true)
 (some (decide (x0 < x1))))
 (some (decide (x0 < x1)))
noncomputable def m177 (x0 : (List Int)) (x1 : Int) (x2 : Int) : Option (List Int) :=
 (loopM (O := (List Int)) (fun (s195 : ((List Int) × Int)) =>
 sel (decide (s195.2 < x2))
 ((loopM (O := (List Int)) (fun (s315 : ((List Int) × Int)) =>
 (((sel (decide (s315.2 > x1))
 ((idx s315.1 s315.2).bind fun x358 =>
 (idx s315.1 (i64 (s315.2 - 1))).bind fun x359 =>
 (m183 x358 x359).bind fun x360 =>
 some x360)
 (some false)) : Option Bool)).bind (fun (p352_0 : Bool) =>
 sel p352_0
 ((idx s315.1 (i64 (s315.2 - 1))).bind fun x364 =>
 (idx s315.1 s315.2).bind fun x365 =>
 (idx s315.1 s315.2).bind fun _ =>
 (idx (s315.1.set s315.2.toNat x364) (i64 (s315.2 - 1))).bind fun _ =>
 some (.inl ((s315.1.set s315.2.toNat x364).set (i64 (s315.2 - 1)).toNat x365, i64 (s315.2 - 1))))
 (some (.inr s315.1)))) (s195.1, s195.2)).bind (fun (p315_0 : (List Int)) =>
 some (.inl (p315_0, i64 (s195.2 + 1)))))
 (some (.inr s195.1))) (x0, i64 (x1 + 1))).bind (fun (p195_0 : (List Int)) =>
 some p195_0)
noncomputable def m187 (x0 : Int) : Option Int :=
 (((sel (decide (x0 ≥ 4294967296))
 ((shrM .u64 x0 32).bind fun x40 =>
 some (x40, 32))
 (some (x0, 0))) : Option (Int × Int))).bind (fun (p36_0 : (Int × Int)) =>
 (((sel (decide (p36_0.1 ≥ 65536))
 ((shrM .u64 p36_0.1 16).bind fun x45 =>
 some (x45, i64 (p36_0.2 + 16)))
 (some (p36_0.1, p36_0.2))) : Option (Int × Int))).bind (fun (p41_0 : (Int × Int)) =>
 (((sel (decide (p41_0.1 ≥ 256))
 ((shrM .u64 p41_0.1 8).bind fun x50 =>
 some (x50, i64 (p41_0.2 + 8)))
 (some (p41_0.1, p41_0.2))) : Option (Int × Int))).bind (fun (p46_0 : (Int × Int)) =>
 (strAt (⟨#[0, 1, 2, 2, 3, 3, 3, 3, 4, 4, 4, 4, 4, 4, 4, 4, 5, 5, 5, 5, 5, 5, 5, 5, 5, 5, 5, 5, 5, 5, 5, 5, 6, 6, 6, 6, 6, 6, 6, 6, 6, 6, 6, 6, 6, 6, 6, 6, 6, 6, 6, 6, 6, 6, 6, 6, 6, 6, 6, 6, 6, 6, 6, 6, 7, 7, 7, 7, 7, 7, 7, 7, 7, 7, 7, 7, 7, 7, 7, 7, 7, 7, 7, 7, 7, 7, 7, 7, 7, 7, 7, 7, 7, 7, 7, 7, 7, 7, 7, 7, 7, 7, 7, 7, 7, 7, 7, 7, 7, 7, 7, 7, 7, 7, 7, 7, 7, 7, 7, 7, 7, 7, 7, 7, 7, 7, 7, 7, 8, 8, 8, 8, 8, 8, 8, 8, 8, 8, 8, 8, 8, 8, 8, 8, 8, 8, 8, 8, 8, 8, 8, 8, 8, 8, 8, 8, 8, 8, 8, 8, 8, 8, 8, 8, 8, 8, 8, 8, 8, 8, 8, 8, 8, 8, 8, 8, 8, 8, 8, 8, 8, 8, 8, 8, 8, 8, 8, 8, 8, 8, 8, 8, 8, 8, 8, 8, 8, 8, 8, 8, 8, 8, 8, 8, 8, 8, 8, 8, 8, 8, 8, 8, 8, 8, 8, 8, 8, 8, 8, 8, 8, 8, 8, 8, 8, 8, 8, 8, 8, 8, 8, 8, 8, 8, 8, 8, 8, 8, 8, 8, 8, 8, 8, 8, 8, 8, 8, 8, 8, 8, 8, 8, 8, 8, 8, 8]⟩) (IntKind.wrap .u8 p46_0.1)).bind fun x51 =>
 some (i64 (p46_0.2 + (i64 x51))))))
noncomputable def m170 (x0 : Int) : Option Int :=
 (m187 x0).bind fun x21 =>
 some x21
noncomputable def m169 (x0 : (List Int)) (x1 : Int) (x2 : Int) (_ : Int) : Option (List Int) :=
 (loopM (O := (List Int)) (fun (_ : Unit) =>
 sel (decide (i64 (x2 - x1) ≤ 12))
 ((m177 x0 x1 x2).bind fun x41 =>
 some (.inr x41))
 (none)) ()).bind (fun q => some q)
noncomputable def m155 (x0 : (List Int)) : Option (List Int) :=
 (m170 (IntKind.wrap .u64 (x0.length : Int))).bind fun x22 =>
 (m169 x0 0 (x0.length : Int) x22).bind fun x23 =>
 some x23
noncomputable def m156 (x0 : (List Int)) : Option (List Int) :=
 sel (decide ((x0.length : Int) < 2))
 (some x0)
 ((loopM (O := Unit) (fun (s45 : Int) =>
 sel (decide (s45 < (x0.length : Int)))
 ((idx x0 s45).bind fun x61 =>
 (idx x0 (i64 (s45 - 1))).bind fun x62 =>
 sel (x61 == x62)
 (none)
 (some (.inl (i64 (s45 + 1)))))
 (some (.inr ()))) 1).bind (fun (_ : Unit) =>
 some x0))
noncomputable def m128 (x0 : Opened) (x1 : (Cargo → Option Int)) : Option (List Int) :=
 (loopM (O := (List Int)) (fun (s50 : ((List Int) × Int)) =>
 sel (decide (s50.2 < (x0.alls.length : Int)))
 ((idx x0.alls s50.2).bind fun x70 =>
 (x1 x70).bind fun x72 =>
 (appM s50.1 [x72]).bind fun x74 =>
 some (.inl (x74, i64 (s50.2 + 1))))
 (some (.inr s50.1))) ([], 0)).bind (fun (p50_0 : (List Int)) =>
 (m155 p50_0).bind fun x75 =>
 (m156 x75).bind fun x76 =>
 some x76)
noncomputable def m129 (x0 : Cargo) (x1 : Int) : Option Int :=
 (idx x0.weights x1).bind fun x23 =>
 some x23
noncomputable def m43 (x0 : HullBook) (x1 : Int) : Option ((List Int) × Int) :=
 (m89 x0 (fun y => m127 y x1)).bind fun x29 =>
 sel (x29.2 != 0)
 (some ([], x29.2))
 ((m128 x29.1 (fun y => m129 y x1)).bind fun x32 =>
 some (x32, 0))
noncomputable def m44 (x0 : HullBook) : Option (Int × Int) :=
 (m83 x0).bind fun x28 =>
 sel (x28 != 0)
 (some (0, x28))
 ((m130 (runY (fun (_ : Cargo) (s33 : Int) => ((some (.inl (i64 (s33 + 1)))) : Option (Int ⊕ Empty)))) (⟨x0.Limit, ⟨x0.Ballast.Least, x0.Ballast.Most⟩, x0.Pieces, x0.Out, x0.Heels⟩ : HullBook) (.inl 0)).bind (Sum.elim (fun (s33 : Int) =>
 some (s33, 0))
  (fun (o : Empty) => o.elim)))
noncomputable def m72 (x0 : Int) (x1 : Int) : Option Reach :=
 some (⟨x0, x1⟩ : Reach)
noncomputable def m45 (x0 : Int) : Option Reach :=
 (m72 x0 x0).bind fun x23 =>
 some x23
noncomputable def m159 (x0 : Int) : Option Bool :=
 (m154 x0 0 99).bind fun x21 =>
 some (!x21)
noncomputable def m131 (x0 : HullBook) (x1 : HullCase) : Option (Cargo × Int) :=
 (m154 x1.Ballast (-999) 999).bind fun x44 =>
 sel (!x44)
 (some ((⟨0, [0, 0, 0, 0, 0]⟩ : Cargo), 1))
 (sel ((x1.Weights.length : Int) != (x0.Pieces.length : Int))
 (some ((⟨0, [0, 0, 0, 0, 0]⟩ : Cargo), 2))
 ((m158 x1.Weights (fun y => m159 y)).bind fun x56 =>
 sel x56
 (some ((⟨0, [0, 0, 0, 0, 0]⟩ : Cargo), 1))
 (some ((⟨x1.Ballast, copyL [0, 0, 0, 0, 0] x1.Weights⟩ : Cargo), 0))))
noncomputable def m50 (x0 : HullBook) (x1 : HullCase) (x2 : (List Int)) : Option (Int × Int) :=
 (m83 x0).bind fun x40 =>
 sel (x40 != 0)
 (some (0, x40))
 ((m131 x0 x1).bind fun x45 =>
 sel (x45.2 != 0)
 (some (0, x45.2))
 ((m132 x2 (x0.Pieces.length : Int)).bind fun x50 =>
 sel (x50 != 0)
 (some (0, x50))
 ((m93 [false, false, false, false, false] x2).bind fun x54 =>
 (m104 x0 x45.1 x54).bind fun x55 =>
 some (x55, 0))))
noncomputable def m53 (x0 : HullBook) : Option ((List Int) × Int) :=
 (m83 x0).bind fun x28 =>
 sel (x28 != 0)
 (some ([], x28))
 ((m93 [false, false, false, false, false] x0.Out).bind fun x32 =>
 (m92 (⟨x0.Limit, ⟨x0.Ballast.Least, x0.Ballast.Most⟩, x0.Pieces, x0.Out, x0.Heels⟩ : HullBook) x32).bind fun x33 =>
 some (x33, 0))
noncomputable def m160 (x0 : HullBook) (x1 : (List Int)) : Option Int :=
 (m132 x1 (x0.Pieces.length : Int)).bind fun x23 =>
 some x23
noncomputable def m133 (x0 : (List Int)) : Option (List Int) :=
 some x0
noncomputable def m134 (x0 : Cargo) (x1 : Opened) (x2 : (List Int)) : Option Bool :=
 (m93 [false, false, false, false, false] x2).bind fun x25 =>
 (m104 x1.book x0 x25).bind fun x26 =>
 (m103 x1.book x26).bind fun x27 =>
 some x27
noncomputable def m56 (x0 : HullBook) (x1 : (List Int)) : Option (Int × Int) :=
 (m133 x1).bind fun x31 =>
 (m89 x0 (fun y => m160 y x31)).bind fun x32 =>
 sel (x32.2 != 0)
 (some (0, x32.2))
 ((m100 x32.1 (fun y => m134 y x32.1 x1)).bind fun x36 =>
 some (x36, 0))
noncomputable def m60 (x0 : HullBook) (x1 : HullHeel) : Option HullBook :=
 (appM [] x0.Heels).bind fun x33 =>
 (appM x33 [x1]).bind fun x35 =>
 some (⟨x0.Limit, ⟨x0.Ballast.Least, x0.Ballast.Most⟩, x0.Pieces, x0.Out, x35⟩ : HullBook)
noncomputable def m64 (x0 : HullBook) (x1 : Int) : Option HullBook :=
 (appM [] x0.Out).bind fun x30 =>
 (appM x30 [x1]).bind fun x32 =>
 some (⟨x0.Limit, ⟨x0.Ballast.Least, x0.Ballast.Most⟩, x0.Pieces, x32, x0.Heels⟩ : HullBook)
noncomputable def m137 (x0 : Cargo) (x1 : Opened) (x2 : (List Int)) : Option Int :=
 (m93 [false, false, false, false, false] x2).bind fun x24 =>
 (m104 x1.book x0 x24).bind fun x25 =>
 some x25
noncomputable def m71 (x0 : HullBook) (x1 : (List Int)) : Option (Reach × Int) :=
 (m133 x1).bind fun x37 =>
 (m89 x0 (fun y => m160 y x37)).bind fun x38 =>
 sel (x38.2 != 0)
 (some ((⟨0, 0⟩ : Reach), x38.2))
 ((m128 x38.1 (fun y => m137 y x38.1 x1)).bind fun x44 =>
 (idx x44 0).bind fun x46 =>
 (idx x44 (i64 ((x44.length : Int) - 1))).bind fun x47 =>
 some ((⟨x46, x47⟩ : Reach), 0))
noncomputable def m87  : Option HullBook :=
 (m72 20 21).bind fun x29 =>
 (m45 30).bind fun x30 =>
 (m45 10).bind fun x31 =>
 some (⟨62, ⟨0, 0⟩, [(⟨⟨#[103, 117, 110]⟩, (-3), ⟨x29.Least, x29.Most⟩, []⟩ : HullPiece), (⟨⟨#[99, 104, 101, 115, 116]⟩, 2, ⟨x30.Least, x30.Most⟩, []⟩ : HullPiece), (⟨⟨#[97, 110, 99, 104, 111, 114]⟩, 1, ⟨x31.Least, x31.Most⟩, [0]⟩ : HullPiece)], [], []⟩ : HullBook)
noncomputable def m55 (x0 : (List Int)) (x1 : (List Int)) : Option Bool :=
 (loopM (O := (Unit ⊕ Bool)) (fun (s69 : Int) =>
 sel (decide (s69 < (x1.length : Int)))
 ((((sel (decide (s69 ≥ (x0.length : Int)))
 (some true)
 ((idx x0 s69).bind fun x110 =>
 (idx x1 s69).bind fun x111 =>
 some (decide (x110 < x111)))) : Option Bool)).bind (fun (p105_0 : Bool) =>
 sel p105_0
 (some (.inr (.inr true)))
 ((idx x0 s69).bind fun x115 =>
 (idx x1 s69).bind fun x116 =>
 sel (decide (x115 > x116))
 (some (.inr (.inr false)))
 (some (.inl (i64 (s69 + 1)))))))
 (some (.inr (.inl ())))) 0).bind (Sum.elim (fun (_ : Unit) =>
 some false)
  (fun q => some q))
noncomputable def m22 (x0 : (List Int)) (x1 : (List Int)) : Option Bool :=
 (m55 x0 x1).bind fun x23 =>
 sel (!x23)
 ((m55 x1 x0).bind fun x25 =>
 some (!x25))
 (some false)
noncomputable def m88 (x0 : (List Int)) (x1 : (List Int)) : Option Bool :=
 (m22 x0 x1).bind fun x21 =>
 some x21
noncomputable def m19  : Option Bool :=
 (m87).bind fun x177 =>
 (m64 x177 2).bind fun x179 =>
 (m60 x179 (⟨1, 0⟩ : HullHeel)).bind fun x180 =>
 (m50 x177 (⟨0, [21, 30, 10]⟩ : HullCase) [1]).bind fun x184 =>
 (m44 x177).bind fun x186 =>
 (m43 x177 0).bind fun x187 =>
 (m71 x177 [2]).bind fun x189 =>
 (m56 x177 [0]).bind fun x193 =>
 (m56 x177 [1, 2]).bind fun x196 =>
 (m53 x177).bind fun x198 =>
 (m20 x177).bind fun x199 =>
 (m44 x180).bind fun x200 =>
 (((sel (x184.2 != 0)
 (some true)
 (sel (x186.2 != 0)
 (some true)
 (sel (x187.2 != 0)
 (some true)
 (sel (x189.2 != 0)
 (some true)
 (sel (x193.2 != 0)
 (some true)
 (sel (x196.2 != 0)
 (some true)
 (sel (x198.2 != 0)
 (some true)
 (sel (x199.2 != 0)
 (some true)
 (some (x200.2 != 0)))))))))) : Option Bool)).bind (fun (p201_0 : Bool) =>
 sel p201_0
 (some false)
 ((((sel (x184.1 != (-53))
 (some true)
 (sel (x186.1 != 2)
 (some true)
 ((m88 x187.1 [20, 21]).bind fun x240 =>
 sel (!x240)
 (some true)
 ((m72 (-3) 0).bind fun x242 =>
 sel (!(eqReach x189.1 x242 == true))
 (some true)
 (sel (x193.1 != 1)
 (some true)
 (sel (x196.1 != 0)
 (some true)
 ((m88 x198.1 [1, 2]).bind fun x247 =>
 sel (!x247)
 (some true)
 ((m88 x199.1 [1, 2]).bind fun x250 =>
 sel (!x250)
 (some true)
 (some (x200.1 != 1)))))))))) : Option Bool)).bind (fun (p221_0 : Bool) =>
 sel p221_0
 (some false)
 ((m23 x177 [2, 0, 1]).bind fun x256 =>
 (m23 x177 [2, 1, 0]).bind fun x259 =>
 (m23 x177 [0, 1, 2]).bind fun x262 =>
 (m25 x177).bind fun x264 =>
 (m27 x177).bind fun x265 =>
 (m29 x177).bind fun x266 =>
 (m25 x180).bind fun x267 =>
 (((sel (x256.2 != 0)
 (some true)
 (sel (x259.2 != 0)
 (some true)
 (sel (x262.2 != 7)
 (some true)
 (sel (x264.2 != 0)
 (some true)
 (sel (x265.2.2 != 0)
 (some true)
 (sel (x266.2.2 != 0)
 (some true)
 (some (x267.2 != 0)))))))) : Option Bool)).bind (fun (p268_0 : Bool) =>
 sel p268_0
 (some false)
 ((((sel (x256.1 != 1)
 (some true)
 (sel (x259.1 != 0)
 (some true)
 (sel (x264.1 != 1)
 (some true)
 (sel (!x265.2.1)
 (some true)
 ((m88 x265.1 [2, 0, 1]).bind fun x301 =>
 sel (!x301)
 (some true)
 ((m88 x266.1 [2, 0, 1]).bind fun x304 =>
 sel (!x304)
 (some true)
 (sel (x266.2.1 != 60)
 (some true)
 (some (x267.1 != 2))))))))) : Option Bool)).bind (fun (p284_0 : Bool) =>
 sel p284_0
 (some false)
 ((m33 x177).bind fun x310 =>
 (m40 x177 0).bind fun x311 =>
 (m40 x177 2).bind fun x312 =>
 (m35 x312.1 (⟨1, 2⟩ : HullHeel)).bind fun x314 =>
 (m60 x177 (⟨0, 1⟩ : HullHeel)).bind fun x315 =>
 (m60 x315 (⟨0, 2⟩ : HullHeel)).bind fun x316 =>
 (m31 x316).bind fun x318 =>
 (m45 21).bind fun x319 =>
 (m38 x177 0 x319).bind fun x320 =>
 (m25 x320.1).bind fun x321 =>
 sel (x310.2.2 == 0)
 (sel (x311.2 == 7)
 (sel (x312.2 == 0)
 (sel (x314.2 == 9)
 (sel (x318.2 == 0)
 (sel (x320.2 == 0)
 (sel (x321.2 == 0)
 (sel (x310.1 == 0)
 (sel (x310.2.1 == 1)
 ((m88 x318.1 [0]).bind fun x332 =>
 sel x332
 (some (x321.1 == 1))
 (some false))
 (some false))
 (some false))
 (some false))
 (some false))
 (some false))
 (some false))
 (some false))
 (some false))
 (some false)))))))))
noncomputable def m58 (x0 : Int) (x1 : Int) (x2 : Int) : Option Bool :=
 sel (decide (x1 ≤ x0))
 (some (decide (x0 ≤ x2)))
 (some false)
noncomputable def m124 (x0 : Reach) (x1 : Int) (x2 : Int) : Option Bool :=
 sel (decide (x1 ≤ x0.Least))
 (sel (decide (x0.Least ≤ x0.Most))
 (some (decide (x0.Most ≤ x2)))
 (some false))
 (some false)
noncomputable def m47 (x0 : (List Int)) (x1 : Int) : Option Bool :=
 (loopM (O := (Unit ⊕ Bool)) (fun (s36 : Int) =>
 sel (decide (s36 < (x0.length : Int)))
 ((idx x0 s36).bind fun x50 =>
 sel (x50 == x1)
 (some (.inr (.inr true)))
 (some (.inl (i64 (s36 + 1)))))
 (some (.inr (.inl ())))) 0).bind (Sum.elim (fun (_ : Unit) =>
 some false)
  (fun q => some q))
noncomputable def m123 (x0 : HullBook) (x1 : Int) : Option Bool :=
 (m58 x1 0 (i64 ((x0.Pieces.length : Int) - 1))).bind fun x23 =>
 some x23
noncomputable def m150 (x0 : HullBook) (x1 : (List Int)) (x2 : Int) : Option Bool :=
 (m47 x1 x2).bind fun x51 =>
 sel x51
 (some false)
 ((loopM (O := (Unit ⊕ Bool)) (fun (s55 : Int) =>
 sel (decide (s55 < (x0.Pieces.length : Int)))
 ((m47 x1 s55).bind fun x75 =>
 sel (!x75)
 ((idx x0.Pieces s55).bind fun x77 =>
 (m47 x77.On x2).bind fun x78 =>
 sel x78
 (some (.inr (.inr false)))
 (some (.inl (i64 (s55 + 1)))))
 (some (.inl (i64 (s55 + 1)))))
 (some (.inr (.inl ())))) 0).bind (Sum.elim (fun (_ : Unit) =>
 some true)
  (fun q => some q)))
noncomputable def m126 (x0 : HullBook) (x1 : (List Int)) (x2 : (List Int)) : Option Int :=
 (appM [] x1).bind fun x89 =>
 (loopM (O := (Unit ⊕ Int)) (fun (s90 : ((List Int) × Int)) =>
 sel (decide (s90.2 < (x2.length : Int)))
 ((idx x2 s90.2).bind fun x136 =>
 (m123 x0 x136).bind fun x137 =>
 sel (!x137)
 (some (.inr (.inr 6)))
 ((idx x2 s90.2).bind fun x141 =>
 (m47 s90.1 x141).bind fun x142 =>
 sel x142
 (some (.inr (.inr 5)))
 ((idx x2 s90.2).bind fun x146 =>
 (m150 x0 s90.1 x146).bind fun x147 =>
 sel (!x147)
 (some (.inr (.inr 7)))
 ((idx x2 s90.2).bind fun x151 =>
 (appM s90.1 [x151]).bind fun x153 =>
 some (.inl (x153, i64 (s90.2 + 1)))))))
 (some (.inr (.inl ())))) (x89, 0)).bind (Sum.elim (fun (_ : Unit) =>
 some 0)
  (fun q => some q))
noncomputable def m66 (x0 : (List Int)) (x1 : Int) : Option Int :=
 (loopM (O := (Unit ⊕ Int)) (fun (s57 : Int) =>
 sel (decide (s57 < (x0.length : Int)))
 ((idx x0 s57).bind fun x85 =>
 (m58 x85 0 (i64 (x1 - 1))).bind fun x86 =>
 sel (!x86)
 (some (.inr (.inr 6)))
 (sel (decide (s57 > 0))
 ((idx x0 s57).bind fun x91 =>
 (idx x0 (i64 (s57 - 1))).bind fun x92 =>
 sel (decide (x91 ≤ x92))
 (some (.inr (.inr 7)))
 (some (.inl (i64 (s57 + 1)))))
 (some (.inl (i64 (s57 + 1))))))
 (some (.inr (.inl ())))) 0).bind (Sum.elim (fun (_ : Unit) =>
 some 0)
  (fun q => some q))
noncomputable def m172 (x0 : Int) : Option Bool :=
 (m58 (i64 x0) 97 122).bind fun x21 =>
 some x21
noncomputable def m173 (x0 : Int) : Option Bool :=
 (m58 (i64 x0) 48 57).bind fun x21 =>
 some x21
noncomputable def m161 (x0 : ByteArray) : Option Bool :=
 ((((m58 (x0.size : Int) 1 12).bind fun x65 =>
 sel (!x65)
 (some true)
 ((strAt x0 0).bind fun x67 =>
 (m172 x67).bind fun x68 =>
 some (!x68))) : Option Bool)).bind (fun (p60_0 : Bool) =>
 sel p60_0
 (some false)
 ((loopM (O := (Unit ⊕ Bool)) (fun (s72 : Int) =>
 sel (decide (s72 < (x0.size : Int)))
 ((strAt x0 s72).bind fun x94 =>
 (m172 x94).bind fun x95 =>
 sel (!x95)
 ((strAt x0 s72).bind fun x97 =>
 (m173 x97).bind fun x98 =>
 sel (!x98)
 (some (.inr (.inr false)))
 (some (.inl (i64 (s72 + 1)))))
 (some (.inl (i64 (s72 + 1)))))
 (some (.inr (.inl ())))) 1).bind (Sum.elim (fun (_ : Unit) =>
 some true)
  (fun q => some q))))
noncomputable def m135 (x0 : HullBook) : Option Int :=
 (m58 (x0.Pieces.length : Int) 1 5).bind fun x144 =>
 sel (!x144)
 (some 2)
 ((loopM (O := (Unit ⊕ Int)) (fun (s148 : Int) =>
 sel (decide (s148 < (x0.Pieces.length : Int)))
 ((idx x0.Pieces s148).bind fun x230 =>
 (m161 x230.Name).bind fun x232 =>
 sel (!x232)
 (some (.inr (.inr 4)))
 ((loopM (O := (Unit ⊕ Int)) (fun (s236 : Int) =>
 sel (decide (s236 < s148))
 ((idx x0.Pieces s236).bind fun x250 =>
 sel (x250.Name.toList == x230.Name.toList)
 (some (.inr (.inr 5)))
 (some (.inl (i64 (s236 + 1)))))
 (some (.inr (.inl ())))) 0).bind (Sum.elim (fun (_ : Unit) =>
 ((((m58 x230.Arm (-9) 9).bind fun x257 =>
 sel (!x257)
 (some true)
 ((m124 x230.Weight 1 99).bind fun x259 =>
 sel (!x259)
 (some true)
 (some (decide (i64 (x230.Weight.Most - x230.Weight.Least) ≥ 3))))) : Option Bool)).bind (fun (p252_0 : Bool) =>
 sel p252_0
 (some (.inr (.inr 1)))
 ((m66 x230.On s148).bind fun x264 =>
 sel (x264 != 0)
 (some (.inr (.inr x264)))
 (some (.inl (i64 (s148 + 1)))))))
  (fun q => some (.inr (.inr q))))))
 (some (.inr (.inl ())))) 0).bind (Sum.elim (fun (_ : Unit) =>
 some 0)
  (fun q => some q)))
noncomputable def m61 (x0 : HullBook) : Option Int :=
 ((((m58 x0.Limit 0 9999).bind fun x84 =>
 sel (!x84)
 (some true)
 ((m124 x0.Ballast (-999) 999).bind fun x86 =>
 sel (!x86)
 (some true)
 (some (decide (i64 (x0.Ballast.Most - x0.Ballast.Least) ≥ 3))))) : Option Bool)).bind (fun (p79_0 : Bool) =>
 sel p79_0
 (some 1)
 ((m135 x0).bind fun x91 =>
 sel (x91 != 0)
 (some x91)
 ((m126 x0 [] x0.Out).bind fun x95 =>
 sel (x95 != 0)
 (some x95)
 (sel (decide ((x0.Heels.length : Int) > 4))
 (some 2)
 ((loopM (O := (Unit ⊕ Int)) (fun (s102 : Int) =>
 sel (decide (s102 < (x0.Heels.length : Int)))
 ((idx x0.Heels s102).bind fun x128 =>
 (m58 x128.After 0 (x0.Out.length : Int)).bind fun x129 =>
 sel (!x129)
 (some (.inr (.inr 6)))
 ((idx x0.Heels s102).bind fun x133 =>
 (m58 x133.Side 0 2).bind fun x134 =>
 sel (!x134)
 (some (.inr (.inr 1)))
 (some (.inl (i64 (s102 + 1))))))
 (some (.inr (.inl ())))) 0).bind (Sum.elim (fun (_ : Unit) =>
 some 0)
  (fun q => some q)))))))
noncomputable def m96 (x0 : HullBook) (x1 : (List Int)) : Option (List Int) :=
 (loopM (O := (List Int)) (fun (s45 : ((List Int) × Int)) =>
 sel (decide (s45.2 < (x0.Pieces.length : Int)))
 ((m150 x0 x1 s45.2).bind fun x63 =>
 sel x63
 ((appM s45.1 [s45.2]).bind fun x66 =>
 some (.inl (x66, i64 (s45.2 + 1))))
 (some (.inl (s45.1, i64 (s45.2 + 1)))))
 (some (.inr s45.1))) ([], 0)).bind (fun (p45_0 : (List Int)) =>
 some p45_0)
noncomputable def m105 (x0 : HullBook) (x1 : (List Int)) : Option Int :=
 (m126 x0 x0.Out x1).bind fun x27 =>
 sel (x27 != 0)
 (some x27)
 (sel (i64 ((x0.Out.length : Int) + (x1.length : Int)) != (x0.Pieces.length : Int))
 (some 2)
 (some 0))
noncomputable def m37 (x0 : HullBook) (x1 : HullBook) : Option Bool :=
 (((sel (x0.Limit != x1.Limit)
 (some true)
 (sel (!(eqReach x0.Ballast x1.Ballast == true))
 (some true)
 (sel ((x0.Pieces.length : Int) != (x1.Pieces.length : Int))
 (some true)
 (sel ((x0.Heels.length : Int) != (x1.Heels.length : Int))
 (some true)
 ((m22 x0.Out x1.Out).bind fun x107 =>
 some (!x107)))))) : Option Bool)).bind (fun (p97_0 : Bool) =>
 sel p97_0
 (some false)
 ((loopM (O := (Unit ⊕ Bool)) (fun (s111 : Int) =>
 sel (decide (s111 < (x0.Pieces.length : Int)))
 ((idx x0.Pieces s111).bind fun x141 =>
 (idx x1.Pieces s111).bind fun x142 =>
 sel (!(x141.Name.toList == x142.Name.toList))
 (some (.inr (.inr false)))
 (sel (x141.Arm != x142.Arm)
 (some (.inr (.inr false)))
 (sel (!(eqReach x141.Weight x142.Weight == true))
 (some (.inr (.inr false)))
 ((m22 x141.On x142.On).bind fun x149 =>
 sel (!x149)
 (some (.inr (.inr false)))
 (some (.inl (i64 (s111 + 1))))))))
 (some (.inr (.inl ())))) 0).bind (Sum.elim (fun (p111_0 : Unit) =>
 (loopM (O := (Unit ⊕ Bool)) (fun (s151 : Int) =>
 sel (decide (s151 < (x0.Heels.length : Int)))
 ((idx x0.Heels s151).bind fun x167 =>
 (idx x1.Heels s151).bind fun x168 =>
 sel (!(eqHullHeel x167 x168 == true))
 (some (.inr (.inr false)))
 (some (.inl (i64 (s151 + 1)))))
 (some (.inr (.inl ())))) 0).bind (Sum.elim (fun (p151_0 : Unit) =>
 some true)
  (fun q => some q)))
  (fun q => some q))))
noncomputable def m42 (x0 : HullBook) : Option Bool :=
 (m18 x0).bind fun x25 =>
 sel (!x25)
 ((m61 x0).bind fun x27 =>
 some (x27 == 0))
 (some false)
noncomputable def m48 (x0 : (List Int)) (x1 : Int) : Option Int :=
 sel (decide (x1 < (x0.length : Int)))
 ((idx x0 x1).bind fun x23 =>
 some (i64 x23))
 (some 0)
noncomputable def m51 (x0 : (List Int)) : Option (List Int) :=
 (loopM (O := (List Int)) (fun (s121 : ((List Int) × Int)) =>
 sel (decide (s121.2 < (x0.length : Int)))
 ((loopM (O := Int) (fun (s191 : Int) =>
 sel (decide (s191 < (s121.1.length : Int)))
 ((idx s121.1 s191).bind fun x201 =>
 (idx x0 s121.2).bind fun x202 =>
 sel (decide (x201 < x202))
 (some (.inl (i64 (s191 + 1))))
 (some (.inr s191)))
 (some (.inr s191))) 0).bind (fun (p191_0 : Int) =>
 (((sel (p191_0 == (s121.1.length : Int))
 (some true)
 ((idx s121.1 p191_0).bind fun x209 =>
 (idx x0 s121.2).bind fun x210 =>
 some (x209 != x210))) : Option Bool)).bind (fun (p204_0 : Bool) =>
 sel p204_0
 ((cutM s121.1 0 p191_0).bind fun x213 =>
 (appM [] x213).bind fun x214 =>
 (idx x0 s121.2).bind fun x215 =>
 (appM x214 [x215]).bind fun x217 =>
 (cutM s121.1 p191_0 (s121.1.length : Int)).bind fun x218 =>
 (appM x217 x218).bind fun x219 =>
 some (.inl (x219, i64 (s121.2 + 1))))
 (some (.inl (s121.1, i64 (s121.2 + 1)))))))
 (some (.inr s121.1))) ([], 0)).bind (fun (p121_0 : (List Int)) =>
 some p121_0)
noncomputable def m54 (x0 : HullBook) (x1 : (List Int)) : Option (List Int) :=
 (appM [] x0.Out).bind fun x73 =>
 (loopM (O := ((List Int) ⊕ (List Int))) (fun (s74 : ((List Int) × (List Int))) =>
 sel (decide ((s74.2.length : Int) < (x0.Pieces.length : Int)))
 ((m96 x0 s74.2).bind fun x108 =>
 sel ((x108.length : Int) == 0)
 (some (.inr (.inr s74.1)))
 ((m48 x1 (i64 (6 + (s74.1.length : Int)))).bind fun x114 =>
 (remM x114 (x108.length : Int)).bind fun x115 =>
 (idx x108 x115).bind fun x116 =>
 (appM s74.1 [x116]).bind fun x118 =>
 (appM s74.2 [x116]).bind fun x120 =>
 some (.inl (x118, x120))))
 (some (.inr (.inl s74.1)))) ([], x73)).bind (Sum.elim (fun (p74_0 : (List Int)) =>
 some p74_0)
  (fun q => some q))
noncomputable def m57 (x0 : HullBook) (x1 : (List Int)) : Option Bool :=
 (m105 x0 x1).bind fun x23 =>
 some (x23 == 0)
noncomputable def m7 (x0 : HullBook) (x1 : (List Int)) (x2 : Int) : Option Bool :=
 (m42 x0).bind fun x124 =>
 sel (!x124)
 ((m19).bind fun x129 =>
 some x129)
 ((m27 x0).bind fun x130 =>
 (m25 x0).bind fun x131 =>
 (m44 x0).bind fun x132 =>
 (m20 x0).bind fun x133 =>
 (m53 x0).bind fun x134 =>
 (((sel (x130.2.2 != x131.2)
 (some true)
 (sel (x130.2.2 != x133.2)
 (some true)
 (sel (x132.2 != 0)
 (some true)
 (sel (x134.2 != 0)
 (some true)
 (sel (!((x130.2.2 == 0) == (decide (x132.1 > 0))))
 (some true)
 (some (!(x130.2.1 == (decide (x131.1 > 0)))))))))) : Option Bool)).bind (fun (p135_0 : Bool) =>
 sel p135_0
 (some false)
 (sel (x130.2.2 != 0)
 ((((sel (x130.2.2 == 9)
 (sel (i64 ((x130.1.length : Int) + (x133.1.length : Int)) == 0)
 ((m19).bind fun x161 =>
 some x161)
 (some false))
 (some false)) : Option Bool)).bind (fun (p155_0 : Bool) =>
 some p155_0))
 ((m54 x0 x1).bind fun x162 =>
 (m23 x0 x162).bind fun x163 =>
 (((sel (x163.2 != 0)
 (some true)
 (sel (x163.1 == 1)
 (sel (!x130.2.1)
 (some true)
 ((m55 x162 x130.1).bind fun x172 =>
 some x172))
 (some false))) : Option Bool)).bind (fun (p164_0 : Bool) =>
 sel p164_0
 (some false)
 ((remM (i64 x2) (x0.Pieces.length : Int)).bind fun x176 =>
 (m47 x134.1 x176).bind fun x177 =>
 (((sel x177
 ((appM [] x0.Out).bind fun x194 =>
 (appM x194 [x176]).bind fun x196 =>
 (m51 x196).bind fun x197 =>
 (m56 x0 x197).bind fun x198 =>
 sel (x198.2 != 0)
 (some (.inr false))
 ((m47 x133.1 x176).bind fun x201 =>
 sel (!(x201 == (x198.1 == 2)))
 (some (.inr false))
 (some (.inl ()))))
 ((m47 x133.1 x176).bind fun x203 =>
 sel x203
 (some (.inr false))
 (some (.inl ())))) : Option (Unit ⊕ Bool))).bind (Sum.elim (fun (p178_0 : Unit) =>
 sel (!x130.2.1)
 ((((sel ((x130.1.length : Int) == 0)
 ((m19).bind fun x214 =>
 some x214)
 (some false)) : Option Bool)).bind (fun (p210_0 : Bool) =>
 some p210_0))
 ((m23 x0 x130.1).bind fun x215 =>
 sel (x215.2 == 0)
 (sel (x215.1 == 1)
 ((m57 x0 x130.1).bind fun x218 =>
 sel x218
 (sel ((x130.1.length : Int) == 0)
 ((m19).bind fun x221 =>
 some x221)
 ((idx x130.1 0).bind fun x222 =>
 (m47 x133.1 x222).bind fun x223 =>
 sel x223
 ((m19).bind fun x225 =>
 some x225)
 (some false)))
 (some false))
 (some false))
 (some false)))
  (fun q => some q))))))))
noncomputable def m11 (x0 : HullBook) (x1 : (List Int)) (x2 : Int) : Option Bool :=
 (m42 x0).bind fun x153 =>
 sel (!x153)
 ((m19).bind fun x158 =>
 some x158)
 ((remM (i64 x2) (x0.Pieces.length : Int)).bind fun x159 =>
 (m53 x0).bind fun x160 =>
 (m44 x0).bind fun x161 =>
 (m40 x0 x159).bind fun x162 =>
 (((sel (x160.2 != 0)
 (some true)
 (sel (x161.2 != 0)
 (some true)
 ((m47 x0.Out x159).bind fun x180 =>
 sel (!((x162.2 == 5) == x180))
 (some true)
 (sel (x162.2 == 5)
 ((m47 x160.1 x159).bind fun x183 =>
 sel (true == x183)
 (some true)
 (sel (x162.2 != 0)
 ((m37 x162.1 (⟨0, ⟨0, 0⟩, [], [], []⟩ : HullBook)).bind fun x186 =>
 some (!x186))
 (some false)))
 ((m47 x160.1 x159).bind fun x187 =>
 sel ((x162.2 == 7) == x187)
 (some true)
 (sel (x162.2 != 0)
 ((m37 x162.1 (⟨0, ⟨0, 0⟩, [], [], []⟩ : HullBook)).bind fun x190 =>
 some (!x190))
 (some false))))))) : Option Bool)).bind (fun (p164_0 : Bool) =>
 sel p164_0
 (some false)
 ((((sel (x162.2 == 0)
 ((m44 x162.1).bind fun x214 =>
 (appM [] x0.Out).bind fun x216 =>
 (appM x216 [x159]).bind fun x218 =>
 (m51 x218).bind fun x219 =>
 (m56 x0 x219).bind fun x220 =>
 sel (x214.2 != 0)
 (some (.inr false))
 (sel (x220.2 != 0)
 (some (.inr false))
 ((m58 x214.1 1 x161.1).bind fun x224 =>
 sel (!x224)
 (some (.inr false))
 (sel (x220.1 == 1)
 (some (.inr false))
 (sel (!((x220.1 == 2) == (x214.1 == x161.1)))
 (some (.inr false))
 ((m64 x0 x159).bind fun x228 =>
 (m37 x162.1 x228).bind fun x229 =>
 sel (!x229)
 (some (.inr false))
 (some (.inl ()))))))))
 (some (.inl ()))) : Option (Unit ⊕ Bool))).bind (Sum.elim (fun (p194_0 : Unit) =>
 (m54 x0 x1).bind fun x231 =>
 (m23 x0 x231).bind fun x232 =>
 sel (x161.1 == 0)
 ((((sel (x232.2 == 9)
 (sel (x162.2 == 9)
 ((m19).bind fun x253 =>
 some x253)
 (sel (x162.2 == 5)
 ((m19).bind fun x255 =>
 some x255)
 (sel (x162.2 == 7)
 ((m19).bind fun x257 =>
 some x257)
 (some false))))
 (some false)) : Option Bool)).bind (fun (p243_0 : Bool) =>
 some p243_0))
 ((((sel (x232.2 != 0)
 (some true)
 (sel (x232.1 != 1)
 (some true)
 (some ((x231.length : Int) == 0)))) : Option Bool)).bind (fun (p258_0 : Bool) =>
 sel p258_0
 ((((sel (x232.2 == 0)
 ((m19).bind fun x272 =>
 some x272)
 (some false)) : Option Bool)).bind (fun (p268_0 : Bool) =>
 some p268_0))
 ((idx x231 0).bind fun x273 =>
 (m40 x0 x273).bind fun x274 =>
 (m44 x274.1).bind fun x275 =>
 (cutM x231 1 (x231.length : Int)).bind fun x276 =>
 (m23 x274.1 x276).bind fun x277 =>
 sel (x274.2 == 0)
 (sel (x275.2 == 0)
 (sel (x277.2 == 0)
 (sel (x275.1 == x161.1)
 (sel (x277.1 == 1)
 ((m19).bind fun x283 =>
 some x283)
 (some false))
 (some false))
 (some false))
 (some false))
 (some false)))))
  (fun q => some q)))))
end Go.Proofs.YtabamagholjdcaaGreatDoor
