/- The structs that the models speak of, how they lie in memory; closed facts on types. Printed by gentypes.py. No conditions. -/
import Derived.Test.YtabamagholjdcaaGreatDoorQLgNick
import Derived.Test.YtabamagholjdcaaGreatDoorQHuFacts
namespace Go.Proofs.YtabamagholjdcaaGreatDoor
open Go.Lg Go.Proofs
abbrev iv (z : Int) : Value := .int .i64 z
theorem infoOk {P : Program} {e : Nat} (h : (P.info? e).any (fun i => decide (i.bytes ≤ 65536)) = true) : ∃ i, P.info? e = some i ∧ i.bytes ≤ 65536 := by
 cases hi : P.info? e with
 | none => rw [hi] at h; cases h
 | some i => rw [hi] at h; exact ⟨i, rfl, by simpa using h⟩
structure Reach where
 Least : Int
 Most : Int
def CReach : CRel Reach := fun _ x es => es = [iv x.Least, iv x.Most]
instance : CM CReach := ⟨fun hR h => by obtain rfl := h; exact rfl, fun h => by obtain rfl := h; simp [Value.oneCell']⟩
structure HullPiece where
 Name : ByteArray
 Arm : Int
 Weight : Reach
 On : (List Int)
def CHullPiece : CRel HullPiece := fun R x es => ∃ vq_4, SlR (CI .i64) 1 R vq_4 x.On ∧ es = [.string x.Name, iv x.Arm, iv x.Weight.Least, iv x.Weight.Most, vq_4]
instance : CM CHullPiece := ⟨fun hR h => by obtain ⟨vq_4, hq_4, rfl⟩ := h; exact ⟨_, hq_4.mono hR, rfl⟩, fun h => by obtain ⟨vq_4, hq_4, rfl⟩ := h; intro u hu; simp only [List.mem_cons, List.not_mem_nil, or_false] at hu; rcases hu with rfl | rfl | rfl | rfl | rfl <;> first | rfl | exact hq_4.one⟩
structure HullHeel where
 After : Int
 Side : Int
def CHullHeel : CRel HullHeel := fun _ x es => es = [iv x.After, iv x.Side]
instance : CM CHullHeel := ⟨fun hR h => by obtain rfl := h; exact rfl, fun h => by obtain rfl := h; simp [Value.oneCell']⟩
structure HullBook where
 Limit : Int
 Ballast : Reach
 Pieces : (List HullPiece)
 Out : (List Int)
 Heels : (List HullHeel)
def CHullBook : CRel HullBook := fun R x es => ∃ vq_3 vq_4 vq_5, SlR CHullPiece 5 R vq_3 x.Pieces ∧ SlR (CI .i64) 1 R vq_4 x.Out ∧ SlR CHullHeel 2 R vq_5 x.Heels ∧ es = [iv x.Limit, iv x.Ballast.Least, iv x.Ballast.Most, vq_3, vq_4, vq_5]
instance : CM CHullBook := ⟨fun hR h => by obtain ⟨vq_3, vq_4, vq_5, hq_3, hq_4, hq_5, rfl⟩ := h; exact ⟨_, _, _, hq_3.mono hR, hq_4.mono hR, hq_5.mono hR, rfl⟩, fun h => by obtain ⟨vq_3, vq_4, vq_5, hq_3, hq_4, hq_5, rfl⟩ := h; intro u hu; simp only [List.mem_cons, List.not_mem_nil, or_false] at hu; rcases hu with rfl | rfl | rfl | rfl | rfl | rfl <;> first | rfl | exact hq_3.one | exact hq_4.one | exact hq_5.one⟩
structure Cargo where
 ballast : Int
 weights : (List Int)
def CCargo : CRel Cargo := fun _ x es => x.weights.length = 5 ∧ es = ([iv x.ballast] ++ (x.weights.map (Value.int .i64) ++ []))
instance : CM CCargo := ⟨fun hR h => by obtain ⟨lq_1, rfl⟩ := h; exact ⟨lq_1, rfl⟩, fun h => by obtain ⟨lq_1, rfl⟩ := h; simp [Value.oneCell']⟩
structure Opened where
 book : HullBook
 alls : (List Cargo)
 worsts : Tab
structure Least where
 thing : (List Int)
 number : Int
 some_ : Bool
structure HullCase where
 Ballast : Int
 Weights : (List Int)
def CHullCase : CRel HullCase := fun R x es => ∃ vq_1, SlR (CI .i64) 1 R vq_1 x.Weights ∧ es = [iv x.Ballast, vq_1]
instance : CM CHullCase := ⟨fun hR h => by obtain ⟨vq_1, hq_1, rfl⟩ := h; exact ⟨_, hq_1.mono hR, rfl⟩, fun h => by obtain ⟨vq_1, hq_1, rfl⟩ := h; intro u hu; simp only [List.mem_cons, List.not_mem_nil, or_false] at hu; rcases hu with rfl | rfl <;> first | rfl | exact hq_1.one⟩
theorem five {α : Type} {l : List α} (h : l.length = 5) : ∃ a b c d e, l = [a, b, c, d, e] := by
 match l, h with
 | [a, b, c, d, e], _ => exact ⟨a, b, c, d, e, rfl⟩
theorem grd23 : Tryz.prog.eqGuardType Tryz.prog.depth 23 = false := by decide +kernel
def eqReach (x y : Reach) : Bool := (x.Least == y.Least && (x.Most == y.Most && true))
theorem eqv23 (x y : Reach) : Val Tryz.prog (Op.equal 23 (.agg #[iv x.Least, iv x.Most]) (.agg #[iv y.Least, iv y.Most])) (eqReach x y) := val_eqStruct (d := 9999) Tryz.underlying23 (by decide +kernel) (.cons rfl (fun _ => ⟨by kernel_rfl, by kernel_rfl⟩) (fun _ => ⟨by kernel_rfl, by kernel_rfl⟩) (val_eqInt Tryz.underlying3) (.cons rfl (fun _ => ⟨by kernel_rfl, by kernel_rfl⟩) (fun _ => ⟨by kernel_rfl, by kernel_rfl⟩) (val_eqInt Tryz.underlying3) .nil))
theorem grd125 : Tryz.prog.eqGuardType Tryz.prog.depth 125 = false := by decide +kernel
def eqCargo (x y : Cargo) : Bool := x.ballast == y.ballast && (x.weights == y.weights && true)
theorem eqv125 {x y : Cargo} (hx : x.weights.length = 5) (hy : y.weights.length = 5) : Val Tryz.prog (Op.equal 125 (.agg (List.toArray ([iv x.ballast] ++ (x.weights.map (Value.int .i64) ++ [])))) (.agg (List.toArray ([iv y.ballast] ++ (y.weights.map (Value.int .i64) ++ []))))) (eqCargo x y) := by
 obtain ⟨xb, xw⟩ := x
 obtain ⟨yb, yw⟩ := y
 simp only at hx hy
 obtain ⟨a0, a1, a2, a3, a4, rfl⟩ := five hx
 obtain ⟨b0, b1, b2, b3, b4, rfl⟩ := five hy
 have hw : ([a0, a1, a2, a3, a4] == [b0, b1, b2, b3, b4]) = ((a0 == b0) && ((a1 == b1) && ((a2 == b2) && ((a3 == b3) && ((a4 == b4) && true))))) := by simp
 unfold eqCargo
 simp only [hw]
 refine val_eqStruct (d := 9999) Tryz.underlying125 (by decide +kernel) ?_
 refine .cons rfl (fun _ => ⟨by kernel_rfl, by kernel_rfl⟩) (fun _ => ⟨by kernel_rfl, by kernel_rfl⟩) (val_eqInt Tryz.underlying3) (.cons rfl (a := .agg #[iv a0, iv a1, iv a2, iv a3, iv a4]) (b := .agg #[iv b0, iv b1, iv b2, iv b3, iv b4]) (fun _ => ⟨by kernel_rfl, by kernel_rfl⟩) (fun _ => ⟨by kernel_rfl, by kernel_rfl⟩) ?_ .nil)
 refine val_eqArr (d := 9998) (n := 1) Tryz.underlying123 (fun _ => ⟨by kernel_rfl, by kernel_rfl⟩) ?_
 refine .cons (i := 0) (rest := [1, 2, 3, 4]) (fun _ => ⟨by kernel_rfl, by kernel_rfl⟩) (fun _ => ⟨by kernel_rfl, by kernel_rfl⟩) (val_eqInt Tryz.underlying3) ?_
 refine .cons (i := 1) (rest := [2, 3, 4]) (fun _ => ⟨by kernel_rfl, by kernel_rfl⟩) (fun _ => ⟨by kernel_rfl, by kernel_rfl⟩) (val_eqInt Tryz.underlying3) ?_
 refine .cons (i := 2) (rest := [3, 4]) (fun _ => ⟨by kernel_rfl, by kernel_rfl⟩) (fun _ => ⟨by kernel_rfl, by kernel_rfl⟩) (val_eqInt Tryz.underlying3) ?_
 refine .cons (i := 3) (rest := [4]) (fun _ => ⟨by kernel_rfl, by kernel_rfl⟩) (fun _ => ⟨by kernel_rfl, by kernel_rfl⟩) (val_eqInt Tryz.underlying3) ?_
 exact .cons (i := 4) (rest := []) (fun _ => ⟨by kernel_rfl, by kernel_rfl⟩) (fun _ => ⟨by kernel_rfl, by kernel_rfl⟩) (val_eqInt Tryz.underlying3) .nil
theorem app24 : AppTy Tryz.prog 24 58 5 := ⟨Tryz.underlying24, fun _ => ⟨by kernel_rfl, by kernel_rfl⟩, infoOk (by decide +kernel), ⟨.agg #[.string ⟨#[]⟩, .int .i64 0, .int .i64 0, .int .i64 0, .slice none 0 0], fun _ => ⟨by kernel_rfl, by kernel_rfl⟩, rfl⟩⟩
theorem app25 : AppTy Tryz.prog 25 3 1 := ⟨Tryz.underlying25, fun _ => ⟨by kernel_rfl, by kernel_rfl⟩, infoOk (by decide +kernel), ⟨.int .i64 0, fun _ => ⟨by kernel_rfl, by kernel_rfl⟩, rfl⟩⟩
theorem app26 : AppTy Tryz.prog 26 47 2 := ⟨Tryz.underlying26, fun _ => ⟨by kernel_rfl, by kernel_rfl⟩, infoOk (by decide +kernel), ⟨.agg #[.int .i64 0, .int .i64 0], fun _ => ⟨by kernel_rfl, by kernel_rfl⟩, rfl⟩⟩
theorem app103 : AppTy Tryz.prog 103 125 6 := ⟨Tryz.underlying103, fun _ => ⟨by kernel_rfl, by kernel_rfl⟩, infoOk (by decide +kernel), ⟨.agg #[.int .i64 0, .int .i64 0, .int .i64 0, .int .i64 0, .int .i64 0, .int .i64 0], fun _ => ⟨by kernel_rfl, by kernel_rfl⟩, rfl⟩⟩
theorem app135 : AppTy Tryz.prog 135 25 1 := ⟨Tryz.underlying135, fun _ => ⟨by kernel_rfl, by kernel_rfl⟩, infoOk (by decide +kernel), ⟨.slice none 0 0, fun _ => ⟨by kernel_rfl, by kernel_rfl⟩, rfl⟩⟩
theorem base24_0 : (Array.range (0 * 5)).map ((#[.string ⟨#[]⟩, .int .i64 0, .int .i64 0, .int .i64 0, .slice none 0 0] : Array Value)[· % (#[.string ⟨#[]⟩, .int .i64 0, .int .i64 0, .int .i64 0, .slice none 0 0] : Array Value).size]!) = #[] := by kernel_rfl
theorem base24_3 : (Array.range (3 * 5)).map ((#[.string ⟨#[]⟩, .int .i64 0, .int .i64 0, .int .i64 0, .slice none 0 0] : Array Value)[· % (#[.string ⟨#[]⟩, .int .i64 0, .int .i64 0, .int .i64 0, .slice none 0 0] : Array Value).size]!) = #[.string ⟨#[]⟩, .int .i64 0, .int .i64 0, .int .i64 0, .slice none 0 0, .string ⟨#[]⟩, .int .i64 0, .int .i64 0, .int .i64 0, .slice none 0 0, .string ⟨#[]⟩, .int .i64 0, .int .i64 0, .int .i64 0, .slice none 0 0] := by kernel_rfl
theorem base25_0 : (Array.range (0 * 1)).map ((#[.int .i64 0] : Array Value)[· % (#[.int .i64 0] : Array Value).size]!) = #[] := by kernel_rfl
theorem base25_1 : (Array.range (1 * 1)).map ((#[.int .i64 0] : Array Value)[· % (#[.int .i64 0] : Array Value).size]!) = #[.int .i64 0] := by kernel_rfl
theorem base25_2 : (Array.range (2 * 1)).map ((#[.int .i64 0] : Array Value)[· % (#[.int .i64 0] : Array Value).size]!) = #[.int .i64 0, .int .i64 0] := by kernel_rfl
theorem base25_3 : (Array.range (3 * 1)).map ((#[.int .i64 0] : Array Value)[· % (#[.int .i64 0] : Array Value).size]!) = #[.int .i64 0, .int .i64 0, .int .i64 0] := by kernel_rfl
theorem base26_0 : (Array.range (0 * 2)).map ((#[.int .i64 0, .int .i64 0] : Array Value)[· % (#[.int .i64 0, .int .i64 0] : Array Value).size]!) = #[] := by kernel_rfl
theorem base26_1 : (Array.range (1 * 2)).map ((#[.int .i64 0, .int .i64 0] : Array Value)[· % (#[.int .i64 0, .int .i64 0] : Array Value).size]!) = #[.int .i64 0, .int .i64 0] := by kernel_rfl
theorem base103_1 : (Array.range (1 * 6)).map ((#[.int .i64 0, .int .i64 0, .int .i64 0, .int .i64 0, .int .i64 0, .int .i64 0] : Array Value)[· % (#[.int .i64 0, .int .i64 0, .int .i64 0, .int .i64 0, .int .i64 0, .int .i64 0] : Array Value).size]!) = #[.int .i64 0, .int .i64 0, .int .i64 0, .int .i64 0, .int .i64 0, .int .i64 0] := by kernel_rfl
theorem base135_1 : (Array.range (1 * 1)).map ((#[.slice none 0 0] : Array Value)[· % (#[.slice none 0 0] : Array Value).size]!) = #[.slice none 0 0] := by kernel_rfl
abbrev GOk (R : RMap) : Prop := CellsAt R [] 0 0 [.func (.func 211) #[] #[], .func (.func 212) #[] #[], .func (.func 213) #[] #[], .func (.func 214) #[] #[]]
theorem GOk.mono {R R' : RMap} (h : GOk R) (hR : RLe R R') : GOk R' := CellsAt.up (H := []) h hR
theorem GOk.any {R : RMap} {H : HList} (h : GOk R) : CellsAt R H 0 0 [.func (.func 211) #[] #[], .func (.func 212) #[] #[], .func (.func 213) #[] #[], .func (.func 214) #[] #[]] := CellsAt.any h
set_option maxRecDepth 100000
def offT : Nat → Nat → Option Nat
 | 23, 0 => some 0
 | 23, 1 => some 1
 | 28, 0 => some 0
 | 28, 1 => some 1
 | 28, 2 => some 3
 | 28, 3 => some 4
 | 28, 4 => some 5
 | 47, 0 => some 0
 | 47, 1 => some 1
 | 58, 0 => some 0
 | 58, 1 => some 1
 | 58, 2 => some 2
 | 58, 3 => some 4
 | 66, 0 => some 0
 | 66, 1 => some 1
 | 102, 0 => some 0
 | 106, 0 => some 0
 | 106, 1 => some 6
 | 106, 2 => some 7
 | 125, 0 => some 0
 | 125, 1 => some 1
 | 138, 0 => some 0
 | 138, 1 => some 1
 | 138, 2 => some 2
 | 170, 0 => some 0
 | 170, 1 => some 5
 | _, _ => none
theorem offT_ok : ∀ s f n, offT s f = some n → FieldAt Tryz.prog s f n := by
 intro s f n h
 unfold offT at h
 split at h
 ·cases h; exact field23_0
 ·cases h; exact field23_1
 ·cases h; exact field28_0
 ·cases h; exact field28_1
 ·cases h; exact field28_2
 ·cases h; exact field28_3
 ·cases h; exact field28_4
 ·cases h; exact field47_0
 ·cases h; exact field47_1
 ·cases h; exact field58_0
 ·cases h; exact field58_1
 ·cases h; exact field58_2
 ·cases h; exact field58_3
 ·cases h; exact field66_0
 ·cases h; exact field66_1
 ·cases h; exact field102_0
 ·cases h; exact field106_0
 ·cases h; exact field106_1
 ·cases h; exact field106_2
 ·cases h; exact field125_0
 ·cases h; exact field125_1
 ·cases h; exact field138_0
 ·cases h; exact field138_1
 ·cases h; exact field138_2
 ·cases h; exact field170_0
 ·cases h; exact field170_1
 ·cases h
instance : Fields Tryz.prog := ⟨offT, offT_ok⟩
theorem eqW145 (a b c d : Int) : Val Tryz.prog (Op.equal 145 (wKey a b) (wKey c d)) (a == c && (b == d && true)) :=
 val_eqStruct (d := 9999) Tryz.underlying145 (by decide +kernel) (.cons rfl (fun _ => ⟨by kernel_rfl, by kernel_rfl⟩) (fun _ => ⟨by kernel_rfl, by kernel_rfl⟩) (val_eqInt Tryz.underlying3) (.cons rfl (fun _ => ⟨by kernel_rfl, by kernel_rfl⟩) (fun _ => ⟨by kernel_rfl, by kernel_rfl⟩) (val_eqInt Tryz.underlying3) .nil))
theorem map143 : MapTyW Tryz.prog 143 145 3 := ⟨Tryz.underlying143, ⟨_, Tryz.underlying145, fun a b => by cases a <;> rfl⟩, eqW145, fun e a b _ => ⟨by kernel_rfl, by kernel_rfl⟩, fun _ => ⟨by kernel_rfl, by kernel_rfl⟩⟩
theorem keq112 {a b : List Bool} (hx : a.length = 5) (hy : b.length = 5) : Val Tryz.prog (Op.equal 112 (keyV a) (keyV b)) (a == b) := by
 obtain ⟨a0, a1, a2, a3, a4, rfl⟩ := five hx
 obtain ⟨b0, b1, b2, b3, b4, rfl⟩ := five hy
 have hw : ([a0, a1, a2, a3, a4] == [b0, b1, b2, b3, b4]) = ((a0 == b0) && ((a1 == b1) && ((a2 == b2) && ((a3 == b3) && ((a4 == b4) && true))))) := by simp
 rw [hw]
 refine val_eqArr (d := 9999) (n := 1) Tryz.underlying112 (fun _ => ⟨by kernel_rfl, by kernel_rfl⟩) ?_
 refine .cons (i := 0) (rest := [1, 2, 3, 4]) (fun _ => ⟨by kernel_rfl, by kernel_rfl⟩) (fun _ => ⟨by kernel_rfl, by kernel_rfl⟩) (val_eqBool Tryz.underlying4) ?_
 refine .cons (i := 1) (rest := [2, 3, 4]) (fun _ => ⟨by kernel_rfl, by kernel_rfl⟩) (fun _ => ⟨by kernel_rfl, by kernel_rfl⟩) (val_eqBool Tryz.underlying4) ?_
 refine .cons (i := 2) (rest := [3, 4]) (fun _ => ⟨by kernel_rfl, by kernel_rfl⟩) (fun _ => ⟨by kernel_rfl, by kernel_rfl⟩) (val_eqBool Tryz.underlying4) ?_
 refine .cons (i := 3) (rest := [4]) (fun _ => ⟨by kernel_rfl, by kernel_rfl⟩) (fun _ => ⟨by kernel_rfl, by kernel_rfl⟩) (val_eqBool Tryz.underlying4) ?_
 exact .cons (i := 4) (rest := []) (fun _ => ⟨by kernel_rfl, by kernel_rfl⟩) (fun _ => ⟨by kernel_rfl, by kernel_rfl⟩) (val_eqBool Tryz.underlying4) .nil
theorem kchk112 (e : Bool) {a : List Bool} (hx : a.length = 5) : Val Tryz.prog (Instr.checkKey e 10000 112 (keyV a)) () := by
 obtain ⟨a0, a1, a2, a3, a4, rfl⟩ := five hx
 exact fun _ => ⟨by kernel_rfl, by kernel_rfl⟩
theorem map104 : MapTy Tryz.prog 104 112 3 := ⟨Tryz.underlying104, ⟨_, Tryz.underlying112, fun a b => by cases a <;> rfl⟩, fun _ _ => keq112, fun e _ => kchk112 e, fun _ => ⟨by kernel_rfl, by kernel_rfl⟩⟩
theorem mixed : Tryz.prog.follows .mixedOrders = true := by kernel_rfl
end Go.Proofs.YtabamagholjdcaaGreatDoor
