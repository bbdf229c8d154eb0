/- The logic, on: structs and arrays that are compared. Conditions: none; over any program. -/
import Derived.Test.YtabamagholjdcaaGreatDoorQLgMore
namespace Go.Lg
open Go.Conc
section
variable {P : Program} {d : Nat} {xs ys : Array Value}
inductive EqF (P : Program) (d : Nat) (xs ys : Array Value) : List Field → Bool → Prop
 | nil : EqF P d xs ys [] true
 | cons {f : Field} {rest : List Field} {a b : Value} {r r' : Bool} : (f.name == "_") = false → Val P (part f.type xs f.offset) a → Val P (part f.type ys f.offset) b → Val P (Op.equalIn d f.type a b) r → EqF P d xs ys rest r' → EqF P d xs ys (f :: rest) (r && r')
def outB (r : Bool) : Option Bool × Unit := (if r then none else some false, ())
theorem val_forF {fs : List Field} {r : Bool} (h : EqF P d xs ys fs r) :
  Val P (forIn fs ((none : Option Bool), ()) fun f (_ : Option Bool × Unit) =>
      if f.name ≠ "_" then do
       let a ← part f.type xs f.offset
       let b ← part f.type ys f.offset
       let q ← Op.equalIn d f.type a b
       if (!q) = true then pure (ForInStep.done (some false, ())) else pure (ForInStep.yield (none, ()))
      else pure (ForInStep.yield (none, ()))) (outB r) := by
 induction h with
 | nil => rw [List.forIn_nil]; exact Val.pure _
 | @cons f rest a b r r' hn ha hb hq _ ih =>
  have hn' : f.name ≠ "_" := by simpa using hn
  rw [List.forIn_cons]
  simp only [hn', ne_eq, not_false_iff, if_true, bind_assoc]
  refine Val.bind ha (Val.bind hb (Val.bind hq ?_))
  cases r with
  | false => simp only [Bool.not_false, if_true, pure_bind, Bool.false_and]; exact Val.pure _
  | true =>
   simp only [Bool.not_true, Bool.false_eq_true, if_false, pure_bind, Bool.true_and]
   simpa only [ne_eq] using ih
theorem val_eqStruct {t : TypeId} {fields : Array Field} {r : Bool} (hu : P.underlying t = some (.struct fields)) (hst : P.stoodInHeld t = false) (h : EqF P d xs ys fields.toList r) : Val P (Op.equalIn (d+1) t (.agg xs) (.agg ys)) r := by
 rw [Op.equalIn]
 refine Val.bind (Val.underlying hu) ?_
 dsimp only
 refine Val.bind Val.program ?_
 simp only [hst, Bool.false_eq_true, if_false]
 rw [← Array.forIn_toList]
 refine Val.bind (val_forF h) ?_
 cases r <;> exact Val.pure _
theorem val_eqInt {t : TypeId} {kd : IntKind} {a b : Int} (hu : P.underlying t = some (.int kd)) : Val P (Op.equalIn (d+1) t (.int kd a) (.int kd b)) (a == b) := by
 rw [Op.equalIn]
 refine Val.bind (Val.underlying hu) ?_
 simp only [if_true]
 exact Val.pure _
theorem val_eqBool {t : TypeId} {a b : Bool} (hu : P.underlying t = some .bool) : Val P (Op.equalIn (d+1) t (.bool a) (.bool b)) (a == b) := by
 rw [Op.equalIn]
 exact Val.bind (Val.underlying hu) (Val.pure _)
inductive EqA (P : Program) (d : Nat) (elem : TypeId) (n : Nat) (xs ys : Array Value) : List Nat → Bool → Prop
 | nil : EqA P d elem n xs ys [] true
 | cons {i : Nat} {rest : List Nat} {a b : Value} {r r' : Bool} : Val P (part elem xs (i * n)) a → Val P (part elem ys (i * n)) b → Val P (Op.equalIn d elem a b) r → EqA P d elem n xs ys rest r' → EqA P d elem n xs ys (i :: rest) (r && r')
theorem val_forA {elem : TypeId} {n : Nat} {is : List Nat} {r : Bool} (h : EqA P d elem n xs ys is r) :
  Val P (forIn is ((none : Option Bool), ()) fun i (_ : Option Bool × Unit) => do
      let a ← part elem xs (i * n)
      let b ← part elem ys (i * n)
      let q ← Op.equalIn d elem a b
      if (!q) = true then pure (ForInStep.done (some false, ())) else pure (ForInStep.yield (none, ()))) (outB r) := by
 induction h with
 | nil => rw [List.forIn_nil]; exact Val.pure _
 | @cons i rest a b r r' ha hb hq _ ih =>
  rw [List.forIn_cons]
  simp only [bind_assoc]
  refine Val.bind ha (Val.bind hb (Val.bind hq ?_))
  cases r with
  | false => simp only [Bool.not_false, if_true, pure_bind, Bool.false_and]; exact Val.pure _
  | true =>
   simp only [Bool.not_true, Bool.false_eq_true, if_false, pure_bind, Bool.true_and]
   exact ih
theorem val_eqArr {n len : Nat} {t elem : TypeId} {r : Bool} (hu : P.underlying t = some (.array len elem)) (hs : Val P (sizeOf elem) n) (h : EqA P d elem n xs ys (List.range len) r) : Val P (Op.equalIn (d+1) t (.agg xs) (.agg ys)) r := by
 rw [Op.equalIn]
 refine Val.bind (Val.underlying hu) ?_
 dsimp only
 refine Val.bind hs ?_
 rw [Std.Legacy.Range.forIn_eq_forIn_range']
 simp only [Std.Legacy.Range.size, Nat.sub_zero, Nat.add_sub_cancel, Nat.div_one]
 rw [← List.range_eq_range']
 refine Val.bind (val_forA h) ?_
 cases r <;> exact Val.pure _
end
end Go.Lg
