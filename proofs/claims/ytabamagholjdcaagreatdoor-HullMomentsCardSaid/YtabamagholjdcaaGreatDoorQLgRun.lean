/- The logic, on: one law for each kind of operation that looks at no world. Conditions: none; over any program; what hangs on the program's types is asked as a fact that the kernel reckons. -/
import Derived.Test.YtabamagholjdcaaGreatDoorQLgOps
namespace Go.Lg
open Go.Conc
theorem add_none (b o n : Nat) : (⟨b, o, none⟩ : Addr).add n = ⟨b, o + n, none⟩ := by
 unfold Addr.add; split
 ·subst_vars; rfl
 ·rfl
def FieldAt (P : Program) (s f off : Nat) : Prop := ∀ b o : Nat, Val P (Instr.fieldAt s (.pointer (some ⟨b, o, none⟩)) f) (.pointer (some ⟨b, o + off, none⟩))
def SliceTy (P : Program) (t e n : Nat) : Prop := P.underlying t = some (.slice e) ∧ Val P (sizeOf e) n
def ArrayTy (P : Program) (t len e n : Nat) : Prop := P.underlying t = some (.array len e) ∧ Val P (sizeOf e) n
def Fit64 (z : Int) : Prop := -9223372036854775808 ≤ z ∧ z ≤ 9223372036854775807
theorem wrap_fit {z : Int} (h : Fit64 z) : IntKind.wrap .i64 z = z := by
 obtain ⟨h1, h2⟩ := h
 simp only [IntKind.wrap, IntKind.bits, IntKind.signed]
 simp
 omega
section
variable {P : Program} {B : Base} {main : Bool} {𝒥 : Jd P B main} {c : Ctx} {R : RMap} {H : HList} {st st' : St} {o : Oper} {C : RMap → HList → St → Prop}
theorem Ox.val {v : Value} (hdf : isDefer o.op = false) (hd : dstLt o.dst c.n)
  (hv : ∀ ρ, Knows st ρ → Val P (execOp ρ o) (.value v)) (hs : SubL (putS o.dst v st) st') (h : C R H st') : SemTo P B c o R H st C :=
 ⟨hdf, hd, fun ρ hρ => (hv ρ hρ).ok ⟨v, .inl rfl, st', hs, h⟩⟩
theorem Ox.val' {s : (Operand → Value) → Sem Value} {v : Value} (hdf : isDefer o.op = false) (hd : dstLt o.dst c.n)
  (he : ∀ ρ, execOp ρ o = (do let x ← s ρ; pure (.value x))) (hv : ∀ ρ, Knows st ρ → Val P (s ρ) v) (hs : SubL (putS o.dst v st) st') (h : C R H st') : SemTo P B c o R H st C :=
 Ox.val hdf hd (fun ρ hρ => by rw [he]; exact Val.bind (hv ρ hρ) (Val.pure _)) hs h
theorem Ox.mem {s : (Operand → Value) → Sem Value} (hdf : isDefer o.op = false) (hd : dstLt o.dst c.n)
  (he : ∀ ρ, execOp ρ o = (do let x ← s ρ; pure (.value x)))
  (hv : ∀ ρ, Knows st ρ → SemOk P B R H (s ρ) fun v R' H' => ∃ st', SubL (putS o.dst v st) st' ∧ C R' H' st') : SemTo P B c o R H st C :=
 ⟨hdf, hd, fun ρ hρ => by
  rw [he]
  exact SemOk.bind ((hv ρ hρ).mono fun v R' H' ⟨st', hs, h⟩ => SemOk.pure ⟨v, .inl rfl, st', hs, h⟩)⟩
theorem Ox.memU {s : (Operand → Value) → Sem Unit} (hdf : isDefer o.op = false) (hd : o.dst = none)
  (he : ∀ ρ, execOp ρ o = (do s ρ; pure .skip)) (hs : SubL st st')
  (hv : ∀ ρ, Knows st ρ → SemOk P B R H (s ρ) fun _ R' H' => C R' H' st') : SemTo P B c o R H st C :=
 ⟨hdf, by rw [hd]; rfl, fun ρ hρ => by
  rw [he]
  exact SemOk.bind ((hv ρ hρ).mono fun v R' H' h => SemOk.pure ⟨undef, .inr ⟨rfl, rfl⟩, st', by rw [hd]; exact hs, h⟩)⟩
theorem Ox.move {x : Operand} {v : Value} (hop : o.op = .move x) (hx : evalS st x = some v) (hd : dstLt o.dst c.n)
  (hs : SubL (putS o.dst v st) st') (h : C R H st') : SemTo P B c o R H st C :=
 Ox.val (by rw [hop]; rfl) hd (fun ρ hρ => by simp only [execOp, hop, hρ x v hx]; exact Val.pure _) hs h
theorem Ox.assign {x : Operand} {v : Value} (hop : o.op = .assign x) (hx : evalS st x = some v) (hd : dstLt o.dst c.n)
  (hs : SubL (putS o.dst v st) st') (h : C R H st') : SemTo P B c o R H st C :=
 Ox.val (by rw [hop]; rfl) hd (fun ρ hρ => by simp only [execOp, hop, hρ x v hx]; exact Val.pure _) hs h
theorem Ox.pick_true {x y z : Operand} {v : Value} (hop : o.op = .pick x y z) (hx : evalS st x = some (.bool true)) (hy : evalS st y = some v) (hd : dstLt o.dst c.n)
  (hs : SubL (putS o.dst v st) st') (h : C R H st') : SemTo P B c o R H st C :=
 Ox.val (by rw [hop]; rfl) hd (fun ρ hρ => by
  simp only [execOp, hop, hρ x _ hx, hρ y v hy, asBool]
  exact Val.bind (Val.pure true) (Val.pure _)) hs h
theorem Ox.pick_false {x y z : Operand} {v : Value} (hop : o.op = .pick x y z) (hx : evalS st x = some (.bool false)) (hz : evalS st z = some v) (hd : dstLt o.dst c.n)
  (hs : SubL (putS o.dst v st) st') (h : C R H st') : SemTo P B c o R H st C :=
 Ox.val (by rw [hop]; rfl) hd (fun ρ hρ => by
  simp only [execOp, hop, hρ x _ hx, hρ z v hz, asBool]
  exact Val.bind (Val.pure false) (Val.pure _)) hs h
theorem Ox.fieldAddr {x : Operand} {s f off b n : Nat} (hop : o.op = .fieldAddr s x f) (hx : evalS st x = some (.pointer (some ⟨b, n, none⟩))) (hf : FieldAt P s f off) (hd : dstLt o.dst c.n)
  (hs : SubL (putS o.dst (.pointer (some ⟨b, n + off, none⟩)) st) st') (h : C R H st') : SemTo P B c o R H st C :=
 Ox.val' (s := fun ρ => Instr.fieldAt s (ρ x) f) (by rw [hop]; rfl) hd (fun ρ => by simp only [execOp, hop]) (fun ρ hρ => by rw [hρ x _ hx]; exact hf b n) hs h
theorem val_index_slice {t e n b m len cap : Nat} {kd : IntKind} {j : Nat} (ht : SliceTy P t e n) (hj : j < len) :
  Val P (Instr.indexAt t (.slice (some ⟨b, m, none⟩) len cap) (.int kd (j : Int))) (.pointer (some ⟨b, m + j * n, none⟩)) := by
 unfold Instr.indexAt
 refine Val.bind (a := (kd, (j : Int))) (Val.pure _) (Val.bind (Val.underlying ht.1) (Val.bind (a := (some (⟨b, m, none⟩ : Addr), len, e)) (Val.pure _) (Val.bind (Val.underlying ht.1) ?_)))
 have h1 : (0 : Int) ≤ (j : Int) ∧ (j : Int) < (len : Int) := by omega
 simp only [h1, and_self, if_true, Int.toNat_natCast]
 refine Val.bind ht.2 ?_
 rw [add_none]
 exact Val.pure _
theorem val_index_array {t e n b m len : Nat} {kd : IntKind} {j : Nat} (ht : ArrayTy P t len e n) (hj : j < len) :
  Val P (Instr.indexAt t (.pointer (some ⟨b, m, none⟩)) (.int kd (j : Int))) (.pointer (some ⟨b, m + j * n, none⟩)) := by
 unfold Instr.indexAt
 refine Val.bind (a := (kd, (j : Int))) (Val.pure _) (Val.bind (Val.underlying ht.1) (Val.bind (a := (⟨b, m, none⟩ : Addr)) (Val.pure _) (Val.bind (a := (some (⟨b, m, none⟩ : Addr), len, e)) (Val.pure _) (Val.bind (Val.underlying ht.1) ?_))))
 have h1 : (0 : Int) ≤ (j : Int) ∧ (j : Int) < (len : Int) := by omega
 simp only [h1, and_self, if_true, Int.toNat_natCast]
 refine Val.bind ht.2 ?_
 rw [add_none]
 exact Val.pure _
theorem val_guard_int (op : BinOp) (t : TypeId) (x y : Operand) (ka kb : IntKind) (a b : Int) : Val P (eqGuard op t x y (.int ka a) (.int kb b)) () := by
 unfold eqGuard
 cases op <;> exact Val.pure _
def cmpI : BinOp → Int → Int → Option Bool
 | .eql, x, y => some (x == y)
 | .neq, x, y => some (x != y)
 | .lss, x, y => some (decide (x < y))
 | .leq, x, y => some (decide (x ≤ y))
 | .gtr, x, y => some (decide (x > y))
 | .geq, x, y => some (decide (x ≥ y))
 | _, _, _ => none
theorem Ox.cmp {x y : Operand} {bo : BinOp} {t u : TypeId} {a b : Int} {kd : IntKind} {r : Bool} (hop : o.op = .binOp bo t x y u) (hx : evalS st x = some (.int kd a)) (hy : evalS st y = some (.int kd b)) (hr : cmpI bo a b = some r)
  (hd : dstLt o.dst c.n) (hs : SubL (putS o.dst (.bool r) st) st') (h : C R H st') : SemTo P B c o R H st C :=
 Ox.val' (s := fun ρ => do eqGuard bo t x y (ρ x) (ρ y); binOp bo t (ρ x) (ρ y)) (by rw [hop]; rfl) hd (fun ρ => by simp only [execOp, hop]) (fun ρ hρ => by
  rw [hρ x _ hx, hρ y _ hy]
  refine Val.bind (val_guard_int _ _ _ _ _ _ _ _) ?_
  cases bo <;> simp only [cmpI, Option.some.injEq, reduceCtorEq] at hr <;> subst hr <;> simp only [binOp, ne_eq, not_true_eq_false, if_false] <;> exact Val.pure _) hs h
def arI : BinOp → Int → Int → Option Int
 | .add, x, y => some (x + y)
 | .sub, x, y => some (x - y)
 | .mul, x, y => some (x * y)
 | _, _, _ => none
theorem Ox.not {x : Operand} {t : TypeId} {a : Bool} (hop : o.op = .unOp .not t x) (hx : evalS st x = some (.bool a))
  (hd : dstLt o.dst c.n) (hs : SubL (putS o.dst (.bool (!a)) st) st') (h : C R H st') : SemTo P B c o R H st C :=
 Ox.val' (s := fun ρ => Op.unary .not (ρ x)) (by rw [hop]; rfl) hd (fun ρ => by simp only [execOp, hop]) (fun ρ hρ => by rw [hρ x _ hx]; exact Val.pure _) hs h
theorem Ox.extract {x : Operand} {j : Nat} {vs : Array Value} {v : Value} (hop : o.op = .extract x j) (hx : evalS st x = some (.tuple vs)) (hj : vs[j]? = some v)
  (hd : dstLt o.dst c.n) (hs : SubL (putS o.dst v st) st') (h : C R H st') : SemTo P B c o R H st C :=
 Ox.val' (s := fun ρ => Instr.extract (ρ x) j) (by rw [hop]; rfl) hd (fun ρ => by simp only [execOp, hop]) (fun ρ hρ => by
  rw [hρ x _ hx]
  simp only [Instr.extract, hj]; exact Val.pure _) hs h
theorem Ox.makeFunc {fn : Fn} {first captured : Array Operand} {vs us : Array Value} (hop : o.op = .makeFunc fn first captured) (h1 : first.toList.mapM (evalS st) = some vs.toList) (h2 : captured.toList.mapM (evalS st) = some us.toList)
  (hd : dstLt o.dst c.n) (hs : SubL (putS o.dst (.func fn vs us) st) st') (h : C R H st') : SemTo P B c o R H st C :=
 Ox.val' (s := fun ρ => Instr.makeFunc fn (first.map ρ) (captured.map ρ)) (by rw [hop]; rfl) hd (fun ρ => by simp only [execOp, hop]) (fun ρ hρ => by
  have key : ∀ (l : List Operand) (r : List Value), l.mapM (evalS st) = some r → l.map ρ = r := by
   intro l
   induction l with
   | nil => intro r hr; simpa using hr
   | cons a l ih =>
    intro r hr
    rw [List.mapM_cons] at hr
    cases ha : evalS st a with
    | none => simp [ha] at hr
    | some u =>
     cases hl : l.mapM (evalS st) with
     | none => simp [ha, hl] at hr
     | some us =>
      simp [ha, hl] at hr
      subst hr
      simp [hρ a u ha, ih us hl]
  have e1 : first.map ρ = vs := by apply Array.ext'; simpa using key _ _ h1
  have e2 : captured.map ρ = us := by apply Array.ext'; simpa using key _ _ h2
  rw [e1, e2]
  exact Val.pure _) hs h
theorem Ox.len {x : Operand} {t e : TypeId} {a : Option Addr} {n cap : Nat} (hop : o.op = .call ⟨.builtin .len, #[x], #[t]⟩) (hx : evalS st x = some (.slice a n cap)) (ht : P.underlying t = some (.slice e))
  (hd : dstLt o.dst c.n) (hs : SubL (putS o.dst (.int .i64 (n : Int)) st) st') (h : C R H st') : SemTo P B c o R H st C :=
 Ox.val (by rw [hop]; rfl) hd (fun ρ hρ => by
  simp only [execOp, hop]
  refine Val.bind (a := ⟨.builtin .len #[t] o.type (#[x].map fun | .const _ => true | _ => false), #[x].map ρ⟩) (Val.pure _) ?_
  simp only [invoke, builtin]
  refine Val.bind (a := .int .i64 (n : Int)) ?_ (Val.pure _)
  have e : (#[x].map ρ) = #[.slice a n cap] := by simp [hρ x _ hx]
  rw [e]
  exact Val.bind (Val.underlying ht) (Val.pure _)) hs h
theorem Ox.lenStr {x : Operand} {t : TypeId} {s : ByteArray} (hop : o.op = .call ⟨.builtin .len, #[x], #[t]⟩) (hx : evalS st x = some (.string s)) (ht : P.underlying t = some .string)
  (hd : dstLt o.dst c.n) (hs : SubL (putS o.dst (.int .i64 (s.size : Int)) st) st') (h : C R H st') : SemTo P B c o R H st C :=
 Ox.val (by rw [hop]; rfl) hd (fun ρ hρ => by
  simp only [execOp, hop]
  refine Val.bind (a := ⟨.builtin .len #[t] o.type (#[x].map fun | .const _ => true | _ => false), #[x].map ρ⟩) (Val.pure _) ?_
  simp only [invoke, builtin]
  refine Val.bind (a := .int .i64 (s.size : Int)) ?_ (Val.pure _)
  have e : (#[x].map ρ) = #[.string s] := by simp [hρ x _ hx]
  rw [e]
  exact Val.bind (Val.underlying ht) (Val.pure _)) hs h
theorem val_callFunc {f : FuncId} {fn : Func} {args : Array Value} (hf : P.funcs[f]? = some fn) (hn : (fn.name == "runtime.NumGoroutine") = false) (hb : fn.body.isNone = false) : Val P (callFunc f args) (.enter f args) := by
 unfold callFunc
 refine Val.bind Val.program ?_
 simp only [hf, hn, hb]
 exact Val.pure _
structure Enters (P : Program) (f : FuncId) : Prop where
 ex : ∃ fn, P.funcs[f]? = some fn ∧ (fn.name == "runtime.NumGoroutine") = false ∧ fn.body.isNone = false
def argsS (st : St) : List Operand → Option (List Value)
 | [] => some []
 | x :: r => match evalS st x, argsS st r with
  | some v, some vs => some (v :: vs)
  | _, _ => none
theorem argsS_eval {st : St} {ρ : Operand → Value} (hρ : Knows st ρ) : ∀ (l : List Operand) (r : List Value), argsS st l = some r → l.map ρ = r
 | [], r, h => by cases h; rfl
 | x :: l, r, h => by
  simp only [argsS] at h
  cases hx : evalS st x with
  | none => simp [hx] at h
  | some v =>
   cases hl : argsS st l with
   | none => simp [hx, hl] at h
   | some vs =>
    simp [hx, hl] at h
    subst h
    simp [hρ x v hx, argsS_eval hρ l vs hl]
theorem Ox.callV {ca : Call} {x : Operand} {f : FuncId} {first captured : Array Value} {vs : List Value} {args : Array Value}
  (hop : o.op = .call ca) (hc : ca.callee = .value x) (hx : evalS st x = some (.func (.func f) first captured)) (ha : argsS st ca.args.toList = some vs) (he : Enters P f) (hargs : first ++ vs.toArray ++ captured = args)
  (hd : dstLt o.dst c.n) (hf : FnOk 𝒥 f args R H fun v R' H' => ∃ st', SubL (putS o.dst v st) st' ∧ C R' H' st') : OpTo 𝒥 c o R H st C :=
 ⟨by rw [hop]; rfl, hd, .inr ⟨f, args, fun ρ hρ => by
  obtain ⟨fn, h1, h2, h3⟩ := he.ex
  simp only [execOp, hop, resolve, hc, hρ x _ hx, Deferred.ofValue]
  have e : ca.args.map ρ = vs.toArray := by apply Array.ext'; simpa using argsS_eval hρ _ _ ha
  refine Val.bind (a := ⟨.fn (.func f) captured, first ++ vs.toArray⟩) (by rw [e]; exact Val.pure _) ?_
  simp only [invoke, hargs]
  exact val_callFunc h1 h2 h3, hf⟩⟩
end
end Go.Lg
