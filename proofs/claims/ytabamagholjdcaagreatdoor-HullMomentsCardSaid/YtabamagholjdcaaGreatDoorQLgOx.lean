/- The logic, on: operations in the words of models: lists, arithmetic, append. Conditions: none; over any program. -/
import Derived.Test.YtabamagholjdcaaGreatDoorQLgModel
namespace Go.Lg
open Go.Conc
section
variable {P : Program} {B : Base} {main : Bool} {𝒥 : Jd P B main} {c : Ctx} {R : RMap} {H H' : HList} {st st' : St} {o : Oper} {C : RMap → HList → St → Prop}
def IdxTo (P : Program) (t : TypeId) (v : Value) (i : Int) (b n : Nat) : Prop := ∀ kd, Val P (Instr.indexAt t v (.int kd i)) (.pointer (some ⟨b, n, none⟩))
theorem SlR.elem {α : Type} {K : CRel α} {k t e : Nat} {v : Value} {xs : List α} {i : Int} {x : α} (h : SlR K k R v xs) (ht : SliceTy P t e k) (hi : idx xs i = some x) :
  ∃ b n es, K R x es ∧ CellsAt R [] b n es ∧ IdxTo P t v i b n := by
 obtain ⟨h1, h2, h3⟩ := idx_some hi
 obtain ⟨A, cap, es, rfl, hE, _, hc⟩ := h
 obtain ⟨b, o, arr, e', fz, rfl, g2, g3⟩ := hc (by rintro rfl; simp at h3)
 obtain ⟨e1, f1, f2, f3⟩ := hE.at_ _ _ h3
 refine ⟨b, o + i.toNat * k, e1, f1, fun j w hj => ⟨rfl, arr, e', fz, .inl g2, ?_⟩, fun kd => ?_⟩
 ·have := g3 _ _ (f3 j w hj)
  simpa [Nat.add_assoc] using this
 ·have := val_index_slice (P := P) (b := b) (m := o) (cap := cap) (kd := kd) ht (j := i.toNat) (len := xs.length) (by omega)
  rwa [Int.toNat_of_nonneg h1] at this
theorem Ox.indexV {x y : Operand} {t : TypeId} {v : Value} {kd : IntKind} {i : Int} {b n : Nat} (hop : o.op = .indexAddr t x y) (hx : evalS st x = some v) (hy : evalS st y = some (.int kd i)) (hv : IdxTo P t v i b n)
  (hd : dstLt o.dst c.n) (hs : SubL (putS o.dst (.pointer (some ⟨b, n, none⟩)) st) st') (h : C R H st') : SemTo P B c o R H st C :=
 Ox.val' (s := fun ρ => Instr.indexAt t (ρ x) (ρ y)) (by rw [hop]; rfl) hd (fun ρ => by simp only [execOp, hop]) (fun ρ hρ => by rw [hρ x _ hx, hρ y _ hy]; exact hv kd) hs h
theorem idxArr {t e len k b m : Nat} {i : Int} (ht : ArrayTy P t len e k) (hi : 0 ≤ i ∧ i < len) : IdxTo P t (.pointer (some ⟨b, m, none⟩)) i b (m + i.toNat * k) := fun kd => by
 have := val_index_array (P := P) (b := b) (m := m) (kd := kd) ht (j := i.toNat) (by omega)
 rwa [Int.toNat_of_nonneg hi.1] at this
theorem Ox.lenS {α : Type} {K : CRel α} {k : Nat} {x : Operand} {t e : TypeId} {v : Value} {xs : List α} (hop : o.op = .call ⟨.builtin .len, #[x], #[t]⟩) (hx : evalS st x = some v) (hl : SlR K k R v xs) (ht : P.underlying t = some (.slice e))
  (hd : dstLt o.dst c.n) (hs : SubL (putS o.dst (.int .i64 (xs.length : Int)) st) st') (h : C R H st') : SemTo P B c o R H st C := by
 obtain ⟨A, cap, es, rfl, _⟩ := hl
 exact Ox.len hop hx ht hd hs h
theorem Ox.lenO {α : Type} {K : CRel α} {k e' : Nat} {x : Operand} {t e : TypeId} {v : Value} {xs : List α} {Hs : HList} (hop : o.op = .call ⟨.builtin .len, #[x], #[t]⟩) (hx : evalS st x = some v) (hl : OwnSl K k e' R v xs Hs) (ht : P.underlying t = some (.slice e))
  (hd : dstLt o.dst c.n) (hs : SubL (putS o.dst (.int .i64 (xs.length : Int)) st) st') (h : C R H st') : SemTo P B c o R H st C := by
 rcases hl with ⟨A, rfl, rfl, _⟩ | ⟨b, cap, cs, es, rfl, _⟩
 ·exact Ox.len hop hx ht hd hs h
 ·exact Ox.len hop hx ht hd hs h
def i64 (z : Int) : Int := IntKind.wrap .i64 z
theorem i64_fit {z : Int} (h : -9223372036854775808 ≤ z ∧ z ≤ 9223372036854775807) : i64 z = z := wrap_fit h
theorem Ox.ar {x y : Operand} {bo : BinOp} {t u : TypeId} {a b z : Int} {kd : IntKind} (hop : o.op = .binOp bo t x y u) (hx : evalS st x = some (.int kd a)) (hy : evalS st y = some (.int kd b)) (hr : arI bo a b = some z)
  (hd : dstLt o.dst c.n) (hs : SubL (putS o.dst (.int kd (kd.wrap z)) st) st') (h : C R H st') : SemTo P B c o R H st C :=
 Ox.val' (s := fun ρ => do eqGuard bo t x y (ρ x) (ρ y); binOp bo t (ρ x) (ρ y)) (by rw [hop]; rfl) hd (fun ρ => by simp only [execOp, hop]) (fun ρ hρ => by
  rw [hρ x _ hx, hρ y _ hy]
  refine Val.bind (val_guard_int _ _ _ _ _ _ _ _) ?_
  cases bo <;> simp only [arI, Option.some.injEq, reduceCtorEq] at hr <;> subst hr <;> simp only [binOp, ne_eq, not_true_eq_false, if_false, Op.intArith] <;> exact Val.pure _) hs h
theorem Ox.ngK {x : Operand} {t : TypeId} {a : Int} {kd : IntKind} (hop : o.op = .unOp .neg t x) (hx : evalS st x = some (.int kd a))
  (hd : dstLt o.dst c.n) (hs : SubL (putS o.dst (.int kd (kd.wrap (0 - a))) st) st') (h : C R H st') : SemTo P B c o R H st C :=
 Ox.val' (s := fun ρ => Op.unary .neg (ρ x)) (by rw [hop]; rfl) hd (fun ρ => by simp only [execOp, hop]) (fun ρ hρ => by
  rw [hρ x _ hx]
  simp only [Op.unary, Op.intArith]; exact Val.pure _) hs h
def shlM (kd : IntKind) (a b : Int) : Option Int := if b < 0 then none else some (kd.wrap (a * 2 ^ (min b.toNat kd.bits)))
def shrM (kd : IntKind) (a b : Int) : Option Int := if b < 0 then none else some (a.fdiv (2 ^ (min b.toNat kd.bits)))
theorem Ox.shl {x y : Operand} {t u : TypeId} {a b z : Int} {kd yk : IntKind} (hop : o.op = .binOp .shl t x y u) (hx : evalS st x = some (.int kd a)) (hy : evalS st y = some (.int yk b)) (hr : shlM kd a b = some z)
  (hd : dstLt o.dst c.n) (hs : SubL (putS o.dst (.int kd z) st) st') (h : C R H st') : SemTo P B c o R H st C :=
 Ox.val' (s := fun ρ => do eqGuard .shl t x y (ρ x) (ρ y); binOp .shl t (ρ x) (ρ y)) (by rw [hop]; rfl) hd (fun ρ => by simp only [execOp, hop]) (fun ρ hρ => by
  rw [hρ x _ hx, hρ y _ hy]
  refine Val.bind (val_guard_int _ _ _ _ _ _ _ _) ?_
  unfold shlM at hr
  split at hr
  ·cases hr
  ·cases hr; simp only [binOp, Op.shift, if_false, *]; exact Val.pure _) hs h
theorem Ox.shr {x y : Operand} {t u : TypeId} {a b z : Int} {kd yk : IntKind} (hop : o.op = .binOp .shr t x y u) (hx : evalS st x = some (.int kd a)) (hy : evalS st y = some (.int yk b)) (hr : shrM kd a b = some z)
  (hd : dstLt o.dst c.n) (hs : SubL (putS o.dst (.int kd z) st) st') (h : C R H st') : SemTo P B c o R H st C :=
 Ox.val' (s := fun ρ => do eqGuard .shr t x y (ρ x) (ρ y); binOp .shr t (ρ x) (ρ y)) (by rw [hop]; rfl) hd (fun ρ => by simp only [execOp, hop]) (fun ρ hρ => by
  rw [hρ x _ hx, hρ y _ hy]
  refine Val.bind (val_guard_int _ _ _ _ _ _ _ _) ?_
  unfold shrM at hr
  split at hr
  ·cases hr
  ·cases hr; simp only [binOp, Op.shift, if_false, *]; exact Val.pure _) hs h
def bitsI (bo : BinOp) (kd : IntKind) (a b : Int) : Option Int :=
 let a := BitVec.ofInt kd.bits a
 let b := BitVec.ofInt kd.bits b
 match bo with
 | .and => some (kd.wrap (a &&& b).toNat)
 | .or => some (kd.wrap (a ||| b).toNat)
 | .xor => some (kd.wrap (a ^^^ b).toNat)
 | .andNot => some (kd.wrap (a &&& ~~~b).toNat)
 | _ => none
theorem Ox.bits {x y : Operand} {bo : BinOp} {t u : TypeId} {a b z : Int} {kd : IntKind} (hop : o.op = .binOp bo t x y u) (hx : evalS st x = some (.int kd a)) (hy : evalS st y = some (.int kd b)) (hr : bitsI bo kd a b = some z)
  (hd : dstLt o.dst c.n) (hs : SubL (putS o.dst (.int kd z) st) st') (h : C R H st') : SemTo P B c o R H st C :=
 Ox.val' (s := fun ρ => do eqGuard bo t x y (ρ x) (ρ y); binOp bo t (ρ x) (ρ y)) (by rw [hop]; rfl) hd (fun ρ => by simp only [execOp, hop]) (fun ρ hρ => by
  rw [hρ x _ hx, hρ y _ hy]
  refine Val.bind (val_guard_int _ _ _ _ _ _ _ _) ?_
  cases bo <;> simp only [bitsI, Option.some.injEq, reduceCtorEq] at hr <;> subst hr <;> simp only [binOp, ne_eq, not_true_eq_false, if_false, Op.intBits] <;> exact Val.pure _) hs h
def cmpS : BinOp → ByteArray → ByteArray → Option Bool
 | .eql, x, y => some (x.toList == y.toList)
 | .neq, x, y => some (!(x.toList == y.toList))
 | _, _, _ => none
theorem val_guard_str (op : BinOp) (t : TypeId) (x y : Operand) (a b : ByteArray) : Val P (eqGuard op t x y (.string a) (.string b)) () := by
 unfold eqGuard
 cases op <;> exact Val.pure _
theorem Ox.cmpStr {x y : Operand} {bo : BinOp} {t u : TypeId} {a b : ByteArray} {r : Bool} (hop : o.op = .binOp bo t x y u) (hx : evalS st x = some (.string a)) (hy : evalS st y = some (.string b)) (hr : cmpS bo a b = some r)
  (hd : dstLt o.dst c.n) (hs : SubL (putS o.dst (.bool r) st) st') (h : C R H st') : SemTo P B c o R H st C :=
 Ox.val' (s := fun ρ => do eqGuard bo t x y (ρ x) (ρ y); binOp bo t (ρ x) (ρ y)) (by rw [hop]; rfl) hd (fun ρ => by simp only [execOp, hop]) (fun ρ hρ => by
  rw [hρ x _ hx, hρ y _ hy]
  refine Val.bind (val_guard_str _ _ _ _ _ _) ?_
  cases bo <;> simp only [cmpS, Option.some.injEq, reduceCtorEq] at hr <;> subst hr <;> simp only [binOp, Op.stringOp] <;> exact Val.pure _) hs h
def cmpB : BinOp → Bool → Bool → Option Bool
 | .eql, x, y => some (x == y)
 | .neq, x, y => some (!(x == y))
 | _, _, _ => none
theorem val_guard_bool (op : BinOp) (t : TypeId) (x y : Operand) (a b : Bool) : Val P (eqGuard op t x y (.bool a) (.bool b)) () := by
 unfold eqGuard
 cases op <;> exact Val.pure _
theorem val_eq_bool {t : TypeId} (ht : P.underlying t = some .bool) (a b : Bool) : Val P (Op.equal t (.bool a) (.bool b)) (a == b) := by
 unfold Op.equal Op.maxDepth
 rw [Op.equalIn]
 exact Val.bind (Val.underlying ht) (Val.pure _)
theorem Ox.cmpBool {x y : Operand} {bo : BinOp} {t u : TypeId} {a b r : Bool} (hop : o.op = .binOp bo t x y u) (hx : evalS st x = some (.bool a)) (hy : evalS st y = some (.bool b)) (ht : P.underlying t = some .bool) (hr : cmpB bo a b = some r)
  (hd : dstLt o.dst c.n) (hs : SubL (putS o.dst (.bool r) st) st') (h : C R H st') : SemTo P B c o R H st C :=
 Ox.val' (s := fun ρ => do eqGuard bo t x y (ρ x) (ρ y); binOp bo t (ρ x) (ρ y)) (by rw [hop]; rfl) hd (fun ρ => by simp only [execOp, hop]) (fun ρ hρ => by
  rw [hρ x _ hx, hρ y _ hy]
  refine Val.bind (val_guard_bool _ _ _ _ _ _) ?_
  cases bo <;> simp only [cmpB, Option.some.injEq, reduceCtorEq] at hr <;> subst hr <;> simp only [binOp] <;> exact Val.bind (val_eq_bool ht a b) (Val.pure _)) hs h
theorem Ox.cmpAgg {x y : Operand} {bo : BinOp} {t u : TypeId} {a b : Array Value} {q : Bool} (hop : o.op = .binOp bo t x y u) (hx : evalS st x = some (.agg a)) (hy : evalS st y = some (.agg b)) (hg : P.eqGuardType P.depth t = false) (hq : Val P (Op.equal t (.agg a) (.agg b)) q) {r : Bool} (hr : cmpB bo q true = some r)
  (hd : dstLt o.dst c.n) (hs : SubL (putS o.dst (.bool r) st) st') (h : C R H st') : SemTo P B c o R H st C :=
 Ox.val' (s := fun ρ => do eqGuard bo t x y (ρ x) (ρ y); binOp bo t (ρ x) (ρ y)) (by rw [hop]; rfl) hd (fun ρ => by simp only [execOp, hop]) (fun ρ hρ => by
  rw [hρ x _ hx, hρ y _ hy]
  have hgd : Val P (eqGuard bo t x y (.agg a) (.agg b)) () := by
   unfold eqGuard
   cases bo <;> simp only [cmpB, reduceCtorEq] at hr <;> exact Val.bind Val.program (Val.bind Val.program (by simp only [hg]; exact Val.pure _))
  refine Val.bind hgd ?_
  cases bo <;> simp only [cmpB, Option.some.injEq, reduceCtorEq] at hr <;> subst hr <;> simp only [binOp]
  ·exact Val.bind hq (by cases q <;> exact Val.pure _)
  ·exact Val.bind hq (by cases q <;> exact Val.pure _)) hs h
def maxI : Int → List Int → Int
 | x, [] => x
 | x, y :: r => maxI (if y > x then y else x) r
def minI : Int → List Int → Int
 | x, [] => x
 | x, y :: r => minI (if y < x then y else x) r
theorem val_max {kd : IntKind} : ∀ (l : List Int) (x : Int), Val P ((l.map (Value.int kd)).foldlM Builtin.max2 (.int kd x)) (.int kd (maxI x l))
 | [], x => Val.pure _
 | y :: r, x => by
  simp only [List.map_cons, List.foldlM_cons, maxI]
  exact Val.bind (a := .int kd (if y > x then y else x)) (Val.pure _) (val_max r _)
theorem val_min {kd : IntKind} : ∀ (l : List Int) (x : Int), Val P ((l.map (Value.int kd)).foldlM Builtin.min2 (.int kd x)) (.int kd (minI x l))
 | [], x => Val.pure _
 | y :: r, x => by
  simp only [List.map_cons, List.foldlM_cons, minI]
  exact Val.bind (a := .int kd (if y < x then y else x)) (Val.pure _) (val_min r _)
theorem Ox.max {xs : Array Operand} {ts : Array TypeId} {kd : IntKind} {a : Int} {l : List Int} (hop : o.op = .call ⟨.builtin .max, xs, ts⟩) (hx : argsS st xs.toList = some (.int kd a :: l.map (Value.int kd)))
  (hd : dstLt o.dst c.n) (hs : SubL (putS o.dst (.int kd (maxI a l)) st) st') (h : C R H st') : SemTo P B c o R H st C :=
 Ox.val (by rw [hop]; rfl) hd (fun ρ hρ => by
  simp only [execOp, hop]
  refine Val.bind (a := ⟨.builtin .max ts o.type (xs.map fun | .const _ => true | _ => false), xs.map ρ⟩) (Val.pure _) ?_
  simp only [invoke, builtin, Builtin.max_]
  have e : (xs.map ρ).toList = .int kd a :: l.map (Value.int kd) := by simpa using argsS_eval hρ _ _ hx
  rw [e]
  exact Val.bind (val_max l a) (Val.pure _)) hs h
theorem Ox.min {xs : Array Operand} {ts : Array TypeId} {kd : IntKind} {a : Int} {l : List Int} (hop : o.op = .call ⟨.builtin .min, xs, ts⟩) (hx : argsS st xs.toList = some (.int kd a :: l.map (Value.int kd)))
  (hd : dstLt o.dst c.n) (hs : SubL (putS o.dst (.int kd (minI a l)) st) st') (h : C R H st') : SemTo P B c o R H st C :=
 Ox.val (by rw [hop]; rfl) hd (fun ρ hρ => by
  simp only [execOp, hop]
  refine Val.bind (a := ⟨.builtin .min ts o.type (xs.map fun | .const _ => true | _ => false), xs.map ρ⟩) (Val.pure _) ?_
  simp only [invoke, builtin, Builtin.min_]
  have e : (xs.map ρ).toList = .int kd a :: l.map (Value.int kd) := by simpa using argsS_eval hρ _ _ hx
  rw [e]
  exact Val.bind (val_min l a) (Val.pure _)) hs h
theorem Ox.convI {x : Operand} {t u : TypeId} {kd ks k0 : IntKind} {a : Int} (hop : o.op = .convert t u x) (hx : evalS st x = some (.int ks a)) (ht : P.underlying t = some (.int k0)) (hu : P.underlying u = some (.int kd))
  (hd : dstLt o.dst c.n) (hs : SubL (putS o.dst (.int kd (kd.wrap a)) st) st') (h : C R H st') : SemTo P B c o R H st C :=
 Ox.val' (s := fun ρ => convert t u (ρ x)) (by rw [hop]; rfl) hd (fun ρ => by simp only [execOp, hop]) (fun ρ hρ => by
  rw [hρ x _ hx]
  unfold convert
  refine Val.bind (Val.underlying ht) (Val.bind (Val.underlying hu) ?_)
  exact Val.pure _) hs h
theorem cutM_some {α : Type} {xs ys : List α} {lo hi : Int} (h : cutM xs lo hi = some ys) : 0 ≤ lo ∧ lo ≤ hi ∧ hi ≤ xs.length ∧ ys = (xs.take hi.toNat).drop lo.toNat := by
 unfold cutM at h
 split at h
 ·cases h; rename_i h; exact ⟨h.1, h.2.1, h.2.2, rfl⟩
 ·cases h
def loS (st : St) : Option Operand → Option Int
 | none => some 0
 | some x => match evalS st x with | some (.int _ i) => some i | _ => none
def hiS (st : St) (n : Nat) : Option Operand → Option Int
 | none => some n
 | some x => match evalS st x with | some (.int _ i) => some i | _ => none
theorem val_bound {kd : IntKind} {i : Int} {y : Nat} {cd : BoundsCode} (h : 0 ≤ i ∧ i ≤ y) : Val P (Instr.sliceBound (.int kd i) y cd) i.toNat := by
 unfold Instr.sliceBound
 refine Val.bind (a := (kd, i)) (Val.pure _) ?_
 simp only [h, and_self, if_true]
 exact Val.pure _
theorem val_bounds {ρ : Operand → Value} (hρ : Knows st ρ) {len cap : Nat} {lo hi : Option Operand} {l h : Int} (hl : loS st lo = some l) (hh : hiS st len hi = some h) (hb : 0 ≤ l ∧ l ≤ h ∧ h ≤ len) (hc : len ≤ cap) :
  Val P (Instr.sliceBounds true len cap (lo.map ρ) (hi.map ρ) none) (l.toNat, h.toNat, cap) := by
 have h1 : (lo = none ∧ l = 0) ∨ ∃ x kd, lo = some x ∧ ρ x = .int kd l := by
  cases lo with
  | none => simp only [loS, Option.some.injEq] at hl; exact .inl ⟨rfl, hl.symm⟩
  | some x =>
   simp only [loS] at hl
   cases hx : evalS st x with
   | none => simp [hx] at hl
   | some v =>
    cases v <;> simp [hx] at hl
    subst hl
    exact .inr ⟨x, _, rfl, hρ x _ hx⟩
 have h2 : (hi = none ∧ h = len) ∨ ∃ x kd, hi = some x ∧ ρ x = .int kd h := by
  cases hi with
  | none => simp only [hiS, Option.some.injEq] at hh; exact .inl ⟨rfl, hh.symm⟩
  | some x =>
   simp only [hiS] at hh
   cases hx : evalS st x with
   | none => simp [hx] at hh
   | some v =>
    cases v <;> simp [hx] at hh
    subst hh
    exact .inr ⟨x, _, rfl, hρ x _ hx⟩
 unfold Instr.sliceBounds
 rcases h1 with ⟨rfl, rfl⟩ | ⟨x, kx, rfl, hx⟩ <;> rcases h2 with ⟨rfl, rfl⟩ | ⟨y, ky, rfl, hy⟩ <;> simp only [Option.map_none, Option.map_some, *]
 ·exact Val.bind (a := cap) (Val.pure _) (Val.bind (a := (len : Int).toNat) (by rw [Int.toNat_natCast]; exact Val.pure _) (Val.bind (a := (0 : Int).toNat) (Val.pure _) (Val.pure _)))
 ·exact Val.bind (a := cap) (Val.pure _) (Val.bind (a := h.toNat) (val_bound ⟨by omega, by omega⟩) (Val.bind (a := (0 : Int).toNat) (Val.pure _) (Val.pure _)))
 ·exact Val.bind (a := cap) (Val.pure _) (Val.bind (a := (len : Int).toNat) (by rw [Int.toNat_natCast]; exact Val.pure _) (Val.bind (a := l.toNat) (val_bound ⟨by omega, by omega⟩) (Val.pure _)))
 ·exact Val.bind (a := cap) (Val.pure _) (Val.bind (a := h.toNat) (val_bound ⟨by omega, by omega⟩) (Val.bind (a := l.toNat) (val_bound ⟨by omega, by omega⟩) (Val.pure _)))
end
end Go.Lg
