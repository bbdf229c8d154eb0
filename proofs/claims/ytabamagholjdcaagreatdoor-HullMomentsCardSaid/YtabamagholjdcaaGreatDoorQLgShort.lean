/- The logic, on: runs of operations that look at no memory are carried out at once, in their order, or in a region that draws it; short forms. Conditions: none; over any program; what hangs on the program's types is asked as a fact. -/
import Derived.Test.YtabamagholjdcaaGreatDoorQLgMapw
namespace Go.Lg
open Go.Conc
class Fields (P : Program) where
 off : Nat → Nat → Option Nat
 ok : ∀ s f n, off s f = some n → FieldAt P s f n
def pureV (fo : Nat → Nat → Option Nat) (st : St) (o : Oper) : Option Value :=
 match o.op with
 | .move x => evalS st x
 | .assign x => evalS st x
 | .pick x y z => match evalS st x with
  | some (.bool true) => evalS st y
  | some (.bool false) => evalS st z
  | _ => none
 | .extract x j => match evalS st x with
  | some (.tuple vs) => vs[j]?
  | _ => none
 | .unOp .not _ x => match evalS st x with
  | some (.bool a) => some (.bool (!a))
  | _ => none
 | .binOp bo _ x y _ => match evalS st x, evalS st y with
  | some (.int kd a), some (.int kd' b) => if kd = kd' then (match cmpI bo a b with
   | some r => some (.bool r)
   | none => match arI bo a b with
    | some z => some (.int kd (kd.wrap z))
    | none => none) else none
  | _, _ => none
 | .fieldAddr s x f => match evalS st x, fo s f with
  | some (.pointer (some ⟨b, n, none⟩)), some off => some (.pointer (some ⟨b, n + off, none⟩))
  | _, _ => none
 | _ => none
section
variable {P : Program} [Fields P] {B : Base} {main : Bool} {𝒥 : Jd P B main} {c : Ctx} {R : RMap} {H : HList} {st st' : St} {o : Oper} {C : RMap → HList → St → Prop} {k : List Item}
theorem pureV_ok {v : Value} (h : pureV (Fields.off P) st o = some v) (hd : dstLt o.dst c.n) (hs : SubL (putS o.dst v st) st') (hC : C R H st') : SemTo P B c o R H st C := by
 unfold pureV at h
 split at h
 ·rename_i x hop; exact Ox.move hop h hd hs hC
 ·rename_i x hop; exact Ox.assign hop h hd hs hC
 ·rename_i x y z hop
  split at h
  ·rename_i hx; exact Ox.pick_true hop hx h hd hs hC
  ·rename_i hx; exact Ox.pick_false hop hx h hd hs hC
  ·cases h
 ·rename_i x j hop
  split at h
  ·rename_i hx; exact Ox.extract hop hx h hd hs hC
  ·cases h
 ·rename_i t x hop
  split at h
  ·rename_i hx; cases h; exact Ox.not hop hx hd hs hC
  ·cases h
 ·rename_i bo t x y u hop
  split at h
  ·rename_i kd a kd' b hx hy
   split at h
   ·rename_i e; subst e
    split at h
    ·rename_i r hr; cases h; exact Ox.cmp hop hx hy hr hd hs hC
    ·split at h
     ·rename_i z hz; cases h; exact Ox.ar hop hx hy hz hd hs hC
     ·cases h
   ·cases h
  ·cases h
 ·rename_i s x f hop
  split at h
  ·rename_i hx hf; cases h; exact Ox.fieldAddr hop hx (Fields.ok s f _ hf) hd hs hC
  ·cases h
 ·cases h
def stepV (fo : Nat → Nat → Option Nat) (ops : Array Oper) (n : Nat) (st : St) (i : Nat) : Option St :=
 match ops[i]? with
 | none => none
 | some o => match wantedS ops st o with
  | some true => match pureV fo st o, o.dst with
   | some v, some d => if Nat.blt d n = true then some ((d, v) :: st) else none
   | _, _ => none
  | some false => match isDefer o.op, o.dst with
   | false, some d => if Nat.blt d n = true then some ((d, undef) :: st) else none
   | false, none => some st
   | _, _ => none
  | none => none
def runV (fo : Nat → Nat → Option Nat) (ops : Array Oper) (n : Nat) : List Nat → St → Option St
 | [], st => some st
 | i :: is, st => match stepV fo ops n st i with
  | some st' => runV fo ops n is st'
  | none => none
theorem stepV_cases {ops : Array Oper} {n i : Nat} {fo : Nat → Nat → Option Nat} (h : stepV fo ops n st i = some st') : ∃ o, ops[i]? = some o ∧
  ((wantedS ops st o = some true ∧ ∃ v d, pureV fo st o = some v ∧ o.dst = some d ∧ dstLt (some d) n ∧ st' = (d, v) :: st) ∨
   (wantedS ops st o = some false ∧ isDefer o.op = false ∧ dstLt o.dst n ∧ st' = putS o.dst undef st)) := by
 unfold stepV at h
 split at h
 ·cases h
 ·rename_i o ho
  refine ⟨o, ho, ?_⟩
  split at h
  ·rename_i hw
   split at h
   ·rename_i v d hv hd
    split at h
    ·rename_i hl; cases h; exact .inl ⟨hw, v, d, hv, hd, hl, rfl⟩
    ·cases h
   ·cases h
  ·rename_i hw
   split at h
   ·rename_i d hdf hd
    split at h
    ·rename_i hl; cases h; exact .inr ⟨hw, hdf, by rw [hd]; exact hl, by rw [hd]; rfl⟩
    ·cases h
   ·rename_i hdf hd
    cases h; exact .inr ⟨hw, hdf, by rw [hd]; rfl, by rw [hd]; rfl⟩
   ·cases h
  ·cases h
theorem At.run {ops : Array Oper} (hk : (c.kind == CallKind.early) = false) : ∀ {is rest : List Nat} {st : St}, runV (Fields.off P) ops c.n is st = some st' → At 𝒥 c R H st' (.inRegion ops rest :: k) → At 𝒥 c R H st (.inRegion ops (is ++ rest) :: k)
 | [], rest, st, h, ha => by cases h; exact ha
 | i :: is, rest, st, h, ha => by
  unfold runV at h
  split at h
  ·rename_i st1 h1
   have ih := At.run hk h ha
   obtain ⟨o, ho, ⟨hw, v, d, hv, hd, hl, rfl⟩ | ⟨hw, hdf, hl, rfl⟩⟩ := stepV_cases h1
   ·exact At.stepS ho hw hk (pureV_ok hv (by rw [hd]; exact hl) (by rw [hd]; exact SubL.refl _) ih)
   ·exact At.unwanted ho hw hl (SubL.refl _) ih
  ·cases h
theorem At.vs (m : Nat) {ops : Array Oper} {is is' : List Nat} (h : runV (Fields.off P) ops c.n (is.take m) st = some st') (hr : is.drop m = is') (ha : At 𝒥 c R H st' (.inRegion ops is' :: k)) (hk : (c.kind == CallKind.early) = false := by rfl) : At 𝒥 c R H st (.inRegion ops is :: k) := by
 subst hr
 have := At.run (rest := is.drop m) hk h ha
 rwa [List.take_append_drop] at this
def depF (ops : Array Oper) (rem : List Nat) (i : Nat) : Nat → List Nat → List Nat
 | 0, D => D
 | n + 1, D => depF ops rem i n (rem.filter fun j => j != i && (D.contains j || match ops[j]? with | some o => o.after.any fun e => Region.binds .any e && (e.on == i || D.contains e.on) | none => false))
def depOf (ops : Array Oper) (rem : List Nat) (i : Nat) : List Nat := depF ops rem i rem.length []
def ckV (ops : Array Oper) : List Nat → List Nat → Bool
 | _, [] => true
 | rem, i :: is => decide rem.Nodup && takeOk ops rem i (depOf ops rem i) && ckV ops (rem.erase i) is
theorem Any.vs' {S : Nat → HList} {ops : Array Oper} {n : Nat} : ∀ (is : List Nat) {rem : List Nat} {st : St}, runV (Fields.off P) ops c.n is st = some st' → ckV ops rem is = true → Any 𝒥 c S ops k n (is.foldl List.erase rem) R H st' → Any 𝒥 c S ops k (n + is.length) rem R H st
 | [], rem, st, h, _, ha => by cases h; exact ha
 | i :: is, rem, st, h, hc, ha => by
  unfold runV at h
  split at h
  ·rename_i st1 h1
   simp only [ckV, Bool.and_eq_true, decide_eq_true_eq] at hc
   obtain ⟨⟨hnd, htk⟩, hc⟩ := hc
   have ih := Any.vs' is h hc ha
   obtain ⟨o, ho, ⟨hw, v, d, hv, hd, hl, rfl⟩ | ⟨hw, hdf, hl, rfl⟩⟩ := stepV_cases h1
   ·exact Any.takeS (N := []) _ ho hd hw htk (fun _ _ _ _ p hp => by cases hp) (fun p hp => by cases hp) (fun R' H' _ _ => pureV_ok hv (by rw [hd]; exact hl) (.one hd) ⟨rfl, rfl, rfl⟩) (SubL.refl _) hnd rfl ih
   ·exact Any.takeIdle _ ho htk hdf hl hw (SubL.refl _) hnd rfl ih
  ·cases h
theorem Any.vs {S : Nat → HList} {ops : Array Oper} {n : Nat} (m : Nat) (is : List Nat) {rem : List Nat} {st : St} (h : runV (Fields.off P) ops c.n is st = some st') (ha : Any 𝒥 c S ops k n (is.foldl List.erase rem) R H st') (hc : ckV ops rem is = true := by decide +kernel) (hm : is.length = m := by rfl) : Any 𝒥 c S ops k (n + m) rem R H st := by
 subst hm
 exact Any.vs' is h hc ha
end
section
variable {P : Program} {B : Base} {main : Bool} {𝒥 : Jd P B main} {c : Ctx} {R : RMap} {H : HList} {st st' : St} {o : Oper} {C : RMap → HList → St → Prop} {k : List Item}
theorem At.rg (is : List Nat) {id : Nat} {ops : Array Oper} (h : At 𝒥 c R H st (.inRegion ops is :: k)) (hn : ops.size = is.length := by rfl) (his : List.range is.length = is := by rfl) : At 𝒥 c R H st (.code (.region id ops false) :: k) := At.regionIs hn his h
theorem At.dw (is : List Nat) {id : Nat} {ops : Array Oper} (hm : P.follows .mixedOrders = true) (h : Any 𝒥 c (fun _ => H) ops k is.length is R H st) (hk : (c.kind == CallKind.early) = false := by rfl) (hb : backward ops = true := by decide +kernel) (hn : ops.size = is.length := by rfl) (his : List.range is.length = is := by rfl) : At 𝒥 c R H st (.code (.region id ops true) :: k) := At.drawH hm hk hb hn his h
theorem Any.tk (i : Nat) {N : HList} {ops : Array Oper} {n d : Nat} {rem : List Nat} {v : Value} (ho : ops[i]? = some o) (hS : ∀ p ∈ N, p ∈ H) (hf : ∀ R' H', RLe R R' → (∀ p ∈ N, p ∈ H') → SemTo P B c o R' H' st fun R1 H1 st1 => R1 = R' ∧ H1 = H' ∧ st1 = [(d, v)])
  (h : Any 𝒥 c (fun _ => N) ops k n (rem.erase i) R H ((d, v) :: st)) (hdst : o.dst = some d := by rfl) (hw : wantedS ops st o = some true := by rfl) (htk : takeOk ops rem i (depOf ops rem i) = true := by decide +kernel) (hnd : rem.Nodup := by decide) : Any 𝒥 c (fun _ => N) ops k (n + 1) rem R H st :=
 Any.takeS _ ho hdst hw htk (fun _ _ _ _ _ hp => hp) hS hf (SubL.refl _) hnd rfl h
theorem At.cv {ops : Array Oper} {i d : Nat} {rest : List Nat} {ca : Call} {x : Operand} {f : FuncId} {first captured : Array Value} {vs : List Value} {args : Array Value} {Post : Value → RMap → HList → Prop} (he : Enters P f) (hf : FnOk 𝒥 f args R H Post)
  (h : ∀ v R' H', Post v R' H' → At 𝒥 c R' H' ((d, v) :: st) (.inRegion ops rest :: k))
  (ho : ops[i]? = some o := by rfl) (hw : wantedS ops st o = some true := by rfl) (hk : (c.kind == CallKind.early) = false := by rfl) (hop : o.op = .call ca := by rfl) (hc : ca.callee = .value x := by rfl) (hx : evalS st x = some (.func (.func f) first captured) := by rfl)
  (ha : argsS st ca.args.toList = some vs := by rfl) (hargs : first ++ vs.toArray ++ captured = args := by rfl) (hd : o.dst = some d := by rfl) (hl : Nat.blt d c.n = true := by rfl) : At 𝒥 c R H st (.inRegion ops (i :: rest) :: k) :=
 At.step ho hw hk (Ox.callV hop hc hx ha he hargs (by rw [hd]; exact hl) (hf.mono fun v R' H' hp => ⟨_, .put hd, h v R' H' hp⟩))
theorem Any.cv (i : Nat) {S : Nat → HList} {ops : Array Oper} {n d : Nat} {rem : List Nat} {ca : Call} {x : Operand} {f : FuncId} {first captured : Array Value} {vs : List Value} {args : Array Value} {Post : Value → RMap → HList → Prop} (he : Enters P f) (hf : FnOk 𝒥 f args R H Post)
  (h : ∀ v R' H', Post v R' H' → RLe R R' ∧ (∀ p ∈ S i, p ∈ H → p ∈ H') ∧ Any 𝒥 c S ops k n (rem.erase i) R' H' ((d, v) :: st))
  (ho : ops[i]? = some o := by rfl) (hw : wantedS ops st o = some true := by rfl) (hop : o.op = .call ca := by rfl) (hc : ca.callee = .value x := by rfl) (hx : evalS st x = some (.func (.func f) first captured) := by rfl)
  (ha : argsS st ca.args.toList = some vs := by rfl) (hargs : first ++ vs.toArray ++ captured = args := by rfl) (hd : o.dst = some d := by rfl) (hl : Nat.blt d c.n = true := by rfl) (hrd : rem.filter (readyR ops rem) = [i] := by decide +kernel) (hnd : rem.Nodup := by decide) : Any 𝒥 c S ops k (n + 1) rem R H st :=
 Any.one ho hrd hw hnd rfl (Ox.callV hop hc hx ha he hargs (by rw [hd]; exact hl) (hf.mono fun v R' H' hp => ⟨_, .put hd, h v R' H' hp⟩))
theorem Any.on (i : Nat) {S : Nat → HList} {ops : Array Oper} {n : Nat} {rem : List Nat} (ho : ops[i]? = some o) (hw : wantedS ops st o = some true)
  (h : OpTo 𝒥 c o R H st fun R' H' st' => RLe R R' ∧ (∀ p ∈ S i, p ∈ H → p ∈ H') ∧ Any 𝒥 c S ops k n (rem.erase i) R' H' st') (hrd : rem.filter (readyR ops rem) = [i] := by decide +kernel) (hnd : rem.Nodup := by decide) : Any 𝒥 c S ops k (n + 1) rem R H st := Any.one ho hrd hw hnd rfl h
theorem At.ld {ops : Array Oper} {i d : Nat} {rest : List Nat} {x : Operand} {t : TypeId} {b off : Nat} {v : Value} (ht : OneTy P t) (hc : Cell R H ⟨b, off, none⟩ v) (h : At 𝒥 c R H ((d, v) :: st) (.inRegion ops rest :: k))
  (ho : ops[i]? = some o := by rfl) (hw : wantedS ops st o = some true := by rfl) (hk : (c.kind == CallKind.early) = false := by rfl) (hop : o.op = .load t x := by rfl) (hx : evalS st x = some (.pointer (some ⟨b, off, none⟩)) := by rfl) (hd : o.dst = some d := by rfl) (hl : Nat.blt d c.n = true := by rfl) : At 𝒥 c R H st (.inRegion ops (i :: rest) :: k) :=
 At.stepS ho hw hk (Ox.load1 hop hx ht hc (by rw [hd]; exact hl) (.put hd) h)
theorem At.kn (t : Nat) {x b : Bool} {todo : List Item} (hb : x = b) (h : At 𝒥 c R H ((t, .bool b) :: st) todo) (hx : st.lookup t = some (.bool x) := by rfl) : At 𝒥 c R H st todo := At.known hx hb h
theorem At.s {ops : Array Oper} {i : Nat} {rest : List Nat} (ho : ops[i]? = some o) (hw : wantedS ops st o = some true) (h : SemTo P B c o R H st fun R' H' st' => At 𝒥 c R' H' st' (.inRegion ops rest :: k)) (hk : (c.kind == CallKind.early) = false := by rfl) : At 𝒥 c R H st (.inRegion ops (i :: rest) :: k) := At.stepS ho hw hk h
end
abbrev rg1 : List Nat := [0]
abbrev rg2 : List Nat := [0, 1]
abbrev rg3 : List Nat := [0, 1, 2]
abbrev rg4 : List Nat := [0, 1, 2, 3]
abbrev rg5 : List Nat := [0, 1, 2, 3, 4]
abbrev rg6 : List Nat := [0, 1, 2, 3, 4, 5]
abbrev rg7 : List Nat := [0, 1, 2, 3, 4, 5, 6]
abbrev rg8 : List Nat := [0, 1, 2, 3, 4, 5, 6, 7]
abbrev rg9 : List Nat := [0, 1, 2, 3, 4, 5, 6, 7, 8]
abbrev rg10 : List Nat := [0, 1, 2, 3, 4, 5, 6, 7, 8, 9]
abbrev rg11 : List Nat := [0, 1, 2, 3, 4, 5, 6, 7, 8, 9, 10]
abbrev rg12 : List Nat := [0, 1, 2, 3, 4, 5, 6, 7, 8, 9, 10, 11]
abbrev rg13 : List Nat := [0, 1, 2, 3, 4, 5, 6, 7, 8, 9, 10, 11, 12]
abbrev rg14 : List Nat := [0, 1, 2, 3, 4, 5, 6, 7, 8, 9, 10, 11, 12, 13]
abbrev rg15 : List Nat := [0, 1, 2, 3, 4, 5, 6, 7, 8, 9, 10, 11, 12, 13, 14]
abbrev rg16 : List Nat := [0, 1, 2, 3, 4, 5, 6, 7, 8, 9, 10, 11, 12, 13, 14, 15]
abbrev rg18 : List Nat := [0, 1, 2, 3, 4, 5, 6, 7, 8, 9, 10, 11, 12, 13, 14, 15, 16, 17]
abbrev rg19 : List Nat := [0, 1, 2, 3, 4, 5, 6, 7, 8, 9, 10, 11, 12, 13, 14, 15, 16, 17, 18]
abbrev rg20 : List Nat := [0, 1, 2, 3, 4, 5, 6, 7, 8, 9, 10, 11, 12, 13, 14, 15, 16, 17, 18, 19]
abbrev rg26 : List Nat := [0, 1, 2, 3, 4, 5, 6, 7, 8, 9, 10, 11, 12, 13, 14, 15, 16, 17, 18, 19, 20, 21, 22, 23, 24, 25]
abbrev rg27 : List Nat := [0, 1, 2, 3, 4, 5, 6, 7, 8, 9, 10, 11, 12, 13, 14, 15, 16, 17, 18, 19, 20, 21, 22, 23, 24, 25, 26]
abbrev rg34 : List Nat := [0, 1, 2, 3, 4, 5, 6, 7, 8, 9, 10, 11, 12, 13, 14, 15, 16, 17, 18, 19, 20, 21, 22, 23, 24, 25, 26, 27, 28, 29, 30, 31, 32, 33]
abbrev rg39 : List Nat := [0, 1, 2, 3, 4, 5, 6, 7, 8, 9, 10, 11, 12, 13, 14, 15, 16, 17, 18, 19, 20, 21, 22, 23, 24, 25, 26, 27, 28, 29, 30, 31, 32, 33, 34, 35, 36, 37, 38]
abbrev rg41 : List Nat := [0, 1, 2, 3, 4, 5, 6, 7, 8, 9, 10, 11, 12, 13, 14, 15, 16, 17, 18, 19, 20, 21, 22, 23, 24, 25, 26, 27, 28, 29, 30, 31, 32, 33, 34, 35, 36, 37, 38, 39, 40]
abbrev rg44 : List Nat := [0, 1, 2, 3, 4, 5, 6, 7, 8, 9, 10, 11, 12, 13, 14, 15, 16, 17, 18, 19, 20, 21, 22, 23, 24, 25, 26, 27, 28, 29, 30, 31, 32, 33, 34, 35, 36, 37, 38, 39, 40, 41, 42, 43]
end Go.Lg
