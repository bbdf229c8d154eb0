/- The logic, on: maps whose keys are arrays of Bool and whose values are numbers. Conditions: none; what hangs on the program's types is asked as a fact. -/
import Derived.Test.YtabamagholjdcaaGreatDoorQLgIter
namespace Go.Lg
open Go.Conc
abbrev Tab := List (List Bool × Int)
def keyV (k : List Bool) : Value := .agg (List.toArray ([] ++ (k.map Value.bool ++ [])))
def EntL : List MapEntry → Tab → Prop
 | [], m => m = []
 | e :: es, m => ∃ k z r, m = (k, z) :: r ∧ e.key = keyV k ∧ e.val = .int .i64 z ∧ k.length = 5 ∧ EntL es r
def nilTab : Tab := [([], 0)]
def mapGet (m : Tab) (k : List Bool) : Int := (m.lookup k).getD 0
theorem EntL.push {e : MapEntry} {k : List Bool} {z : Int} (h1 : e.key = keyV k) (h2 : e.val = .int .i64 z) (h3 : k.length = 5) : ∀ {es : List MapEntry} {m : Tab}, EntL es m → EntL (es ++ [e]) (m ++ [(k, z)])
 | [], m, h => by cases h; exact ⟨k, z, [], rfl, h1, h2, h3, rfl⟩
 | _ :: es, m, h => by
  obtain ⟨k', z', r, rfl, a, b, c, d⟩ := h
  exact ⟨k', z', r ++ [(k, z)], rfl, a, b, c, EntL.push h1 h2 h3 d⟩
def OwnM (v : Value) (m : Tab) (Hs : HList) : Prop := (v = .map none ∧ m = nilTab ∧ Hs = []) ∨ ∃ b es clock, v = .map (some b) ∧ Hs = [(b, .map es clock)] ∧ EntL es.toList m ∧ (m.map (·.1)).Nodup
def MapR (R : RMap) (v : Value) (m : Tab) : Prop := (v = .map none ∧ m = nilTab) ∨ ∃ b es clock m', v = .map (some b) ∧ R b = some (.map es clock) ∧ EntL es.toList m' ∧ (m'.map (·.1)).Nodup ∧ List.Perm m' m
theorem MapR.mono {R R' : RMap} {v : Value} {m : Tab} (h : MapR R v m) (hR : RLe R R') : MapR R' v m := by
 rcases h with h | ⟨b, es, cl, m', h1, h2, h3, h4, h5⟩
 ·exact .inl h
 ·exact .inr ⟨b, es, cl, m', h1, hR _ _ h2, h3, h4, h5⟩
theorem OwnM.one {v : Value} {m : Tab} {Hs : HList} (h : OwnM v m Hs) : v.oneCell' = true := by
 rcases h with ⟨rfl, _⟩ | ⟨b, es, cl, rfl, _⟩ <;> rfl
theorem OwnM.cells {v : Value} {m : Tab} {Hs : HList} (h : OwnM v m Hs) : v.cells = #[v] := by
 rcases h with ⟨rfl, _⟩ | ⟨b, es, cl, rfl, _⟩ <;> rfl
theorem OwnM.none : OwnM (.map none) nilTab [] := .inl ⟨rfl, rfl, rfl⟩
theorem mapGet_nil {k : List Bool} (hk : k.length = 5) : mapGet nilTab k = mapGet [] k := by
 unfold mapGet nilTab
 rw [List.lookup_cons]
 cases k with
 | nil => cases hk
 | cons a k => rfl
theorem MapR.none {R : RMap} : MapR R (.map none) nilTab := .inl ⟨rfl, rfl⟩
theorem lookup_mem {m : Tab} (hn : (m.map (·.1)).Nodup) {k : List Bool} {z : Int} (h : (k, z) ∈ m) : m.lookup k = some z := by
 induction m with
 | nil => cases h
 | cons p m ih =>
  obtain ⟨k', z'⟩ := p
  rw [List.map_cons, List.nodup_cons] at hn
  rw [List.lookup_cons]
  rcases List.mem_cons.1 h with h | h
  ·cases h; simp
  ·have hne : k ≠ k' := fun e => hn.1 (List.mem_map.2 ⟨_, h, e⟩)
   have : (k == k') = false := by simpa using hne
   rw [this]
   exact ih hn.2 h
theorem lookup_none {m : Tab} {k : List Bool} (h : k ∉ m.map (·.1)) : m.lookup k = none := by
 induction m with
 | nil => rfl
 | cons p m ih =>
  obtain ⟨k', z'⟩ := p
  rw [List.map_cons, List.mem_cons, not_or] at h
  rw [List.lookup_cons]
  have : (k == k') = false := by simpa using h.1
  rw [this]
  exact ih h.2
theorem mapGet_perm {m m' : Tab} (hn : (m'.map (·.1)).Nodup) (hp : List.Perm m' m) (k : List Bool) : mapGet m' k = mapGet m k := by
 have hn2 : (m.map (·.1)).Nodup := (hp.map _).nodup_iff.1 hn
 unfold mapGet
 by_cases hk : k ∈ m'.map (·.1)
 ·obtain ⟨⟨k', z⟩, h1, h2⟩ := List.mem_map.1 hk
  simp only at h2
  subst h2
  rw [lookup_mem hn h1, lookup_mem hn2 (hp.mem_iff.1 h1)]
 ·have hk2 : k ∉ m.map (·.1) := fun h => hk ((hp.map _).mem_iff.2 h)
  rw [lookup_none hk, lookup_none hk2]
structure MapTy (P : Program) (t kt et : TypeId) : Prop where
 ty : P.underlying t = some (.map kt et)
 key : ∃ d, P.underlying kt = some d ∧ ∀ a b, Instr.sameNow d a b = none
 eq : ∀ a b : List Bool, a.length = 5 → b.length = 5 → Val P (Op.equal kt (keyV a) (keyV b)) (a == b)
 chk : ∀ (e : Bool) (a : List Bool), a.length = 5 → Val P (Instr.checkKey e 10000 kt (keyV a)) ()
 zero : Val P (zeroValue et) (.int .i64 0)
section
variable {P : Program} {B : Base} {main : Bool} {𝒥 : Jd P B main} {c : Ctx} {R : RMap} {H : HList} {st st' : St} {o : Oper} {C : RMap → HList → St → Prop}
def findT : Tab → List Bool → Nat → Option (Nat × Value)
 | [], _, _ => none
 | (k', z) :: m, k, i => if k == k' then some (i, .int .i64 z) else findT m k (i + 1)
theorem val_findAsking {t kt et : TypeId} (ht : MapTy P t kt et) {k : List Bool} (hk : k.length = 5) : ∀ {es : List MapEntry} {m : Tab} {i : Nat}, EntL es m → Val P (Instr.findAsking kt (keyV k) es i) (findT m k i)
 | [], m, i, h => by cases h; exact Val.pure _
 | e :: es, m, i, h => by
  obtain ⟨k', z, r, rfl, h1, h2, h3, h4⟩ := h
  unfold Instr.findAsking
  rw [h1]
  refine Val.bind (ht.eq k k' hk h3) ?_
  unfold findT
  cases k == k' with
  | true => rw [h2]; exact Val.pure _
  | false => exact val_findAsking ht hk h4
theorem val_findKey {t kt et : TypeId} (ht : MapTy P t kt et) {k : List Bool} (hk : k.length = 5) {es : List MapEntry} {m : Tab} (h : EntL es m) : Val P (Instr.findKey kt (keyV k) es) (findT m k 0) := by
 obtain ⟨d, h1, h2⟩ := ht.key
 unfold Instr.findKey
 refine Val.bind (Val.underlying h1) ?_
 cases es with
 | nil => cases h; exact Val.pure _
 | cons e es =>
  simp only [Instr.findNow, h2]
  exact val_findAsking ht hk h
theorem findT_get : ∀ {m : Tab} {k : List Bool} {i : Nat}, (match findT m k i with | some (_, v) => v | none => .int .i64 0) = .int .i64 (mapGet m k)
 | [], _, _ => rfl
 | (k', z) :: m, k, i => by
  unfold findT mapGet
  rw [List.lookup_cons]
  cases hk : k == k' with
  | true => rfl
  | false =>
   have := findT_get (m := m) (k := k) (i := i + 1)
   unfold mapGet at this
   exact this
theorem findT_none : ∀ {m : Tab} {k : List Bool} {i : Nat}, k ∉ m.map (·.1) → findT m k i = none
 | [], _, _, _ => rfl
 | (k', z) :: m, k, i, h => by
  rw [List.map_cons, List.mem_cons, not_or] at h
  have : (k == k') = false := by simpa using h.1
  unfold findT
  rw [this]
  exact findT_none h.2
theorem semOk_lookup {t kt et : TypeId} (ht : MapTy P t kt et) {k : List Bool} (hk : k.length = 5) {es : List MapEntry} {m : Tab} (h : EntL es m) {K : Value → RMap → HList → Prop} (hK : K (.int .i64 (mapGet m k)) R H) :
  SemOk P B R H (do
   Instr.checkKey es.isEmpty 10000 kt (keyV k)
   let (v, ok) ← match ← Instr.findKey kt (keyV k) es with
    | some (_, v) => pure (v, true)
    | none => pure (← zeroValue et, false)
   pure (if false then .tuple #[v, .bool ok] else v)) K := by
 refine Val.bindOk (ht.chk _ k hk) (Val.bindOk (val_findKey ht hk h) ?_)
 have hg := findT_get (m := m) (k := k) (i := 0)
 cases hf : findT m k 0 with
 | some q =>
  obtain ⟨i, v⟩ := q
  rw [hf] at hg
  simp only at hg
  subst hg
  exact SemOk.bind (SemOk.pure (SemOk.pure hK))
 | none =>
  rw [hf] at hg
  simp only at hg
  refine Val.bindOk ht.zero (SemOk.bind (SemOk.pure (SemOk.pure ?_)))
  rw [hg]
  exact hK
theorem Ox.lookup {x y : Operand} {t kt et : TypeId} {v : Value} {m : Tab} {k : List Bool} (hop : o.op = .lookup t x y false) (hx : evalS st x = some v) (hy : evalS st y = some (keyV k)) (ht : MapTy P t kt et) (hm : MapR R v m) (hk : k.length = 5)
  (hd : dstLt o.dst c.n) (hs : SubL (putS o.dst (.int .i64 (mapGet m k)) st) st') (h : C R H st') : SemTo P B c o R H st C :=
 Ox.mem (s := fun ρ => Instr.lookup t (ρ x) (ρ y) false) (by rw [hop]; rfl) hd (fun ρ => by simp only [execOp, hop]) (fun ρ hρ => by
  rw [hρ x _ hx, hρ y _ hy]
  unfold Instr.lookup
  refine Val.bindOk (Val.underlying ht.ty) ?_
  rcases hm with ⟨rfl, rfl⟩ | ⟨b, es, cl, m', rfl, h1, h2, h3, h4⟩
  ·refine SemOk.bind (SemOk.pure ?_)
   rw [mapGet_nil hk] at hs
   exact semOk_lookup ht hk (es := []) rfl ⟨st', hs, h⟩
  ·refine SemOk.bind (SemOk.getObj rfl (.inl h1) ?_)
   rw [← mapGet_perm h3 h4] at hs
   have := semOk_lookup (B := B) (R := R) (H := H) (K := fun v R' H' => ∃ st', SubL (putS o.dst v st) st' ∧ C R' H' st') ht hk h2 ⟨st', hs, h⟩
   have e : es.isEmpty = es.toList.isEmpty := by simp
   rw [← e] at this
   exact SemOk.bind (SemOk.pure this))
theorem Ox.makeMap {t : TypeId} (hop : o.op = .makeMap t none) (hd : dstLt o.dst c.n)
  (hC : ∀ v Hs, OwnM v [] Hs → ∃ st', SubL (putS o.dst v st) st' ∧ C R (Hs ++ H) st') : SemTo P B c o R H st C :=
 Ox.mem (s := fun ρ => Instr.makeMap t none) (by rw [hop]; rfl) hd (fun ρ => by simp only [execOp, hop]; rfl) (fun ρ hρ => by
  unfold Instr.makeMap
  refine SemOk.bind (SemOk.new fun b _ _ => SemOk.pure ?_)
  exact hC (.map (some b)) [(b, .map #[] 0)] (.inr ⟨b, #[], 0, rfl, rfl, rfl, by simp⟩))
theorem Ox.mapAdd {x y z : Operand} {t kt et : TypeId} {b : Nat} {es : Array MapEntry} {clock : Nat} {m : Tab} {k : List Bool} {w : Int} {H' : HList} (hop : o.op = .mapUpdate t x y z) (hx : evalS st x = some (.map (some b))) (hy : evalS st y = some (keyV k)) (hz : evalS st z = some (.int .i64 w)) (ht : MapTy P t kt et) (hm : EntL es.toList m) (hk : k.length = 5) (hn : k ∉ m.map (·.1))
  (hs : HSet H b (.map es clock) (.map (es.push { key := keyV k, val := .int .i64 w, born := clock }) (clock + 1)) H') (hd : o.dst = none) (hst : SubL st st') (h : C R H' st') : SemTo P B c o R H st C :=
 Ox.memU (s := fun ρ => Instr.mapUpdate t (ρ x) (ρ y) (ρ z)) (by rw [hop]; rfl) hd (fun ρ => by simp only [execOp, hop]) hst (fun ρ hρ => by
  rw [hρ x _ hx, hρ y _ hy, hρ z _ hz]
  unfold Instr.mapUpdate
  refine Val.bindOk (Val.underlying ht.ty) ?_
  refine SemOk.bind (SemOk.getObj rfl (.inr hs.mem) ?_)
  refine Val.bindOk (ht.chk _ k hk) (Val.bindOk (val_findKey ht hk hm) ?_)
  rw [findT_none hn]
  exact SemOk.setObj rfl rfl hs h)
theorem At.freezeMap {todo : List Item} (G : HList → HList) (hG : Hole G) {H2 Hs : HList} {v : Value} {m : Tab} (h2 : G [] = H2) (hO : OwnM v m Hs) (h : ∀ R', RLe R R' → MapR R' v m → At 𝒥 c R' H2 st todo) : At 𝒥 c R (G Hs) st todo := by
 subst h2
 rcases hO with ⟨rfl, rfl, rfl⟩ | ⟨b, es, cl, rfl, rfl, h3, h4⟩
 ·exact h R (RLe.refl R) .none
 ·obtain ⟨A, D, hGe⟩ := hG
  rw [hGe] at h ⊢
  refine At.perm (H' := (b, .map es cl) :: (A ++ ([] ++ D))) (by simpa using List.perm_middle.symm) (At.freeze fun R' hR hb => h R' hR ?_)
  exact .inr ⟨b, es, cl, m, rfl, hb, h3, h4, List.Perm.refl _⟩
end
end Go.Lg
