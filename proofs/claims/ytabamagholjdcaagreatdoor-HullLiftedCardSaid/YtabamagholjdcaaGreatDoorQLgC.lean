/- Models, operations, lists, maps, ranges over functions. Conditions: none. -/
import Derived.Test.YtabamagholjdcaaGreatDoorQLgA
namespace Go.Lg
open Go.Conc
def loopF {S O : Type} (body : S → Option (S ⊕ O)) : Nat → S → Option O
 | 0, _ => none
 | n + 1, s => match body s with
  | none => none
  | some (.inl s') => loopF body n s'
  | some (.inr o) => some o
open Classical in
noncomputable def loopM {S O : Type} (body : S → Option (S ⊕ O)) (s : S) : Option O := if h : ∃ o n, loopF body n s = some o then some h.choose else none
theorem loopF_more {S O : Type} {body : S → Option (S ⊕ O)} : ∀ {n m : Nat} {s : S} {o : O}, n ≤ m → loopF body n s = some o → loopF body m s = some o
 | 0, _, _, _, _, h => by cases h
 | n + 1, 0, _, _, hm, _ => by omega
 | n + 1, m + 1, s, o, hm, h => by
  simp only [loopF] at h ⊢
  cases hb : body s with
  | none => rw [hb] at h; cases h
  | some x => cases x with
   | inl s' => rw [hb] at h; exact loopF_more (by omega) h
   | inr o' => rw [hb] at h; exact h
theorem loopM_of {S O : Type} {body : S → Option (S ⊕ O)} {n : Nat} {s : S} {o : O} (h : loopF body n s = some o) : loopM body s = some o := by
 have hex : ∃ o n, loopF body n s = some o := ⟨o, n, h⟩
 unfold loopM
 rw [dif_pos hex]
 obtain ⟨m, hm⟩ := hex.choose_spec
 have h1 := loopF_more (Nat.le_max_left n m) h
 have h2 := loopF_more (Nat.le_max_right n m) hm
 rw [h1] at h2
 exact h2.symm
theorem loopM_fuel {S O : Type} {body : S → Option (S ⊕ O)} {s : S} {o : O} (h : loopM body s = some o) : ∃ n, loopF body n s = some o := by
 unfold loopM at h
 split at h
 ·rename_i hex
  cases h
  exact hex.choose_spec
 ·cases h
theorem loopM_stop {S O : Type} {body : S → Option (S ⊕ O)} {s : S} {o : O} (h : body s = some (.inr o)) : loopM body s = some o :=
 loopM_of (n := 1) (by simp [loopF, h])
theorem loopM_next {S O : Type} {body : S → Option (S ⊕ O)} {s s' : S} (h : body s = some (.inl s')) : loopM body s = loopM body s' := by
 cases h' : loopM body s' with
 | some o =>
  obtain ⟨n, hn⟩ := loopM_fuel h'
  exact loopM_of (n := n + 1) (by simp [loopF, h, hn])
 | none =>
  cases h2 : loopM body s with
  | none => rfl
  | some o =>
   obtain ⟨n, hn⟩ := loopM_fuel h2
   cases n with
   | zero => cases hn
   | succ n =>
    simp only [loopF, h] at hn
    rw [loopM_of hn] at h'
    cases h'
theorem bnd {α β : Type} {o : Option α} {f : α → Option β} {r : β} (h : o.bind f = some r) : ∃ x, o = some x ∧ f x = some r := by
 cases o with
 | none => cases h
 | some x => exact ⟨x, rfl, h⟩
def sel {α : Type} (t : Bool) (a b : Option α) : Option α := match t with | true => a | false => b
theorem selC {α : Type} {t : Bool} {a b : Option α} {r : α} {G : Prop} (h : sel t a b = some r) (h1 : t = true → a = some r → G) (h2 : t = false → b = some r → G) : G := by
 cases t with
 | true => exact h1 rfl h
 | false => exact h2 rfl h
theorem sinj {α : Type} {a b : α} (h : some a = some b) : a = b := Option.some.inj h
def idx {α : Type} (xs : List α) (i : Int) : Option α := if 0 ≤ i then xs[i.toNat]? else none
def appM {α : Type} (xs ys : List α) : Option (List α) := if xs.length + ys.length ≤ 16777216 then some (xs ++ ys) else none
def cutM {α : Type} (xs : List α) (lo hi : Int) : Option (List α) := if 0 ≤ lo ∧ lo ≤ hi ∧ hi ≤ xs.length then some ((xs.take hi.toNat).drop lo.toNat) else none
theorem idx_some {α : Type} {xs : List α} {i : Int} {x : α} (h : idx xs i = some x) : 0 ≤ i ∧ i < xs.length ∧ xs[i.toNat]? = some x := by
 unfold idx at h
 split at h
 ·have := (List.getElem?_eq_some_iff.1 h).1
  exact ⟨‹_›, by omega, h⟩
 ·cases h
theorem appM_some {α : Type} {xs ys zs : List α} (h : appM xs ys = some zs) : xs.length + ys.length ≤ 16777216 ∧ zs = xs ++ ys := by
 unfold appM at h
 split at h
 ·cases h; exact ⟨‹_›, rfl⟩
 ·cases h
section
variable {P : Program} {B : Base} {main : Bool} {𝒥 : Jd P B main} {c : Ctx} {R : RMap} {H : HList} {st st' : St} {k : List Item}
theorem At.loopM {S O ρ : Type} {body : S → Option (S ⊕ O)} {cont : O → Option ρ} {s0 : S} {r : ρ} {code : Code} (hM : (loopM body s0).bind cont = some r) (I : S → RMap → HList → St → Prop)
  (hbody : ∀ s R H st, I s R H st → ∀ x, body s = some x → (∀ s', x = .inl s' → ∀ R' H' st', I s' R' H' st' → At 𝒥 c R' H' st' (.inLoop code :: k)) → (∀ o, x = .inr o → cont o = some r) → At 𝒥 c R H st (.code code :: .inLoop code :: k))
  (h0 : I s0 R H st) : At 𝒥 c R H st (.code (.loop code) :: k) := by
 obtain ⟨o, hl, hc⟩ := bnd hM
 obtain ⟨n, hn⟩ := loopM_fuel hl
 clear hM hl
 have key : ∀ n s R H st, loopF body n s = some o → I s R H st → At 𝒥 c R H st (.code code :: .inLoop code :: k) := by
  intro n
  induction n with
  | zero => intro s R H st h; cases h
  | succ n ih =>
   intro s R H st h hI
   simp only [loopF] at h
   cases hb : body s with
   | none => rw [hb] at h; cases h
   | some x =>
    rw [hb] at h
    refine hbody s R H st hI x hb (fun s' hx R' H' st' hI' => ?_) (fun o' hx => ?_)
    ·subst hx; exact At.inLoop (ih s' R' H' st' h hI')
    ·subst hx; cases h; exact hc
 exact At.enterLoop (key n s0 R H st hn h0)
theorem At.known {t : Nat} {x b : Bool} {todo : List Item} (hx : st.lookup t = some (.bool x)) (hb : x = b) (h : At 𝒥 c R H ((t, .bool b) :: st) todo) : At 𝒥 c R H st todo := by
 subst hb; exact fun tmps ht => h tmps (ht.shadow hx)
theorem Any.known {S : Nat → HList} {ops : Array Oper} {n : Nat} {rem : List Nat} {t : Nat} {x b : Bool} (hx : st.lookup t = some (.bool x)) (hb : x = b) (h : Any 𝒥 c S ops k n rem R H ((t, .bool b) :: st)) : Any 𝒥 c S ops k n rem R H st := by
 subst hb; exact ⟨h.1, fun tmps ht => h.2 tmps (ht.shadow hx)⟩
theorem At.condT {x : Operand} {th el : Code} {t : Bool} (hx : evalS st x = some (.bool t)) (ht : t = true) (h : At 𝒥 c R H st (.code th :: k)) : At 𝒥 c R H st (.code (.cond x th el) :: k) := by subst ht; exact At.cond_true hx h
theorem At.condF {x : Operand} {th el : Code} {t : Bool} (hx : evalS st x = some (.bool t)) (ht : t = false) (h : At 𝒥 c R H st (.code el :: k)) : At 𝒥 c R H st (.code (.cond x th el) :: k) := by subst ht; exact At.cond_false hx h
end
abbrev CRel (α : Type) := RMap → α → List Value → Prop
class CM {α : Type} (C : CRel α) : Prop where
 mono : ∀ {R R' : RMap} {x : α} {es : List Value}, RLe R R' → C R x es → C R' x es
 one : ∀ {R : RMap} {x : α} {es : List Value}, C R x es → ∀ u ∈ es, u.oneCell' = true
def CI (kd : IntKind) : CRel Int := fun _ x es => es = [.int kd x]
def CS : CRel ByteArray := fun _ x es => es = [.string x]
instance {kd : IntKind} : CM (CI kd) := ⟨fun _ h => h, fun h => by cases h; simp [Value.oneCell']⟩
instance : CM CS := ⟨fun _ h => h, fun h => by cases h; simp [Value.oneCell']⟩
structure Enc {α : Type} (C : CRel α) (k : Nat) (R : RMap) (xs : List α) (es : List Value) : Prop where
 len : es.length = xs.length * k
 at_ : ∀ (i : Nat) (x : α), xs[i]? = some x → ∃ e1 : List Value, C R x e1 ∧ e1.length = k ∧ ∀ (j : Nat) (w : Value), e1[j]? = some w → es[i * k + j]? = some w
theorem Enc.nil {α : Type} {C : CRel α} {k : Nat} {R : RMap} : Enc C k R [] [] := ⟨by simp, by simp⟩
theorem Enc.mono {α : Type} {C : CRel α} [CM C] {k : Nat} {R R' : RMap} {xs : List α} {es : List Value} (h : Enc C k R xs es) (hR : RLe R R') : Enc C k R' xs es :=
 ⟨h.len, fun i x hx => by obtain ⟨e1, h1, h2, h3⟩ := h.at_ i x hx; exact ⟨e1, CM.mono hR h1, h2, h3⟩⟩
theorem Enc.append {α : Type} {C : CRel α} {k : Nat} {R : RMap} {xs ys : List α} {es fs : List Value} (h : Enc C k R xs es) (g : Enc C k R ys fs) : Enc C k R (xs ++ ys) (es ++ fs) := by
 refine ⟨by rw [List.length_append, List.length_append, h.len, g.len, Nat.add_mul], fun i x hx => ?_⟩
 by_cases hi : i < xs.length
 ·rw [List.getElem?_append_left hi] at hx
  obtain ⟨e1, h1, h2, h3⟩ := h.at_ i x hx
  refine ⟨e1, h1, h2, fun j w hj => ?_⟩
  have := h3 j w hj
  rw [List.getElem?_append_left (List.getElem?_eq_some_iff.1 this).1]
  exact this
 ·rw [List.getElem?_append_right (by omega)] at hx
  obtain ⟨e1, h1, h2, h3⟩ := g.at_ _ x hx
  refine ⟨e1, h1, h2, fun j w hj => ?_⟩
  have := h3 j w hj
  have e : i * k + j = es.length + ((i - xs.length) * k + j) := by
   rw [h.len]
   have : i = xs.length + (i - xs.length) := by omega
   rw [← Nat.add_assoc, ← Nat.add_mul, ← this]
  rw [e, List.getElem?_append_right (by omega), Nat.add_sub_cancel_left]
  exact this
theorem Enc.single {α : Type} {C : CRel α} {k : Nat} {R : RMap} {x : α} {es : List Value} (h : C R x es) (hk : es.length = k) : Enc C k R [x] es := by
 refine ⟨by simp [hk], fun i y hy => ?_⟩
 cases i with
 | zero => cases hy; exact ⟨es, h, hk, fun j w hj => by simpa using hj⟩
 | succ i => simp at hy
theorem Enc.one {α : Type} {C : CRel α} [CM C] {k : Nat} {R : RMap} {xs : List α} {es : List Value} (h : Enc C k R xs es) : ∀ u ∈ es, u.oneCell' = true := by
 intro u hu
 obtain ⟨j, hj⟩ := List.getElem?_of_mem hu
 have hlt := (List.getElem?_eq_some_iff.1 hj).1
 rw [h.len] at hlt
 have hk : 0 < k := by cases k with | zero => simp at hlt | succ k => omega
 have hi : j / k < xs.length := Nat.div_lt_of_lt_mul (by rw [Nat.mul_comm]; exact hlt)
 obtain ⟨e1, h1, h2, h3⟩ := h.at_ (j / k) _ (List.getElem?_eq_getElem hi)
 have hm : j % k < e1.length := by rw [h2]; exact Nat.mod_lt _ hk
 have := h3 (j % k) _ (List.getElem?_eq_getElem hm)
 rw [show j / k * k + j % k = j by rw [Nat.mul_comm]; exact Nat.div_add_mod j k, hj] at this
 cases this
 exact CM.one h1 _ (List.getElem_mem hm)
theorem Enc.drop {α : Type} {C : CRel α} {k n : Nat} {R : RMap} {xs : List α} {es : List Value} (h : Enc C k R xs es) : Enc C k R (xs.drop n) (es.drop (n * k)) := by
 refine ⟨by simp [h.len, Nat.sub_mul], fun i x hx => ?_⟩
 rw [List.getElem?_drop] at hx
 obtain ⟨e1, h1, h2, h3⟩ := h.at_ _ x hx
 refine ⟨e1, h1, h2, fun j w hj => ?_⟩
 rw [List.getElem?_drop, ← h3 j w hj, Nat.add_mul, Nat.add_assoc]
theorem Enc.take {α : Type} {C : CRel α} {k n : Nat} {R : RMap} {xs : List α} {es : List Value} (h : Enc C k R xs es) : Enc C k R (xs.take n) (es.take (n * k)) := by
 refine ⟨by simp only [List.length_take, h.len]; exact Nat.mul_min_mul_right _ _ _, fun i x hx => ?_⟩
 rw [List.getElem?_take] at hx
 split at hx
 ·rename_i hi
  obtain ⟨e1, h1, h2, h3⟩ := h.at_ _ x hx
  refine ⟨e1, h1, h2, fun j w hj => ?_⟩
  have hjk : j < k := by rw [← h2]; exact (List.getElem?_eq_some_iff.1 hj).1
  rw [List.getElem?_take, if_pos, h3 j w hj]
  calc i * k + j < i * k + k := by omega
   _ = (i + 1) * k := by rw [Nat.add_mul, Nat.one_mul]
   _ ≤ n * k := Nat.mul_le_mul_right k hi
 ·cases hx
def SlR {α : Type} (C : CRel α) (k : Nat) (R : RMap) (v : Value) (xs : List α) : Prop :=
 ∃ A cap es, v = .slice A xs.length cap ∧ Enc C k R xs es ∧ xs.length ≤ cap ∧ (xs ≠ [] → ∃ b o arr e fz, A = some ⟨b, o, none⟩ ∧ R b = some (.cells arr e fz) ∧ ∀ (j : Nat) (w : Value), es[j]? = some w → arr[o + j]? = some w)
theorem SlR.mono {α : Type} {C : CRel α} [CM C] {k : Nat} {R R' : RMap} {v : Value} {xs : List α} (h : SlR C k R v xs) (hR : RLe R R') : SlR C k R' v xs := by
 obtain ⟨A, cap, es, h1, h2, hc, h3⟩ := h
 refine ⟨A, cap, es, h1, h2.mono hR, hc, fun hx => ?_⟩
 obtain ⟨b, o, arr, e, fz, g1, g2, g3⟩ := h3 hx
 exact ⟨b, o, arr, e, fz, g1, hR _ _ g2, g3⟩
theorem SlR.nil {α : Type} {C : CRel α} {k : Nat} {R : RMap} {A : Option Addr} {cap : Nat} : SlR C k R (.slice A 0 cap) [] := ⟨A, cap, [], rfl, .nil, Nat.zero_le _, fun h => absurd rfl h⟩
def CSl {α : Type} (C : CRel α) (k : Nat) : CRel (List α) := fun R xs es => ∃ v, es = [v] ∧ SlR C k R v xs
instance {α : Type} {C : CRel α} [CM C] {k : Nat} : CM (CSl C k) := ⟨fun hR ⟨v, h1, h2⟩ => ⟨v, h1, h2.mono hR⟩, fun ⟨v, h1, A, cap, es, h2, _⟩ => by subst h1; subst h2; simp [Value.oneCell']⟩
def OwnSl {α : Type} (C : CRel α) (k e : Nat) (R : RMap) (v : Value) (xs : List α) (Hs : HList) : Prop :=
 (∃ A, v = .slice A 0 0 ∧ xs = [] ∧ Hs = []) ∨ ∃ b cap cs es, v = .slice (some ⟨b, 0, none⟩) xs.length cap ∧ Hs = [(b, .cells cs e (0, 0))] ∧ cs.size = cap * k ∧ xs.length ≤ cap ∧ Enc C k R xs es ∧ ∀ (j : Nat) (w : Value), es[j]? = some w → cs[j]? = some w
theorem OwnSl.mono {α : Type} {C : CRel α} [CM C] {k e : Nat} {R R' : RMap} {v : Value} {xs : List α} {Hs : HList} (h : OwnSl C k e R v xs Hs) (hR : RLe R R') : OwnSl C k e R' v xs Hs := by
 rcases h with h | ⟨b, cap, cs, es, h1, h2, h3, h4, h5, h6⟩
 ·exact .inl h
 ·exact .inr ⟨b, cap, cs, es, h1, h2, h3, h4, h5.mono hR, h6⟩
theorem OwnSl.nil {α : Type} {C : CRel α} {k e : Nat} {R : RMap} {A : Option Addr} : OwnSl C k e R (.slice A 0 0) [] [] := .inl ⟨A, rfl, rfl, rfl⟩
def ArgSl {α : Type} (C : CRel α) (k : Nat) (R : RMap) (H : HList) (v : Value) (ys : List α) : Prop :=
 ∃ A cap es, v = .slice A ys.length cap ∧ Enc C k R ys es ∧ (ys ≠ [] → ∃ b o, A = some ⟨b, o, none⟩ ∧ CellsAt R H b o es)
theorem SlR.arg {α : Type} {C : CRel α} {k : Nat} {R : RMap} {H : HList} {v : Value} {xs : List α} (h : SlR C k R v xs) : ArgSl C k R H v xs := by
 obtain ⟨A, cap, es, h1, h2, _, h3⟩ := h
 refine ⟨A, cap, es, h1, h2, fun hx => ?_⟩
 obtain ⟨b, o, arr, e, fz, g1, g2, g3⟩ := h3 hx
 exact ⟨b, o, g1, fun j w hj => ⟨rfl, arr, e, fz, .inl g2, g3 j w hj⟩⟩
theorem ArgSl.lit {α : Type} {C : CRel α} {k e n cap b : Nat} {R : RMap} {H : HList} {ys : List α} {cs : Array Value} {fz : Nat × Nat} (hm : (b, Obj.cells cs e fz) ∈ H) (hE : Enc C k R ys cs.toList) (hn : ys.length = n) : ArgSl C k R H (.slice (some ⟨b, 0, none⟩) n cap) ys := by
 subst hn
 exact ⟨_, cap, cs.toList, rfl, hE, fun _ => ⟨b, 0, rfl, fun j w hj => ⟨rfl, cs, e, fz, .inr hm, by simpa using hj⟩⟩⟩
def Hole (G : HList → HList) : Prop := ∃ A D, ∀ X, G X = A ++ (X ++ D)
theorem Hole.set {G : HList → HList} (hG : Hole G) {b : Nat} {o o' : Obj} : HSet (G [(b, o)]) b o o' (G [(b, o')]) := by
 obtain ⟨A, D, h⟩ := hG
 rw [h, h]
 clear h
 induction A with
 | nil => exact .here
 | cons p A ih => exact .there ih
end Go.Lg
namespace Go.Lg
open Go.Conc
section
variable {P : Program} {B : Base} {main : Bool} {𝒥 : Jd P B main} {c : Ctx} {R : RMap} {H H' : HList} {st st' : St} {o : Oper} {C : RMap → HList → St → Prop}
def IdxTo (P : Program) (t : TypeId) (v : Value) (i : Int) (b n : Nat) : Prop := ∀ kd, Val P (Instr.indexAt t v (.int kd i)) (.pointer (some ⟨b, n, none⟩))
theorem SlR.elem {α : Type} {K : CRel α} {k t e : Nat} {v : Value} {xs : List α} {i : Int} {x : α} (h : SlR K k R v xs) (ht : SliceTy P t e k) (hi : idx xs i = some x) :
  ∃ b n es, K R x es ∧ CellsAt R [] b n es ∧ IdxTo P t v i b n := by
 obtain ⟨h1, h2, h3⟩ := idx_some hi
 obtain ⟨A, cap, es, rfl, hE, _, hc⟩ := h
 obtain ⟨b, o, arr, e', fz, rfl, g2, g3⟩ := hc (by rintro rfl; simp at h3)
 obtain ⟨e1, f1, f2, f3⟩ := hE.at_ _ _ h3
 refine ⟨b, o + i.toNat * k, e1, f1, fun j w hj => ⟨rfl, arr, e', fz, .inl g2, ?_⟩, fun kd => ?_⟩
 ·have := g3 _ _ (f3 j w hj)
  simpa [Nat.add_assoc] using this
 ·have := val_index_slice (P := P) (b := b) (m := o) (cap := cap) (kd := kd) ht (j := i.toNat) (len := xs.length) (by omega)
  rwa [Int.toNat_of_nonneg h1] at this
theorem Ox.indexV {x y : Operand} {t : TypeId} {v : Value} {kd : IntKind} {i : Int} {b n : Nat} (hop : o.op = .indexAddr t x y) (hx : evalS st x = some v) (hy : evalS st y = some (.int kd i)) (hv : IdxTo P t v i b n)
  (hd : dstLt o.dst c.n) (hs : SubL (putS o.dst (.pointer (some ⟨b, n, none⟩)) st) st') (h : C R H st') : SemTo P B c o R H st C :=
 Ox.val' (s := fun ρ => Instr.indexAt t (ρ x) (ρ y)) (by rw [hop]; rfl) hd (fun ρ => by simp only [execOp, hop]) (fun ρ hρ => by rw [hρ x _ hx, hρ y _ hy]; exact hv kd) hs h
theorem idxArr {t e len k b m : Nat} {i : Int} (ht : ArrayTy P t len e k) (hi : 0 ≤ i ∧ i < len) : IdxTo P t (.pointer (some ⟨b, m, none⟩)) i b (m + i.toNat * k) := fun kd => by
 have := val_index_array (P := P) (b := b) (m := m) (kd := kd) ht (j := i.toNat) (by omega)
 rwa [Int.toNat_of_nonneg hi.1] at this
theorem Ox.lenS {α : Type} {K : CRel α} {k : Nat} {x : Operand} {t e : TypeId} {v : Value} {xs : List α} (hop : o.op = .call ⟨.builtin .len, #[x], #[t]⟩) (hx : evalS st x = some v) (hl : SlR K k R v xs) (ht : P.underlying t = some (.slice e))
  (hd : dstLt o.dst c.n) (hs : SubL (putS o.dst (.int .i64 (xs.length : Int)) st) st') (h : C R H st') : SemTo P B c o R H st C := by
 obtain ⟨A, cap, es, rfl, _⟩ := hl
 exact Ox.len hop hx ht hd hs h
theorem Ox.lenO {α : Type} {K : CRel α} {k e' : Nat} {x : Operand} {t e : TypeId} {v : Value} {xs : List α} {Hs : HList} (hop : o.op = .call ⟨.builtin .len, #[x], #[t]⟩) (hx : evalS st x = some v) (hl : OwnSl K k e' R v xs Hs) (ht : P.underlying t = some (.slice e))
  (hd : dstLt o.dst c.n) (hs : SubL (putS o.dst (.int .i64 (xs.length : Int)) st) st') (h : C R H st') : SemTo P B c o R H st C := by
 rcases hl with ⟨A, rfl, rfl, _⟩ | ⟨b, cap, cs, es, rfl, _⟩
 ·exact Ox.len hop hx ht hd hs h
 ·exact Ox.len hop hx ht hd hs h
def i64 (z : Int) : Int := IntKind.wrap .i64 z
theorem i64_fit {z : Int} (h : -9223372036854775808 ≤ z ∧ z ≤ 9223372036854775807) : i64 z = z := wrap_fit h
theorem Ox.ar {x y : Operand} {bo : BinOp} {t u : TypeId} {a b z : Int} {kd : IntKind} (hop : o.op = .binOp bo t x y u) (hx : evalS st x = some (.int kd a)) (hy : evalS st y = some (.int kd b)) (hr : arI bo a b = some z)
  (hd : dstLt o.dst c.n) (hs : SubL (putS o.dst (.int kd (kd.wrap z)) st) st') (h : C R H st') : SemTo P B c o R H st C :=
 Ox.val' (s := fun ρ => do eqGuard bo t x y (ρ x) (ρ y); binOp bo t (ρ x) (ρ y)) (by rw [hop]; rfl) hd (fun ρ => by simp only [execOp, hop]) (fun ρ hρ => by
  rw [hρ x _ hx, hρ y _ hy]
  refine Val.bind (val_guard_int _ _ _ _ _ _ _ _) ?_
  cases bo <;> simp only [arI, Option.some.injEq, reduceCtorEq] at hr <;> subst hr <;> simp only [binOp, ne_eq, not_true_eq_false, if_false, Op.intArith] <;> exact Val.pure _) hs h
theorem Ox.ngK {x : Operand} {t : TypeId} {a : Int} {kd : IntKind} (hop : o.op = .unOp .neg t x) (hx : evalS st x = some (.int kd a))
  (hd : dstLt o.dst c.n) (hs : SubL (putS o.dst (.int kd (kd.wrap (0 - a))) st) st') (h : C R H st') : SemTo P B c o R H st C :=
 Ox.val' (s := fun ρ => Op.unary .neg (ρ x)) (by rw [hop]; rfl) hd (fun ρ => by simp only [execOp, hop]) (fun ρ hρ => by
  rw [hρ x _ hx]
  simp only [Op.unary, Op.intArith]; exact Val.pure _) hs h
def remM (a b : Int) : Option Int := if b = 0 then none else some (a.tmod b)
theorem Ox.rem {x y : Operand} {t u : TypeId} {a b z : Int} {kd : IntKind} (hop : o.op = .binOp .rem t x y u) (hx : evalS st x = some (.int kd a)) (hy : evalS st y = some (.int kd b)) (hr : remM a b = some z)
  (hd : dstLt o.dst c.n) (hs : SubL (putS o.dst (.int kd z) st) st') (h : C R H st') : SemTo P B c o R H st C :=
 Ox.val' (s := fun ρ => do eqGuard .rem t x y (ρ x) (ρ y); binOp .rem t (ρ x) (ρ y)) (by rw [hop]; rfl) hd (fun ρ => by simp only [execOp, hop]) (fun ρ hρ => by
  rw [hρ x _ hx, hρ y _ hy]
  refine Val.bind (val_guard_int _ _ _ _ _ _ _ _) ?_
  unfold remM at hr
  split at hr
  ·cases hr
  ·cases hr; simp only [binOp, ne_eq, not_true_eq_false, if_false, Op.intDiv, *]; exact Val.pure _) hs h
def shlM (kd : IntKind) (a b : Int) : Option Int := if b < 0 then none else some (kd.wrap (a * 2 ^ (min b.toNat kd.bits)))
def shrM (kd : IntKind) (a b : Int) : Option Int := if b < 0 then none else some (a.fdiv (2 ^ (min b.toNat kd.bits)))
theorem Ox.shl {x y : Operand} {t u : TypeId} {a b z : Int} {kd yk : IntKind} (hop : o.op = .binOp .shl t x y u) (hx : evalS st x = some (.int kd a)) (hy : evalS st y = some (.int yk b)) (hr : shlM kd a b = some z)
  (hd : dstLt o.dst c.n) (hs : SubL (putS o.dst (.int kd z) st) st') (h : C R H st') : SemTo P B c o R H st C :=
 Ox.val' (s := fun ρ => do eqGuard .shl t x y (ρ x) (ρ y); binOp .shl t (ρ x) (ρ y)) (by rw [hop]; rfl) hd (fun ρ => by simp only [execOp, hop]) (fun ρ hρ => by
  rw [hρ x _ hx, hρ y _ hy]
  refine Val.bind (val_guard_int _ _ _ _ _ _ _ _) ?_
  unfold shlM at hr
  split at hr
  ·cases hr
  ·cases hr; simp only [binOp, Op.shift, if_false, *]; exact Val.pure _) hs h
theorem Ox.shr {x y : Operand} {t u : TypeId} {a b z : Int} {kd yk : IntKind} (hop : o.op = .binOp .shr t x y u) (hx : evalS st x = some (.int kd a)) (hy : evalS st y = some (.int yk b)) (hr : shrM kd a b = some z)
  (hd : dstLt o.dst c.n) (hs : SubL (putS o.dst (.int kd z) st) st') (h : C R H st') : SemTo P B c o R H st C :=
 Ox.val' (s := fun ρ => do eqGuard .shr t x y (ρ x) (ρ y); binOp .shr t (ρ x) (ρ y)) (by rw [hop]; rfl) hd (fun ρ => by simp only [execOp, hop]) (fun ρ hρ => by
  rw [hρ x _ hx, hρ y _ hy]
  refine Val.bind (val_guard_int _ _ _ _ _ _ _ _) ?_
  unfold shrM at hr
  split at hr
  ·cases hr
  ·cases hr; simp only [binOp, Op.shift, if_false, *]; exact Val.pure _) hs h
def bitsI (bo : BinOp) (kd : IntKind) (a b : Int) : Option Int :=
 let a := BitVec.ofInt kd.bits a
 let b := BitVec.ofInt kd.bits b
 match bo with
 | .and => some (kd.wrap (a &&& b).toNat)
 | .or => some (kd.wrap (a ||| b).toNat)
 | .xor => some (kd.wrap (a ^^^ b).toNat)
 | .andNot => some (kd.wrap (a &&& ~~~b).toNat)
 | _ => none
theorem Ox.bits {x y : Operand} {bo : BinOp} {t u : TypeId} {a b z : Int} {kd : IntKind} (hop : o.op = .binOp bo t x y u) (hx : evalS st x = some (.int kd a)) (hy : evalS st y = some (.int kd b)) (hr : bitsI bo kd a b = some z)
  (hd : dstLt o.dst c.n) (hs : SubL (putS o.dst (.int kd z) st) st') (h : C R H st') : SemTo P B c o R H st C :=
 Ox.val' (s := fun ρ => do eqGuard bo t x y (ρ x) (ρ y); binOp bo t (ρ x) (ρ y)) (by rw [hop]; rfl) hd (fun ρ => by simp only [execOp, hop]) (fun ρ hρ => by
  rw [hρ x _ hx, hρ y _ hy]
  refine Val.bind (val_guard_int _ _ _ _ _ _ _ _) ?_
  cases bo <;> simp only [bitsI, Option.some.injEq, reduceCtorEq] at hr <;> subst hr <;> simp only [binOp, ne_eq, not_true_eq_false, if_false, Op.intBits] <;> exact Val.pure _) hs h
def cmpS : BinOp → ByteArray → ByteArray → Option Bool
 | .eql, x, y => some (x.toList == y.toList)
 | .neq, x, y => some (!(x.toList == y.toList))
 | _, _, _ => none
theorem val_guard_str (op : BinOp) (t : TypeId) (x y : Operand) (a b : ByteArray) : Val P (eqGuard op t x y (.string a) (.string b)) () := by
 unfold eqGuard
 cases op <;> exact Val.pure _
theorem Ox.cmpStr {x y : Operand} {bo : BinOp} {t u : TypeId} {a b : ByteArray} {r : Bool} (hop : o.op = .binOp bo t x y u) (hx : evalS st x = some (.string a)) (hy : evalS st y = some (.string b)) (hr : cmpS bo a b = some r)
  (hd : dstLt o.dst c.n) (hs : SubL (putS o.dst (.bool r) st) st') (h : C R H st') : SemTo P B c o R H st C :=
 Ox.val' (s := fun ρ => do eqGuard bo t x y (ρ x) (ρ y); binOp bo t (ρ x) (ρ y)) (by rw [hop]; rfl) hd (fun ρ => by simp only [execOp, hop]) (fun ρ hρ => by
  rw [hρ x _ hx, hρ y _ hy]
  refine Val.bind (val_guard_str _ _ _ _ _ _) ?_
  cases bo <;> simp only [cmpS, Option.some.injEq, reduceCtorEq] at hr <;> subst hr <;> simp only [binOp, Op.stringOp] <;> exact Val.pure _) hs h
def cmpB : BinOp → Bool → Bool → Option Bool
 | .eql, x, y => some (x == y)
 | .neq, x, y => some (!(x == y))
 | _, _, _ => none
theorem val_guard_bool (op : BinOp) (t : TypeId) (x y : Operand) (a b : Bool) : Val P (eqGuard op t x y (.bool a) (.bool b)) () := by
 unfold eqGuard
 cases op <;> exact Val.pure _
theorem val_eq_bool {t : TypeId} (ht : P.underlying t = some .bool) (a b : Bool) : Val P (Op.equal t (.bool a) (.bool b)) (a == b) := by
 unfold Op.equal Op.maxDepth
 rw [Op.equalIn]
 exact Val.bind (Val.underlying ht) (Val.pure _)
theorem Ox.cmpBool {x y : Operand} {bo : BinOp} {t u : TypeId} {a b r : Bool} (hop : o.op = .binOp bo t x y u) (hx : evalS st x = some (.bool a)) (hy : evalS st y = some (.bool b)) (ht : P.underlying t = some .bool) (hr : cmpB bo a b = some r)
  (hd : dstLt o.dst c.n) (hs : SubL (putS o.dst (.bool r) st) st') (h : C R H st') : SemTo P B c o R H st C :=
 Ox.val' (s := fun ρ => do eqGuard bo t x y (ρ x) (ρ y); binOp bo t (ρ x) (ρ y)) (by rw [hop]; rfl) hd (fun ρ => by simp only [execOp, hop]) (fun ρ hρ => by
  rw [hρ x _ hx, hρ y _ hy]
  refine Val.bind (val_guard_bool _ _ _ _ _ _) ?_
  cases bo <;> simp only [cmpB, Option.some.injEq, reduceCtorEq] at hr <;> subst hr <;> simp only [binOp] <;> exact Val.bind (val_eq_bool ht a b) (Val.pure _)) hs h
theorem Ox.cmpAgg {x y : Operand} {bo : BinOp} {t u : TypeId} {a b : Array Value} {q : Bool} (hop : o.op = .binOp bo t x y u) (hx : evalS st x = some (.agg a)) (hy : evalS st y = some (.agg b)) (hg : P.eqGuardType P.depth t = false) (hq : Val P (Op.equal t (.agg a) (.agg b)) q) {r : Bool} (hr : cmpB bo q true = some r)
  (hd : dstLt o.dst c.n) (hs : SubL (putS o.dst (.bool r) st) st') (h : C R H st') : SemTo P B c o R H st C :=
 Ox.val' (s := fun ρ => do eqGuard bo t x y (ρ x) (ρ y); binOp bo t (ρ x) (ρ y)) (by rw [hop]; rfl) hd (fun ρ => by simp only [execOp, hop]) (fun ρ hρ => by
  rw [hρ x _ hx, hρ y _ hy]
  have hgd : Val P (eqGuard bo t x y (.agg a) (.agg b)) () := by
   unfold eqGuard
   cases bo <;> simp only [cmpB, reduceCtorEq] at hr <;> exact Val.bind Val.program (Val.bind Val.program (by simp only [hg]; exact Val.pure _))
  refine Val.bind hgd ?_
  cases bo <;> simp only [cmpB, Option.some.injEq, reduceCtorEq] at hr <;> subst hr <;> simp only [binOp]
  ·exact Val.bind hq (by cases q <;> exact Val.pure _)
  ·exact Val.bind hq (by cases q <;> exact Val.pure _)) hs h
def maxI : Int → List Int → Int
 | x, [] => x
 | x, y :: r => maxI (if y > x then y else x) r
def minI : Int → List Int → Int
 | x, [] => x
 | x, y :: r => minI (if y < x then y else x) r
theorem val_max {kd : IntKind} : ∀ (l : List Int) (x : Int), Val P ((l.map (Value.int kd)).foldlM Builtin.max2 (.int kd x)) (.int kd (maxI x l))
 | [], x => Val.pure _
 | y :: r, x => by
  simp only [List.map_cons, List.foldlM_cons, maxI]
  exact Val.bind (a := .int kd (if y > x then y else x)) (Val.pure _) (val_max r _)
theorem val_min {kd : IntKind} : ∀ (l : List Int) (x : Int), Val P ((l.map (Value.int kd)).foldlM Builtin.min2 (.int kd x)) (.int kd (minI x l))
 | [], x => Val.pure _
 | y :: r, x => by
  simp only [List.map_cons, List.foldlM_cons, minI]
  exact Val.bind (a := .int kd (if y < x then y else x)) (Val.pure _) (val_min r _)
theorem Ox.max {xs : Array Operand} {ts : Array TypeId} {kd : IntKind} {a : Int} {l : List Int} (hop : o.op = .call ⟨.builtin .max, xs, ts⟩) (hx : argsS st xs.toList = some (.int kd a :: l.map (Value.int kd)))
  (hd : dstLt o.dst c.n) (hs : SubL (putS o.dst (.int kd (maxI a l)) st) st') (h : C R H st') : SemTo P B c o R H st C :=
 Ox.val (by rw [hop]; rfl) hd (fun ρ hρ => by
  simp only [execOp, hop]
  refine Val.bind (a := ⟨.builtin .max ts o.type (xs.map fun | .const _ => true | _ => false), xs.map ρ⟩) (Val.pure _) ?_
  simp only [invoke, builtin, Builtin.max_]
  have e : (xs.map ρ).toList = .int kd a :: l.map (Value.int kd) := by simpa using argsS_eval hρ _ _ hx
  rw [e]
  exact Val.bind (val_max l a) (Val.pure _)) hs h
theorem Ox.min {xs : Array Operand} {ts : Array TypeId} {kd : IntKind} {a : Int} {l : List Int} (hop : o.op = .call ⟨.builtin .min, xs, ts⟩) (hx : argsS st xs.toList = some (.int kd a :: l.map (Value.int kd)))
  (hd : dstLt o.dst c.n) (hs : SubL (putS o.dst (.int kd (minI a l)) st) st') (h : C R H st') : SemTo P B c o R H st C :=
 Ox.val (by rw [hop]; rfl) hd (fun ρ hρ => by
  simp only [execOp, hop]
  refine Val.bind (a := ⟨.builtin .min ts o.type (xs.map fun | .const _ => true | _ => false), xs.map ρ⟩) (Val.pure _) ?_
  simp only [invoke, builtin, Builtin.min_]
  have e : (xs.map ρ).toList = .int kd a :: l.map (Value.int kd) := by simpa using argsS_eval hρ _ _ hx
  rw [e]
  exact Val.bind (val_min l a) (Val.pure _)) hs h
theorem Ox.convI {x : Operand} {t u : TypeId} {kd ks k0 : IntKind} {a : Int} (hop : o.op = .convert t u x) (hx : evalS st x = some (.int ks a)) (ht : P.underlying t = some (.int k0)) (hu : P.underlying u = some (.int kd))
  (hd : dstLt o.dst c.n) (hs : SubL (putS o.dst (.int kd (kd.wrap a)) st) st') (h : C R H st') : SemTo P B c o R H st C :=
 Ox.val' (s := fun ρ => convert t u (ρ x)) (by rw [hop]; rfl) hd (fun ρ => by simp only [execOp, hop]) (fun ρ hρ => by
  rw [hρ x _ hx]
  unfold convert
  refine Val.bind (Val.underlying ht) (Val.bind (Val.underlying hu) ?_)
  exact Val.pure _) hs h
theorem cutM_some {α : Type} {xs ys : List α} {lo hi : Int} (h : cutM xs lo hi = some ys) : 0 ≤ lo ∧ lo ≤ hi ∧ hi ≤ xs.length ∧ ys = (xs.take hi.toNat).drop lo.toNat := by
 unfold cutM at h
 split at h
 ·cases h; rename_i h; exact ⟨h.1, h.2.1, h.2.2, rfl⟩
 ·cases h
def loS (st : St) : Option Operand → Option Int
 | none => some 0
 | some x => match evalS st x with | some (.int _ i) => some i | _ => none
def hiS (st : St) (n : Nat) : Option Operand → Option Int
 | none => some n
 | some x => match evalS st x with | some (.int _ i) => some i | _ => none
theorem val_bound {kd : IntKind} {i : Int} {y : Nat} {cd : BoundsCode} (h : 0 ≤ i ∧ i ≤ y) : Val P (Instr.sliceBound (.int kd i) y cd) i.toNat := by
 unfold Instr.sliceBound
 refine Val.bind (a := (kd, i)) (Val.pure _) ?_
 simp only [h, and_self, if_true]
 exact Val.pure _
theorem val_bounds {ρ : Operand → Value} (hρ : Knows st ρ) {len cap : Nat} {lo hi : Option Operand} {l h : Int} (hl : loS st lo = some l) (hh : hiS st len hi = some h) (hb : 0 ≤ l ∧ l ≤ h ∧ h ≤ len) (hc : len ≤ cap) :
  Val P (Instr.sliceBounds true len cap (lo.map ρ) (hi.map ρ) none) (l.toNat, h.toNat, cap) := by
 have h1 : (lo = none ∧ l = 0) ∨ ∃ x kd, lo = some x ∧ ρ x = .int kd l := by
  cases lo with
  | none => simp only [loS, Option.some.injEq] at hl; exact .inl ⟨rfl, hl.symm⟩
  | some x =>
   simp only [loS] at hl
   cases hx : evalS st x with
   | none => simp [hx] at hl
   | some v =>
    cases v <;> simp [hx] at hl
    subst hl
    exact .inr ⟨x, _, rfl, hρ x _ hx⟩
 have h2 : (hi = none ∧ h = len) ∨ ∃ x kd, hi = some x ∧ ρ x = .int kd h := by
  cases hi with
  | none => simp only [hiS, Option.some.injEq] at hh; exact .inl ⟨rfl, hh.symm⟩
  | some x =>
   simp only [hiS] at hh
   cases hx : evalS st x with
   | none => simp [hx] at hh
   | some v =>
    cases v <;> simp [hx] at hh
    subst hh
    exact .inr ⟨x, _, rfl, hρ x _ hx⟩
 unfold Instr.sliceBounds
 rcases h1 with ⟨rfl, rfl⟩ | ⟨x, kx, rfl, hx⟩ <;> rcases h2 with ⟨rfl, rfl⟩ | ⟨y, ky, rfl, hy⟩ <;> simp only [Option.map_none, Option.map_some, *]
 ·exact Val.bind (a := cap) (Val.pure _) (Val.bind (a := (len : Int).toNat) (by rw [Int.toNat_natCast]; exact Val.pure _) (Val.bind (a := (0 : Int).toNat) (Val.pure _) (Val.pure _)))
 ·exact Val.bind (a := cap) (Val.pure _) (Val.bind (a := h.toNat) (val_bound ⟨by omega, by omega⟩) (Val.bind (a := (0 : Int).toNat) (Val.pure _) (Val.pure _)))
 ·exact Val.bind (a := cap) (Val.pure _) (Val.bind (a := (len : Int).toNat) (by rw [Int.toNat_natCast]; exact Val.pure _) (Val.bind (a := l.toNat) (val_bound ⟨by omega, by omega⟩) (Val.pure _)))
 ·exact Val.bind (a := cap) (Val.pure _) (Val.bind (a := h.toNat) (val_bound ⟨by omega, by omega⟩) (Val.bind (a := l.toNat) (val_bound ⟨by omega, by omega⟩) (Val.pure _)))
end
end Go.Lg
namespace Go.Lg
open Go.Conc
theorem putCells_get : ∀ (vs : List Value) (cs : Array Value) (o j : Nat), o + vs.length ≤ cs.size → (putCells cs o vs)[j]? = if o ≤ j ∧ j < o + vs.length then vs[j - o]? else cs[j]?
 | [], cs, o, j, _ => by
  simp only [putCells, List.length_nil, Nat.add_zero]
  rw [if_neg (by omega)]
 | v :: r, cs, o, j, h => by
  simp only [List.length_cons] at h
  simp only [putCells]
  rw [putCells_get r _ (o + 1) j (by simp; omega)]
  by_cases h1 : o + 1 ≤ j ∧ j < o + 1 + r.length
  ·rw [if_pos h1, if_pos (by simp only [List.length_cons]; omega)]
   have : j - o = (j - (o + 1)) + 1 := by omega
   rw [this]; simp
  ·rw [if_neg h1]
   by_cases h2 : o = j
   ·subst h2
    rw [if_pos (by simp only [List.length_cons]; omega)]
    rw [Array.getElem?_setIfInBounds_self_of_lt (by omega)]
    simp
   ·rw [if_neg (by simp only [List.length_cons]; omega), Array.getElem?_setIfInBounds_ne h2]
structure AppTy (P : Program) (t e k : Nat) : Prop where
 sl : P.underlying t = some (.slice e)
 size : Val P (sizeOf e) k
 info : ∃ i, P.info? e = some i ∧ i.bytes ≤ 65536
 zero : ∃ z, Val P (zeroValue e) z ∧ z.cells.size = k
section
variable {P : Program} {B : Base} {main : Bool} {𝒥 : Jd P B main} {c : Ctx} {R : RMap} {H H' : HList} {st st' : St} {o : Oper}
theorem SemOk.weaken {α : Type} {s : Sem α} {K K' : α → RMap → HList → Prop} (h : SemOk P B R H s K) (hk : ∀ a R' H', K a R' H' → ∃ R'' H'', (∀ w, Fits B R' H' w → Upd B R' H' w R'' H'' w) ∧ K' a R'' H'') : SemOk P B R H s K' := by
 intro w hw
 obtain ⟨a, w', R', H', h1, h2, h3, h4⟩ := h w hw
 obtain ⟨R'', H'', g1, g2⟩ := hk a R' H' h4
 exact ⟨a, w', R'', H'', h1, h2, h3.trans (g1 w' h3.fits), g2⟩
theorem SemOk.firstCells {α : Type} {K : CRel α} {k : Nat} {u : Value} {ys : List α} {Q : Array Value → RMap → HList → Prop} (hu : ArgSl K k R H u ys) (hQ : ∀ es : List Value, Enc K k R ys es → Q es.toArray R H) : SemOk P B R H (Builtin.firstCells k ys.length u) Q := by
 obtain ⟨A, cap, es, rfl, hE, hc⟩ := hu
 cases ys with
 | nil =>
  have e0 : es = [] := by have := hE.len; simpa using this
  subst e0
  cases A with
  | none => exact SemOk.pure (hQ [] hE)
  | some a =>
   simp only [Builtin.firstCells, List.length_nil, Nat.zero_mul, loadCells]
   exact SemOk.pure (hQ [] hE)
 | cons y ys =>
  obtain ⟨b, o, rfl, hcs⟩ := hc (by simp)
  simp only [Builtin.firstCells, loadCells]
  rw [← hE.len]
  exact SemOk.loadCellsFrom es 0 #[] (by simpa using hcs) (by simpa using hQ es hE)
theorem OwnSl.arg {α : Type} {K : CRel α} {k e : Nat} {G : HList → HList} (hG : Hole G) {v : Value} {xs : List α} {Hs : HList} (h : OwnSl K k e R v xs Hs) : ArgSl K k R (G Hs) v xs := by
 rcases h with ⟨A, rfl, rfl, _⟩ | ⟨b, cap, cs, es, rfl, rfl, h3, h4, h5, h6⟩
 ·exact ⟨A, 0, [], rfl, .nil, fun h => absurd rfl h⟩
 ·refine ⟨_, cap, es, rfl, h5, fun _ => ⟨b, 0, rfl, fun j w hj => ⟨rfl, cs, e, (0, 0), .inr ?_, by simpa using h6 j w hj⟩⟩⟩
  obtain ⟨A, D, hGe⟩ := hG
  rw [hGe]; simp
theorem nextcap_le {n m : Nat} (h : m < n) (hn : n ≤ 16777216) : Builtin.nextslicecap n m ≤ 67108864 := by
 unfold Builtin.nextslicecap
 split
 ·omega
 ·split
  ·omega
  ·have : ∀ (r c : Nat), c ≤ 16777216 → Builtin.growBy n r c ≤ 67108864 := by
    intro r
    induction r with
    | zero => intro c hc; simp only [Builtin.growBy]; omega
    | succ r ih =>
     intro c hc
     simp only [Builtin.growBy]
     split
     ·omega
     ·rename_i hcn
      by_cases h2 : c + (c + 768) / 4 ≤ 16777216
      ·exact ih _ h2
      ·
       cases r with
       | zero => simp only [Builtin.growBy]; omega
       | succ r => simp only [Builtin.growBy]; rw [if_pos (by omega)]; omega
   exact this 4 m (by omega)
theorem SemOk.append {α : Type} {K : CRel α} [CM K] {k t e xT T : Nat} {G : HList → HList} (hG : Hole G) {v u : Value} {xs ys : List α} {Hs : HList} {dx : TypeDesc} (ht : AppTy P t e k) (hxT : P.underlying xT = some dx) (hdx : ∀ kd, dx ≠ .int kd)
  (hO : OwnSl K k e R v xs Hs) (hu : ArgSl K k R (G Hs) u ys) (hl : xs.length + ys.length ≤ 16777216) {Q : Value → RMap → HList → Prop} (hk : ∀ v' Hs', OwnSl K k e R v' (xs ++ ys) Hs' → Q v' R (G Hs')) :
  SemOk P B R (G Hs) (Builtin.append_ #[t, xT] T #[v, u]) Q := by
 obtain ⟨A2, cap2, es2, hu2⟩ := id hu
 have hv : ∃ base cap, v = .slice base xs.length cap := by
  rcases hO with ⟨A, rfl, rfl, _⟩ | ⟨b, cap, cs, es, rfl, _⟩
  ·exact ⟨A, 0, rfl⟩
  ·exact ⟨_, cap, rfl⟩
 obtain ⟨base, cap, rfl⟩ := hv
 obtain ⟨i, hi, hbytes⟩ := ht.info
 obtain ⟨z, hz, hzs⟩ := ht.zero
 have hlen : Val P (Builtin.lenOf u) ys.length := by rw [hu2.1]; exact Val.pure _
 have run : SemOk P B R (G Hs) (do
   let need := xs.length + ys.length
   if need ≤ cap then do
    let new ← Builtin.firstCells k ys.length u
    if let some a := base then storeCells (a.add (xs.length * k)) new.toList
    Pure.pure (Value.slice base need cap)
   else do
    if (need : Int) > IntKind.i64.max ∧ (false = true ∨ (← typeInfo e).bytes = 0) then runtimePanic (.error "growslice: len out of range")
    if Builtin.nextslicecap need cap * (← typeInfo e).bytes > 2 ^ 48 then (if false = true then runtimePanic (.error "growslice: len out of range") else do
     if !(← Builtin.mayShare k xs.length ys.length base u) then mark .noRoom
     unsupported (.resourceLimit "append: a slice or a string whose bytes no memory bears"))
    let newCap ← Go.choose (Question.appendCap need cap e)
    askRoom (newCap * (← typeInfo e).bytes)
    let old ← Builtin.firstCells k xs.length (.slice base xs.length cap)
    let new ← Builtin.firstCells k ys.length u
    let rest := Builtin.zeroCells (← zeroValue e).cells (newCap - need)
    Pure.pure (Value.slice (some (← newRow e (old ++ new ++ rest))) need newCap)) Q := by
  dsimp only
  by_cases hc : xs.length + ys.length ≤ cap
  ·rw [if_pos hc]
   refine SemOk.bind (SemOk.firstCells hu fun es hE => ?_)
   rcases hO with ⟨A, e1, rfl, rfl⟩ | ⟨b, cap', cs, esx, e1, rfl, h3, h4, h5, h6⟩
   ·injection e1 with e1 e2 e3
    subst e1; subst e3
    have hy : ys = [] := by simpa using hc
    subst hy
    have e0 : es = [] := by have := hE.len; simpa using this
    subst e0
    have key : Q (.slice base ([] : List α).length 0) R (G []) := hk _ [] (.inl ⟨base, rfl, by simp, rfl⟩)
    cases base with
    | none => exact SemOk.bind (SemOk.pure (SemOk.pure key))
    | some a => exact SemOk.bind (SemOk.pure (SemOk.pure key))
   ·injection e1 with e1 _ e3
    subst e1; subst e3
    dsimp only
    rw [show (⟨b, 0, none⟩ : Addr).add (xs.length * k) = ⟨b, 0 + xs.length * k, none⟩ from add_none _ _ _, Nat.zero_add]
    refine SemOk.given fun hnd => SemOk.bind (SemOk.storeCells' es cs (xs.length * k) 0 (G [(b, .cells cs e (0, 0))]) (G [(b, .cells (putCells cs (xs.length * k) es) e (0, 0))]) hE.one ?_ (by simpa using Hole.set hG) hnd (SemOk.pure ?_))
    ·rw [h3, hE.len, Nat.add_zero, ← Nat.add_mul]; exact Nat.mul_le_mul_right k hc
    ·have hfit : xs.length * k + es.length ≤ cs.size := by rw [h3, hE.len, ← Nat.add_mul]; exact Nat.mul_le_mul_right k hc
     refine hk _ _ (.inr ⟨b, cap, putCells cs (xs.length * k) es, esx ++ es, by rw [List.length_append], rfl, by rw [putCells_size]; exact h3, by rw [List.length_append]; exact hc, h5.append hE, fun j w hj => ?_⟩)
     rw [putCells_get es cs _ _ hfit]
     by_cases hjx : j < esx.length
     ·rw [List.getElem?_append_left hjx] at hj
      rw [if_neg (by rw [← h5.len]; omega)]
      exact h6 j w hj
     ·rw [List.getElem?_append_right (by omega)] at hj
      have := (List.getElem?_eq_some_iff.1 hj).1
      rw [if_pos (by rw [← h5.len]; omega), ← h5.len]
      exact hj
  ·rw [if_neg hc]
   have hnb : Builtin.nextslicecap (xs.length + ys.length) cap * i.bytes ≤ 2 ^ 48 := by
    have h1 := nextcap_le (n := xs.length + ys.length) (m := cap) (by omega) hl
    calc _ ≤ 67108864 * 65536 := Nat.mul_le_mul h1 hbytes
     _ ≤ 2 ^ 48 := by decide
   have hni : ¬ (((xs.length + ys.length : Nat) : Int) > IntKind.i64.max ∧ (false = true ∨ i.bytes = 0)) := by
    intro h
    have : IntKind.i64.max = 9223372036854775807 := by decide
    omega
   refine Val.bindOk (Val.typeInfo hi) ?_
   rw [if_neg hni]
   refine Val.bindOk (Val.typeInfo hi) ?_
   rw [if_neg (by omega)]
   refine (SemOk.bind (SemOk.choose fun tape => Val.bindOk (Val.typeInfo hi) (SemOk.bind ?_)))
   have hask : ∀ (n : Nat) (Q' : Unit → RMap → HList → Prop), Q' () R (G Hs) → SemOk P B R (G Hs) (askRoom n) Q' := by
    intro n Q' hq
    unfold askRoom
    split
    ·exact SemOk.markRoom hq
    ·exact SemOk.pure hq
   refine hask _ _ ?_
   simp only [Question.forced, Bool.false_eq_true, if_false, Question.cut]
   generalize hcap : xs.length + ys.length + tape % (2 ^ 63 - (xs.length + ys.length)) = newCap
   refine SemOk.bind (SemOk.firstCells (OwnSl.arg hG hO) fun esx hEx => SemOk.bind (SemOk.firstCells hu fun esy hEy => Val.bindOk hz ?_))
   simp only [newRow]
   refine SemOk.bind (SemOk.bind (SemOk.weaken (SemOk.new (K := fun r R' H' => R' = R ∧ H' = (r, .cells (esx.toArray ++ esy.toArray ++ Builtin.zeroCells z.cells (newCap - (xs.length + ys.length))) e (0, 0)) :: G Hs) fun r _ _ => ⟨rfl, rfl⟩) fun r R' H' hrh => ?_))
   obtain ⟨rfl, rfl⟩ := hrh
   refine ⟨R', G [(r, .cells (esx.toArray ++ esy.toArray ++ Builtin.zeroCells z.cells (newCap - (xs.length + ys.length))) e (0, 0))], fun w hw => ?_, SemOk.pure (SemOk.pure (hk _ _ (.inr ⟨r, newCap, _, esx ++ esy, by rw [List.length_append], rfl, ?_, by rw [List.length_append]; omega, hEx.append hEy, fun j w hj => ?_⟩)))⟩
   ·obtain ⟨A, D, hGe⟩ := hG
    rw [hGe, hGe] at *
    have h1 := upd_perm (H' := A ++ (Hs ++ ((r, .cells (esx.toArray ++ esy.toArray ++ Builtin.zeroCells z.cells (newCap - (xs.length + ys.length))) e (0, 0)) :: D))) (by simpa using List.perm_middle (l₁ := A ++ Hs)) hw
    refine h1.trans (upd_sub ?_ h1.fits)
    exact List.Sublist.append_left (List.sublist_append_right _ _) _
   ·simp only [Array.size_append, List.size_toArray, hEx.len, hEy.len, Builtin.zeroCells, Array.size_map, Array.size_range, hzs]
    rw [← Nat.add_mul, ← Nat.add_mul]
    congr 1; omega
   ·have := (List.getElem?_eq_some_iff.1 hj).1
    rw [Array.getElem?_append_left (by simpa using this)]
    simpa using hj
 unfold Builtin.append_
 refine Val.bindOk (Val.underlying ht.sl) (Val.bindOk ht.size (Val.bindOk (Val.underlying hxT) (Val.bindOk (a := false) (by cases dx <;> first | exact Val.pure _ | exact absurd rfl (hdx _)) ?_)))
 exact Val.bindOk hlen run
theorem Ox.append {α : Type} {K : CRel α} [CM K] {k t e xT : Nat} (G : HList → HList) {x y : Operand} {v u : Value} {xs ys zs : List α} {Hs : HList} {dx : TypeDesc} {C : RMap → HList → St → Prop} (hop : o.op = .call ⟨.builtin .append, #[x, y], #[t, xT]⟩) (hx : evalS st x = some v) (hy : evalS st y = some u)
  (ht : AppTy P t e k) (hxT : P.underlying xT = some dx) (hdx : ∀ kd, dx ≠ .int kd) (hG : Hole G) (hO : OwnSl K k e R v xs Hs) (hu : ArgSl K k R (G Hs) u ys) (hl : appM xs ys = some zs) (hd : dstLt o.dst c.n)
  (hC : ∀ v' Hs', OwnSl K k e R v' zs Hs' → ∃ st', SubL (putS o.dst v' st) st' ∧ C R (G Hs') st') : SemTo P B c o R (G Hs) st C := by
 obtain ⟨hl1, rfl⟩ := appM_some hl
 refine ⟨by rw [hop]; rfl, hd, fun ρ hρ => ?_⟩
 simp only [execOp, hop]
 refine Val.bindOk (a := ⟨.builtin .append #[t, xT] o.type (#[x, y].map fun | .const _ => true | _ => false), #[x, y].map ρ⟩) (Val.pure _) ?_
 simp only [invoke, builtin]
 have e : (#[x, y].map ρ) = #[v, u] := by simp [hρ x _ hx, hρ y _ hy]
 rw [e]
 refine SemOk.bind (SemOk.append hG ht hxT hdx hO hu hl1 fun v' Hs' hO' => SemOk.pure ?_)
 obtain ⟨st', hs, h⟩ := hC v' Hs' hO'
 exact ⟨v', .inl rfl, st', hs, h⟩
theorem At.freezeOwn {α : Type} {K : CRel α} [CM K] {k e : Nat} {todo : List Item} (G : HList → HList) (hG : Hole G) {v : Value} {xs : List α} {Hs H2 : HList} (h2 : G [] = H2) (hO : OwnSl K k e R v xs Hs) (h : ∀ R', RLe R R' → SlR K k R' v xs → At 𝒥 c R' H2 st todo) : At 𝒥 c R (G Hs) st todo := by
 subst h2
 rcases hO with ⟨A, rfl, rfl, rfl⟩ | ⟨b, cap, cs, es, rfl, rfl, h3, h4, h5, h6⟩
 ·exact h R (RLe.refl R) .nil
 ·obtain ⟨A, D, hGe⟩ := hG
  rw [hGe] at h ⊢
  refine At.perm (H' := (b, .cells cs e (0, 0)) :: (A ++ ([] ++ D))) (by simpa using List.perm_middle.symm) (At.freeze fun R' hR hb => h R' hR ?_)
  exact ⟨_, cap, es, rfl, h5.mono hR, h4, fun _ => ⟨b, 0, cs, e, (0, 0), rfl, hb, fun j w hj => by simpa using h6 j w hj⟩⟩
theorem At.freezeLit {α : Type} {K : CRel α} [CM K] {k e b n : Nat} {todo : List Item} (G : HList → HList) (hG : Hole G) {H2 : HList} (h2 : G [] = H2) {ys : List α} {cs : Array Value} (hE : Enc K k R ys cs.toList) (hn : ys.length = n) (h : ∀ R', RLe R R' → SlR K k R' (.slice (some ⟨b, 0, none⟩) n n) ys → At 𝒥 c R' H2 st todo) : At 𝒥 c R (G [(b, .cells cs e (0, 0))]) st todo := by
 subst hn h2
 obtain ⟨A, D, hGe⟩ := hG
 rw [hGe] at h ⊢
 refine At.perm (H' := (b, .cells cs e (0, 0)) :: (A ++ ([] ++ D))) (by simpa using List.perm_middle.symm) (At.freeze fun R' hR hb => h R' hR ?_)
 exact ⟨_, ys.length, cs.toList, rfl, hE.mono hR, Nat.le_refl _, fun _ => ⟨b, 0, cs, e, (0, 0), rfl, hb, fun j w hj => by simpa using hj⟩⟩
theorem OwnSl.lit {α : Type} {K : CRel α} {k e b n : Nat} {ys : List α} {cs : Array Value} (hE : Enc K k R ys cs.toList) (hn : ys.length = n) : OwnSl K k e R (.slice (some ⟨b, 0, none⟩) n n) ys [(b, .cells cs e (0, 0))] := by
 subst hn
 exact .inr ⟨b, _, cs, cs.toList, rfl, rfl, by simpa using hE.len, Nat.le_refl _, hE, fun j w hj => by simpa using hj⟩
end
end Go.Lg
namespace Go.Lg
open Go.Conc
theorem SubL.one {dst : Option Tmp} {d : Tmp} {v : Value} {st : St} (h : dst = some d) : SubL (putS dst v st) [(d, v)] := by
 subst h
 intro t u hu
 simp only [List.lookup_cons, List.lookup_nil] at hu
 simp only [putS, List.lookup_cons]
 split at hu
 ·exact hu
 ·cases hu
theorem HSet.skip {Ks H H' : HList} {b : Nat} {o o' : Obj} (h : HSet H b o o' H') : HSet (Ks ++ H) b o o' (Ks ++ H') := by
 induction Ks with
 | nil => exact h
 | cons p Ks ih => exact .there ih
theorem CellsAt.box {R : RMap} {H : HList} {b : Nat} {e : TypeId} {fz : Nat × Nat} {L : List Value} (hm : (b, Obj.cells L.toArray e fz) ∈ H) : CellsAt R H b 0 L := fun j v hj => ⟨rfl, _, e, fz, .inr hm, by simpa using hj⟩
theorem Hole.id {D : HList} : Hole (fun X => X ++ D) := ⟨[], D, fun _ => rfl⟩
theorem Hole.cons {p : Nat × Obj} {G : HList → HList} (h : Hole G) : Hole (fun X => p :: G X) := by
 obtain ⟨A, D, h⟩ := h
 exact ⟨p :: A, D, fun X => by show p :: G X = _; rw [h]; rfl⟩
theorem Hole.app {L : HList} {G : HList → HList} (h : Hole G) : Hole (fun X => L ++ G X) := by
 obtain ⟨A, D, h⟩ := h
 exact ⟨L ++ A, D, fun X => by show L ++ G X = _; rw [h, List.append_assoc]⟩
theorem fill_nil {place : Nat → Option (Nat × Nat)} {cells : Array Value} : Instr.fill place cells [] = some cells := rfl
theorem put_zip (vc : List Value) : ∀ (cells : Array Value) (off j : Nat), (vc.zipIdx j).foldl (fun cs (c, i) => cs.setIfInBounds (off + i) c) cells = putCells cells (off + j) vc := by
 induction vc with
 | nil => intro cells off j; rfl
 | cons v r ih => intro cells off j; simp only [List.zipIdx_cons, List.foldl_cons, putCells]; rw [ih]; rfl
theorem put_zipA (vc cells : Array Value) (off : Nat) : vc.zipIdx.foldl (fun cs (c, i) => cs.setIfInBounds (off + i) c) cells = putCells cells off vc.toList := by
 have h := put_zip vc.toList cells off 0
 rw [Nat.add_zero] at h
 rw [← h, ← Array.foldl_toList]
 simp
theorem fill_cons {place : Nat → Option (Nat × Nat)} {cells cells' out vc : Array Value} {i off size : Nat} {v : Value} {rest : List (Nat × Value)} (hp : place i = some (off, size)) (hc : v.cells = vc)
  (hs : (vc.size == size && Nat.ble (off + vc.size) cells.size) = true) (hput : putCells cells off vc.toList = cells') (h : Instr.fill place cells' rest = some out) : Instr.fill place cells ((i, v) :: rest) = some out := by
 subst hc
 rw [Bool.and_eq_true] at hs
 have h1 : v.cells.size = size := by simpa using hs.1
 have h2 : off + v.cells.size ≤ cells.size := by simpa [Nat.ble_eq] using hs.2
 simp only [Instr.fill, hp]
 rw [if_neg (by simp [h1]; omega), put_zipA, hput]
 exact h
theorem ones_nil : ∀ u ∈ ([] : List Value), u.oneCell' = true := fun _ h => by cases h
theorem ones_cons {v : Value} {l : List Value} (h : v.oneCell' = true) (t : ∀ u ∈ l, u.oneCell' = true) : ∀ u ∈ v :: l, u.oneCell' = true := fun u hu => by
 rcases List.mem_cons.1 hu with rfl | hu
 ·exact h
 ·exact t u hu
theorem ones_app {l m : List Value} (h : ∀ u ∈ l, u.oneCell' = true) (t : ∀ u ∈ m, u.oneCell' = true) : ∀ u ∈ l ++ m, u.oneCell' = true := fun u hu => (List.mem_append.1 hu).elim (h u) (t u)
theorem ones_map {α : Type} {f : α → Value} {xs : List α} (h : ∀ x, (f x).oneCell' = true) : ∀ u ∈ xs.map f, u.oneCell' = true := fun u hu => by
 obtain ⟨x, _, rfl⟩ := List.mem_map.1 hu
 exact h x
theorem CellsAt.part {R : RMap} {H : HList} {b o j n : Nat} {L vs : List Value} (h : CellsAt R H b o L) (hv : (L.drop j).take n = vs) : CellsAt R H b (o + j) vs := by
 intro i v hi
 subst hv
 rw [List.getElem?_take] at hi
 split at hi
 ·rw [List.getElem?_drop] at hi
  have := h _ _ hi
  simpa [Nat.add_assoc] using this
 ·cases hi
theorem CellsAt.arr {α : Type} {R : RMap} {H : HList} {b o k : Nat} {f : α → Value} {pre post : List Value} {xs : List α} {i : Int} {x : α} (h : CellsAt R H b o (pre ++ (xs.map f ++ post))) (hi : idx xs i = some x) (hk : pre.length = k) : Cell R H ⟨b, o + k + i.toNat * 1, none⟩ (f x) := by
 obtain ⟨_, _, h3⟩ := idx_some hi
 have hlt := (List.getElem?_eq_some_iff.1 h3).1
 have := h (k + i.toNat) (f x) (by
  rw [List.getElem?_append_right (by omega), ← hk, Nat.add_sub_cancel_left, List.getElem?_append_left (by simpa using hlt)]
  simp [h3])
 simpa [Nat.add_assoc] using this
theorem CellsAt.sub {R : RMap} {H H' : HList} {b o : Nat} {L : List Value} (h : CellsAt R H b o L) (hs : ∀ p ∈ H, p ∈ H') : CellsAt R H' b o L := fun j v hj => by
 obtain ⟨h1, cs, e, fz, h2, h3⟩ := h j v hj
 exact ⟨h1, cs, e, fz, h2.imp id (hs _), h3⟩
theorem CellsAt.le {R R' : RMap} {H : HList} {b o : Nat} {L : List Value} (h : CellsAt R H b o L) (hs : RLe R R') : CellsAt R' H b o L := fun j v hj => by
 obtain ⟨h1, cs, e, fz, h2, h3⟩ := h j v hj
 exact ⟨h1, cs, e, fz, h2.imp (hs _ _) id, h3⟩
theorem arr_set {α : Type} {f : α → Value} {pre post : List Value} {xs : List α} {i : Int} {x y : α} {k : Nat} (hi : idx xs i = some y) (hk : pre.length = k) : ((pre ++ (xs.map f ++ post)).toArray).setIfInBounds (k + i.toNat * 1) (f x) = (pre ++ ((xs.set i.toNat x).map f ++ post)).toArray := by
 obtain ⟨_, _, h3⟩ := idx_some hi
 have hlt := (List.getElem?_eq_some_iff.1 h3).1
 subst hk
 simp only [Nat.mul_one, List.setIfInBounds_toArray, List.map_set]
 congr 1
 rw [List.set_append_right _ _ (by omega), Nat.add_sub_cancel_left, List.set_append_left _ _ (by simpa using hlt)]
theorem arr_lt {α : Type} {f : α → Value} {pre post : List Value} {xs : List α} {i : Int} {y : α} {k : Nat} (hi : idx xs i = some y) (hk : pre.length = k) : Nat.blt (k + i.toNat * 1) ((pre ++ (xs.map f ++ post)).toArray).size = true := by
 obtain ⟨_, _, h3⟩ := idx_some hi
 have hlt := (List.getElem?_eq_some_iff.1 h3).1
 rw [Nat.blt_eq]
 simp
 omega
theorem take_all {L : List Value} {n : Nat} (h : L.length = n) : (L.drop 0).take n = L := by subst h; simp
theorem idxArr' {P : Program} {α : Type} {t e len k b m : Nat} {i : Int} {xs : List α} {x : α} (ht : ArrayTy P t len e k) (hl : xs.length = len) (hi : idx xs i = some x) : IdxTo P t (.pointer (some ⟨b, m, none⟩)) i b (m + i.toNat * k) := by
 obtain ⟨h1, h2, _⟩ := idx_some hi
 exact idxArr ht ⟨h1, by omega⟩
theorem SlR.one {α : Type} {C : CRel α} {k : Nat} {R : RMap} {v : Value} {xs : List α} (h : SlR C k R v xs) : v.oneCell' = true := by
 obtain ⟨A, cap, es, rfl, _⟩ := h; rfl
theorem SlR.cells {α : Type} {C : CRel α} {k : Nat} {R : RMap} {v : Value} {xs : List α} (h : SlR C k R v xs) : v.cells = #[v] := by
 obtain ⟨A, cap, es, rfl, _⟩ := h; rfl
theorem OwnSl.cells {α : Type} {C : CRel α} {k e : Nat} {R : RMap} {v : Value} {xs : List α} {Hs : HList} (h : OwnSl C k e R v xs Hs) : v.cells = #[v] := by
 rcases h with ⟨A, rfl, _⟩ | ⟨b, cap, cs, es, rfl, _⟩ <;> rfl
theorem OwnSl.one {α : Type} {C : CRel α} {k e : Nat} {R : RMap} {v : Value} {xs : List α} {Hs : HList} (h : OwnSl C k e R v xs Hs) : v.oneCell' = true := by
 rcases h with ⟨A, rfl, _⟩ | ⟨b, cap, cs, es, rfl, _⟩ <;> rfl
theorem Enc.cons {α : Type} {C : CRel α} {k : Nat} {R : RMap} {x : α} {xs : List α} {e1 es : List Value} (h : C R x e1) (hk : e1.length = k) (g : Enc C k R xs es) : Enc C k R (x :: xs) (e1 ++ es) := (Enc.single h hk).append g
theorem Enc.le {α : Type} {C : CRel α} {k : Nat} {R : RMap} {xs : List α} {es fs : List Value} (h : Enc C k R xs es) (e : es = fs) : Enc C k R xs fs := by subst e; exact h
section
variable {P : Program} {B : Base} {main : Bool} {𝒥 : Jd P B main} {c : Ctx} {R : RMap} {H H' : HList} {st st' : St} {o : Oper} {k : List Item}
theorem SemOk.ghost {α : Type} {s : Sem α} {K : α → RMap → HList → Prop} {R' : RMap} (hg : ∀ w, Fits B R H w → Upd B R H w R' H' w) (h : SemOk P B R' H' s K) : SemOk P B R H s K := by
 intro w hw
 have h0 := hg w hw
 obtain ⟨a, w', R'', H'', h1, h2, h3, h4⟩ := h w h0.fits
 exact ⟨a, w', R'', H'', h1, fun e he => (h2 e he).up h0, h0.trans h3, h4⟩
theorem FnOk.ghost {f : FuncId} {args : Array Value} {Post : Value → RMap → HList → Prop} {R' : RMap} (hg : ∀ w, Fits B R H w → Upd B R H w R' H' w) (h : FnOk 𝒥 f args R' H' Post) : FnOk 𝒥 f args R H Post :=
 fun fr cs hk => 𝒥.ghost hg (h fr cs hk)
inductive ResOk (P : Program) (R : RMap) (H : HList) (st : St) : List ResultVar → List Value → Prop
 | nil : ResOk P R H st [] []
 | tmp {t : Tmp} {v : Value} {r : List ResultVar} {vs : List Value} : st.lookup t = some v → ResOk P R H st r vs → ResOk P R H st (.tmp t :: r) (v :: vs)
 | one {a : Tmp} {t : TypeId} {b o : Nat} {v : Value} {r : List ResultVar} {vs : List Value} : st.lookup a = some (.pointer (some ⟨b, o, none⟩)) → OneTy P t → Cell R H ⟨b, o, none⟩ v → ResOk P R H st r vs → ResOk P R H st (.cell a t :: r) (v :: vs)
 | agg {a : Tmp} {t : TypeId} {b o n : Nat} {us : List Value} {r : List ResultVar} {vs : List Value} : st.lookup a = some (.pointer (some ⟨b, o, none⟩)) → AggTy P t n → us.length = n → CellsAt R H b o us → ResOk P R H st r vs → ResOk P R H st (.cell a t :: r) (.agg us.toArray :: vs)
theorem semOk_mapM {tmps : Array Value} {n : Nat} (ht : Rep n st tmps) : ∀ {l : List ResultVar} {vs : List Value}, ResOk P R H st l vs → ∀ {K : List Value → RMap → HList → Prop}, K vs R H →
  SemOk P B R H (l.mapM (m := Sem) fun
   | .tmp t => pure (tmps.getD t undef)
   | .cell a t => do loadVar t (← asAddr (tmps.getD a undef))) K := by
 intro l vs h
 induction h with
 | nil => intro K hk; exact SemOk.pure hk
 | @tmp t v r vs hl _ ih =>
  intro K hk
  rw [List.mapM_cons]
  have : tmps.getD t undef = v := by simp [Array.getD_eq_getD_getElem?, ht.2 t v hl]
  refine Val.bindOk (a := v) (by show Val P (pure (tmps.getD t undef)) v; rw [this]; exact Val.pure _) (SemOk.bind (ih (K := fun us R' H' => K (v :: us) R' H') hk |>.mono fun us R' H' h => SemOk.pure h))
 | @one a t b o v r vs hl hty hc _ ih =>
  intro K hk
  rw [List.mapM_cons]
  have : tmps.getD a undef = .pointer (some ⟨b, o, none⟩) := by simp [Array.getD_eq_getD_getElem?, ht.2 a _ hl]
  simp only [this]
  refine SemOk.bind (Val.bindOk (a := ⟨b, o, none⟩) (Val.pure _) ?_)
  unfold loadVar
  refine Val.bindOk hty.1 (SemOk.load hc (SemOk.bind (ih (K := fun us R' H' => K (v :: us) R' H') hk |>.mono fun us R' H' h => SemOk.pure h)))
 | @agg a t b o n us r vs hl hty hn hc _ ih =>
  intro K hk
  rw [List.mapM_cons]
  have : tmps.getD a undef = .pointer (some ⟨b, o, none⟩) := by simp [Array.getD_eq_getD_getElem?, ht.2 a _ hl]
  simp only [this]
  refine SemOk.bind (Val.bindOk (a := ⟨b, o, none⟩) (Val.pure _) ?_)
  unfold loadVar
  refine Val.bindOk hty.1 ?_
  simp only [if_true]
  subst hn
  refine Val.bindOk hty.2 (SemOk.bind (SemOk.loadCellsFrom us 0 #[] (by simpa using hc) (SemOk.pure ?_)))
  simp only [List.append_toArray, List.nil_append]
  exact SemOk.bind (ih (K := fun vs R' H' => K (.agg us.toArray :: vs) R' H') hk |>.mono fun us R' H' h => SemOk.pure h)
theorem semOk_results {fn : Func} {tmps : Array Value} {n : Nat} {vs : List Value} (ht : Rep n st tmps) (h : ResOk P R H st fn.results.toList vs) : SemOk P B R H (results fn tmps) fun v R' H' => v = resV vs ∧ R' = R ∧ H' = H := by
 unfold results
 rw [← Array.toArray_toList (xs := fn.results), List.mapM_toArray]
 refine SemOk.bind (SemOk.map (semOk_mapM ht h ?_))
 cases vs with
 | nil => exact SemOk.pure ⟨rfl, rfl, rfl⟩
 | cons v r => cases r with
  | nil => exact SemOk.pure ⟨rfl, rfl, rfl⟩
  | cons _ _ => exact SemOk.pure ⟨rfl, rfl, rfl⟩
theorem At.retR {fr : Frame} {cs : List Frame} {f : FuncId} {n : Nat} {fn : Func} {vs : List Value} (hf : P.funcs[f]? = some fn) (hr : ResOk P R H st fn.results.toList vs) (hj : 𝒥.J R H (gor (fr.finish (resV vs)) cs)) :
  At 𝒥 ⟨f, .normal, none, n, [], fr :: cs⟩ R H st (.code .ret :: k) := fun tmps ht => by
 refine Jd.ctl (g' := gor { (frm ⟨f, .normal, none, n, [], fr :: cs⟩ tmps (.code .ret :: k)) with mode := .returning } (fr :: cs)) rfl (fun w => by simp [stepG, stepG.exec, gor, frm])
  (𝒥.step rfl fun w hw => ?_)
 obtain ⟨v, w', R', H', h1, h2, h3, rfl, rfl, rfl⟩ := semOk_results (P := P) ht hr w hw
 refine ⟨gor (fr.finish (resV vs)) cs, w', seen P f ((results fn tmps).events P w #[]), R', H', ?_, fun e he => h2 e (mem_seen he), h3, hj⟩
 simp [stepG, unwind, doReturn, gor, frm, hf, h1, GStep.after]
theorem At.endR {fr : Frame} {cs : List Frame} {f : FuncId} {n : Nat} {fn : Func} {vs : List Value} (hf : P.funcs[f]? = some fn) (hr : ResOk P R H st fn.results.toList vs) (hj : 𝒥.J R H (gor (fr.finish (resV vs)) cs)) :
  At 𝒥 ⟨f, .normal, none, n, [], fr :: cs⟩ R H st [] := fun tmps ht => by
 refine Jd.ctl (g' := gor { (frm ⟨f, .normal, none, n, [], fr :: cs⟩ tmps []) with mode := .returning } (fr :: cs)) rfl (fun w => by simp [stepG, stepG.exec, gor, frm])
  (𝒥.step rfl fun w hw => ?_)
 obtain ⟨v, w', R', H', h1, h2, h3, rfl, rfl, rfl⟩ := semOk_results (P := P) ht hr w hw
 refine ⟨gor (fr.finish (resV vs)) cs, w', seen P f ((results fn tmps).events P w #[]), R', H', ?_, fun e he => h2 e (mem_seen he), h3, hj⟩
 simp [stepG, unwind, doReturn, gor, frm, hf, h1, GStep.after]
end
section
variable {P : Program} {B : Base} {main : Bool}
abbrev VRel (α : Type) := RMap → α → Value → Prop
def FunR (𝒥 : Jd P B main) (R : RMap) (H : HList) {α β : Type} (A : VRel α) (D : VRel β) (v : Value) (f : α → Option β) : Prop :=
 ∃ fid first captured, v = .func (.func fid) first captured ∧ Enters P fid ∧ ∀ R' H', RLe R R' → (∀ p ∈ H, p ∈ H') → ∀ x r va, A R' x va → f x = some r → FnOk 𝒥 fid (first ++ #[va] ++ captured) R' H' fun v R'' H'' => RLe R' R'' ∧ H'' = H' ∧ D R'' r v
def VI (kd : IntKind) : VRel Int := fun _ x v => v = .int kd x
def VB : VRel Bool := fun _ x v => v = .bool x
def VSl {α : Type} (C : CRel α) (k : Nat) : VRel (List α) := fun R xs v => SlR C k R v xs
def VAgg {α : Type} (C : CRel α) : VRel α := fun R x v => ∃ es, v = .agg (List.toArray es) ∧ C R x es
theorem FunR.up {𝒥 : Jd P B main} {R R' : RMap} {H H' : HList} {α β : Type} {A : VRel α} {D : VRel β} {v : Value} {f : α → Option β} (h : FunR 𝒥 R H A D v f) (hR : RLe R R') (hH : ∀ p ∈ H, p ∈ H') : FunR 𝒥 R' H' A D v f := by
 obtain ⟨fid, first, captured, h1, h2, h3⟩ := h
 exact ⟨fid, first, captured, h1, h2, fun R'' H'' hR' hH' => h3 R'' H'' (hR.trans hR') (fun p hp => hH' p (hH p hp))⟩
end
end Go.Lg
namespace Go.Lg
open Go.Conc
theorem subKeep {h l1 l2 : HList} (p : List.Sublist l1 l2) : List.Sublist (h ++ l1) (h ++ l2) := List.Sublist.append (List.Sublist.refl _) p
theorem subDrop {h l1 l2 : HList} (p : List.Sublist l1 l2) : List.Sublist l1 (h ++ l2) := by
 induction h with
 | nil => exact p
 | cons a h ih => exact ih.cons a
def CArr {α : Type} (f : α → Value) (n : Nat) : CRel (List α) := fun _ xs es => xs.length = n ∧ es = [] ++ (xs.map f ++ [])
theorem putCells_whole {vs : List Value} {cs : Array Value} (h : vs.length = cs.size) : putCells cs 0 vs = vs.toArray := by
 have hs : (putCells cs 0 vs).size = cs.size := putCells_size _ _ _
 apply Array.ext_getElem?
 intro j
 rw [putCells_get vs cs 0 j (by omega)]
 by_cases hj : j < vs.length
 ·rw [if_pos (by omega)]; simp
 ·rw [if_neg (by omega)]
  rw [Array.getElem?_eq_none (by omega)]
  simp [Nat.not_lt.1 hj]
section
variable {P : Program} {B : Base} {main : Bool} {𝒥 : Jd P B main} {c : Ctx} {R : RMap} {H : HList} {st : St} {k : List Item} {o : Oper} {C : RMap → HList → St → Prop}
theorem At.loopE0R {S Q ρ : Type} {body : S → Option (S ⊕ Q)} {s0 : S} {code : Code} {g : Q → Option ρ} {r : ρ} (hM : (Go.Lg.loopM body s0).bind g = some r) (I : S → RMap → HList → St → Prop) (h0 : I s0 R H st) (hb : ∀ s R H st, I s R H st → ∀ x, body s = some x → (∀ s', x = Sum.inl s' → ∀ R' H' st', I s' R' H' st' → At 𝒥 c R' H' st' (.inLoop code :: k)) → (∀ p, x = (Sum.inr p) → g p = some r) → At 𝒥 c R H st (.code code :: .inLoop code :: k)) : At 𝒥 c R H st (.code (.loop code) :: k) := At.loopM hM I (fun s R H st hI x hx again out => hb s R H st hI x hx again (fun p hp => out _ hp)) h0
theorem At.loopE1 {S P0 ρ : Type} {body : S → Option (S ⊕ P0)} {s0 : S} {code : Code} {f0 : P0 → Option ρ} {r : ρ} {k0 : List Item} (hM : (Go.Lg.loopM body s0).bind f0 = some r) (I : S → RMap → HList → St → Prop) (E0 : P0 → RMap → HList → St → Prop) (id0 : Nat) (_ : exitTo id0 k = some k0) (h0 : I s0 R H st) (ha0 : ∀ p R H st, E0 p R H st → f0 p = some r → At 𝒥 c R H st k0) (hb : ∀ s R H st, I s R H st → ∀ x, body s = some x → (∀ s', x = Sum.inl s' → ∀ R' H' st', I s' R' H' st' → At 𝒥 c R' H' st' (.inLoop code :: k)) → (∀ p, x = (Sum.inr p) → ∀ R' H' st', E0 p R' H' st' → At 𝒥 c R' H' st' k0) → At 𝒥 c R H st (.code code :: .inLoop code :: k)) : At 𝒥 c R H st (.code (.loop code) :: k) := At.loopM hM I (fun s R H st hI x hx again out => hb s R H st hI x hx again (fun p hp R' H' st' hE => ha0 p R' H' st' hE (out _ hp))) h0
theorem At.loopE1R {S P0 Q ρ : Type} {body : S → Option (S ⊕ (P0 ⊕ Q))} {s0 : S} {code : Code} {f0 : P0 → Option ρ} {g : Q → Option ρ} {r : ρ} {k0 : List Item} (hM : (Go.Lg.loopM body s0).bind (Sum.elim f0 g) = some r) (I : S → RMap → HList → St → Prop) (E0 : P0 → RMap → HList → St → Prop) (id0 : Nat) (_ : exitTo id0 k = some k0) (h0 : I s0 R H st) (ha0 : ∀ p R H st, E0 p R H st → f0 p = some r → At 𝒥 c R H st k0) (hb : ∀ s R H st, I s R H st → ∀ x, body s = some x → (∀ s', x = Sum.inl s' → ∀ R' H' st', I s' R' H' st' → At 𝒥 c R' H' st' (.inLoop code :: k)) → (∀ p, x = (Sum.inr (Sum.inl p)) → ∀ R' H' st', E0 p R' H' st' → At 𝒥 c R' H' st' k0) → (∀ p, x = (Sum.inr (Sum.inr p)) → g p = some r) → At 𝒥 c R H st (.code code :: .inLoop code :: k)) : At 𝒥 c R H st (.code (.loop code) :: k) := At.loopM hM I (fun s R H st hI x hx again out => hb s R H st hI x hx again (fun p hp R' H' st' hE => ha0 p R' H' st' hE (out _ hp)) (fun p hp => out _ hp)) h0
theorem At.joinE1 {P0 ρ : Type} {A : Option P0} {it : Item} {f0 : P0 → Option ρ} {r : ρ} (hM : A.bind f0 = some r) (E0 : P0 → RMap → HList → St → Prop) (ha0 : ∀ p R H st, E0 p R H st → f0 p = some r → At 𝒥 c R H st k) (hb : ∀ x, A = some x → (∀ p, x = p → ∀ R' H' st', E0 p R' H' st' → At 𝒥 c R' H' st' k) → At 𝒥 c R H st (it :: k)) : At 𝒥 c R H st (it :: k) := by
 obtain ⟨x, h1, h2⟩ := bnd hM
 exact hb x h1 (fun p hp R' H' st' hE => ha0 p R' H' st' hE (by subst hp; exact h2))
theorem At.joinE1R {P0 Q ρ : Type} {A : Option (P0 ⊕ Q)} {it : Item} {f0 : P0 → Option ρ} {g : Q → Option ρ} {r : ρ} (hM : A.bind (Sum.elim f0 g) = some r) (E0 : P0 → RMap → HList → St → Prop) (ha0 : ∀ p R H st, E0 p R H st → f0 p = some r → At 𝒥 c R H st k) (hb : ∀ x, A = some x → (∀ p, x = (Sum.inl p) → ∀ R' H' st', E0 p R' H' st' → At 𝒥 c R' H' st' k) → (∀ p, x = (Sum.inr p) → g p = some r) → At 𝒥 c R H st (it :: k)) : At 𝒥 c R H st (it :: k) := by
 obtain ⟨x, h1, h2⟩ := bnd hM
 exact hb x h1 (fun p hp R' H' st' hE => ha0 p R' H' st' hE (by subst hp; exact h2)) (fun p hp => by subst hp; exact h2)
theorem Ox.callFun {α β : Type} {A : VRel α} {D : VRel β} {f : α → Option β} {x y : Operand} {ts : Array TypeId} {v va : Value} {a : α} {r : β} {H0 : HList} (h : FunR 𝒥 R H0 A D v f)
  (hop : o.op = .call ⟨.value x, #[y], ts⟩) (hx : evalS st x = some v) (hy : evalS st y = some va) (hA : A R a va) (hf : f a = some r) (hd : dstLt o.dst c.n) (hH : ∀ p ∈ H0, p ∈ H)
  (hC : ∀ w R', RLe R R' → D R' r w → ∃ st', SubL (putS o.dst w st) st' ∧ C R' H st') : OpTo 𝒥 c o R H st C := by
 obtain ⟨fid, first, captured, rfl, he, hk⟩ := h
 refine Ox.callV (vs := [va]) hop rfl hx (by simp [argsS, hy]) he rfl hd ((hk R H (RLe.refl _) hH a r va hA hf).mono fun w R' H' h => ?_)
 obtain ⟨h1, rfl, h3⟩ := h
 exact hC w R' h1 h3
end
end Go.Lg
namespace Go.Lg
open Go.Conc
def RdS {α : Type} (C : CRel α) (k : Nat) (R : RMap) (H : HList) (v : Value) (xs : List α) : Prop :=
 ∃ A cap es, v = .slice A xs.length cap ∧ Enc C k R xs es ∧ xs.length ≤ cap ∧ (xs ≠ [] → ∃ b o, A = some ⟨b, o, none⟩ ∧ CellsAt R H b o es)
theorem RdS.le {α : Type} {C : CRel α} [CM C] {k : Nat} {R R' : RMap} {H : HList} {v : Value} {xs : List α} (h : RdS C k R H v xs) (hR : RLe R R') : RdS C k R' H v xs := by
 obtain ⟨A, cap, es, h1, h2, h3, h4⟩ := h
 refine ⟨A, cap, es, h1, h2.mono hR, h3, fun hx => ?_⟩
 obtain ⟨b, o, g1, g2⟩ := h4 hx
 exact ⟨b, o, g1, g2.le hR⟩
theorem RdS.sub {α : Type} {C : CRel α} {k : Nat} {R : RMap} {H H' : HList} {v : Value} {xs : List α} (h : RdS C k R H v xs) (hs : ∀ p ∈ H, p ∈ H') : RdS C k R H' v xs := by
 obtain ⟨A, cap, es, h1, h2, h3, h4⟩ := h
 refine ⟨A, cap, es, h1, h2, h3, fun hx => ?_⟩
 obtain ⟨b, o, g1, g2⟩ := h4 hx
 exact ⟨b, o, g1, g2.sub hs⟩
theorem SlR.rd {α : Type} {C : CRel α} {k : Nat} {R : RMap} {H : HList} {v : Value} {xs : List α} (h : SlR C k R v xs) : RdS C k R H v xs := by
 obtain ⟨A, cap, es, h1, h2, hc, h3⟩ := h
 refine ⟨A, cap, es, h1, h2, hc, fun hx => ?_⟩
 obtain ⟨b, o, arr, e, fz, g1, g2, g3⟩ := h3 hx
 exact ⟨b, o, g1, fun j w hj => ⟨rfl, arr, e, fz, .inl g2, g3 j w hj⟩⟩
theorem OwnSl.rd {α : Type} {C : CRel α} {k e : Nat} {R : RMap} {H : HList} {v : Value} {xs : List α} {Hs : HList} (h : OwnSl C k e R v xs Hs) (hs : ∀ p ∈ Hs, p ∈ H) : RdS C k R H v xs := by
 rcases h with ⟨A, rfl, rfl, rfl⟩ | ⟨b, cap, cs, es, rfl, rfl, h3, h4, h5, h6⟩
 ·exact ⟨A, 0, [], rfl, .nil, Nat.le_refl _, fun h => absurd rfl h⟩
 ·exact ⟨_, cap, es, rfl, h5, h4, fun _ => ⟨b, 0, rfl, fun j w hj => ⟨rfl, cs, e, (0, 0), .inr (hs _ (by simp)), by simpa using h6 j w hj⟩⟩⟩
theorem RdS.lit {α : Type} {C : CRel α} {k e n b : Nat} {R : RMap} {H : HList} {ys : List α} {cs : Array Value} {fz : Nat × Nat} (hm : (b, Obj.cells cs e fz) ∈ H) (hE : Enc C k R ys cs.toList) (hn : ys.length = n) : RdS C k R H (.slice (some ⟨b, 0, none⟩) n n) ys := by
 subst hn
 exact ⟨_, ys.length, cs.toList, rfl, hE, Nat.le_refl _, fun _ => ⟨b, 0, rfl, fun j w hj => ⟨rfl, cs, e, fz, .inr hm, by simpa using hj⟩⟩⟩
theorem RdS.arg {α : Type} {C : CRel α} {k : Nat} {R : RMap} {H : HList} {v : Value} {xs : List α} (h : RdS C k R H v xs) : ArgSl C k R H v xs := by
 obtain ⟨A, cap, es, h1, h2, _, h3⟩ := h
 exact ⟨A, cap, es, h1, h2, h3⟩
theorem RdS.elem {P : Program} {α : Type} {K : CRel α} {k t e : Nat} {R : RMap} {H : HList} {v : Value} {xs : List α} {i : Int} {x : α} (h : RdS K k R H v xs) (ht : SliceTy P t e k) (hi : idx xs i = some x) :
  ∃ b n es, K R x es ∧ CellsAt R H b n es ∧ IdxTo P t v i b n := by
 obtain ⟨h1, h2, h3⟩ := idx_some hi
 obtain ⟨A, cap, es, rfl, hE, _, hc⟩ := h
 obtain ⟨b, o, rfl, g2⟩ := hc (by rintro rfl; simp at h3)
 obtain ⟨e1, f1, f2, f3⟩ := hE.at_ _ _ h3
 refine ⟨b, o + i.toNat * k, e1, f1, fun j w hj => ?_, fun kd => ?_⟩
 ·have := g2 _ _ (f3 j w hj)
  simpa [Nat.add_assoc] using this
 ·have := val_index_slice (P := P) (b := b) (m := o) (cap := cap) (kd := kd) ht (j := i.toNat) (len := xs.length) (by omega)
  rwa [Int.toNat_of_nonneg h1] at this
theorem swCC (a b : Nat × Obj) (l : HList) : List.Perm (a :: b :: l) (b :: a :: l) := List.Perm.swap _ _ _
theorem swCA (a : Nat × Obj) (B l : HList) : List.Perm (a :: (B ++ l)) (B ++ (a :: l)) := List.perm_middle.symm
section
variable {P : Program} {B : Base} {main : Bool} {𝒥 : Jd P B main} {c : Ctx} {R : RMap} {H H' : HList} {st st' : St} {o : Oper} {C : RMap → HList → St → Prop} {k : List Item}
theorem Ox.lenR {α : Type} {K : CRel α} {k : Nat} {x : Operand} {t e : TypeId} {v : Value} {xs : List α} {H0 : HList} (hop : o.op = .call ⟨.builtin .len, #[x], #[t]⟩) (hx : evalS st x = some v) (hl : RdS K k R H0 v xs) (ht : P.underlying t = some (.slice e))
  (hd : dstLt o.dst c.n) (hs : SubL (putS o.dst (.int .i64 (xs.length : Int)) st) st') (h : C R H st') : SemTo P B c o R H st C := by
 obtain ⟨A, cap, es, rfl, _⟩ := hl
 exact Ox.len hop hx ht hd hs h
theorem At.cut {it : Item} (E : RMap → HList → St → Prop) (h1 : ∀ R' H' st', E R' H' st' → At 𝒥 c R' H' st' k) (h2 : (∀ R' H' st', E R' H' st' → At 𝒥 c R' H' st' k) → At 𝒥 c R H st (it :: k)) : At 𝒥 c R H st (it :: k) := h2 h1
theorem Any.two' {S : Nat → HList} {ops : Array Oper} {n : Nat} {rem ra rb : List Nat} {i j : Nat} {a b : Oper} (ha : ops[i]? = some a) (hb : ops[j]? = some b) (hrd : rem.filter (readyR ops rem) = [i, j]) (hwa : wantedS ops st a = some true) (hwb : wantedS ops st b = some true) (hnd : rem.Nodup) (hra : rem.erase i = ra) (hrb : rem.erase j = rb)
  (h1 : OpTo 𝒥 c a R H st fun R' H' st' => RLe R R' ∧ (∀ p ∈ S i, p ∈ H → p ∈ H') ∧ Any 𝒥 c S ops k n ra R' H' st')
  (h2 : OpTo 𝒥 c b R H st fun R' H' st' => RLe R R' ∧ (∀ p ∈ S j, p ∈ H → p ∈ H') ∧ Any 𝒥 c S ops k n rb R' H' st') : Any 𝒥 c S ops k (n + 1) rem R H st := by
 subst hra hrb
 refine ⟨hnd, fun tmps ht => .inr ⟨(fun e => by rw [e] at hrd; cases hrd), fun _ x hx hxr => ?_⟩⟩
 have : x ∈ rem.filter (readyR ops rem) := List.mem_filter.2 ⟨hx, hxr⟩
 rw [hrd] at this
 simp only [List.mem_cons, List.not_mem_nil, or_false] at this
 rcases this with rfl | rfl
 ·exact h1.opStep ha (wanted_of ht hwa) ht
 ·exact h2.opStep hb (wanted_of ht hwb) ht
theorem Any.three' {S : Nat → HList} {ops : Array Oper} {n : Nat} {rem ra rb rc : List Nat} {i j l : Nat} {a b d : Oper} (ha : ops[i]? = some a) (hb : ops[j]? = some b) (hd : ops[l]? = some d) (hrd : rem.filter (readyR ops rem) = [i, j, l]) (hwa : wantedS ops st a = some true) (hwb : wantedS ops st b = some true) (hwd : wantedS ops st d = some true) (hnd : rem.Nodup) (hra : rem.erase i = ra) (hrb : rem.erase j = rb) (hrc : rem.erase l = rc)
  (h1 : OpTo 𝒥 c a R H st fun R' H' st' => RLe R R' ∧ (∀ p ∈ S i, p ∈ H → p ∈ H') ∧ Any 𝒥 c S ops k n ra R' H' st')
  (h2 : OpTo 𝒥 c b R H st fun R' H' st' => RLe R R' ∧ (∀ p ∈ S j, p ∈ H → p ∈ H') ∧ Any 𝒥 c S ops k n rb R' H' st')
  (h3 : OpTo 𝒥 c d R H st fun R' H' st' => RLe R R' ∧ (∀ p ∈ S l, p ∈ H → p ∈ H') ∧ Any 𝒥 c S ops k n rc R' H' st') : Any 𝒥 c S ops k (n + 1) rem R H st := by
 subst hra hrb hrc
 refine ⟨hnd, fun tmps ht => .inr ⟨(fun e => by rw [e] at hrd; cases hrd), fun _ x hx hxr => ?_⟩⟩
 have : x ∈ rem.filter (readyR ops rem) := List.mem_filter.2 ⟨hx, hxr⟩
 rw [hrd] at this
 simp only [List.mem_cons, List.not_mem_nil, or_false] at this
 rcases this with rfl | rfl | rfl
 ·exact h1.opStep ha (wanted_of ht hwa) ht
 ·exact h2.opStep hb (wanted_of ht hwb) ht
 ·exact h3.opStep hd (wanted_of ht hwd) ht
end
end Go.Lg
namespace Go.Lg
open Go.Conc
section
variable {P : Program} {d : Nat} {xs ys : Array Value}
inductive EqF (P : Program) (d : Nat) (xs ys : Array Value) : List Field → Bool → Prop
 | nil : EqF P d xs ys [] true
 | cons {f : Field} {rest : List Field} {a b : Value} {r r' : Bool} : (f.name == "_") = false → Val P (part f.type xs f.offset) a → Val P (part f.type ys f.offset) b → Val P (Op.equalIn d f.type a b) r → EqF P d xs ys rest r' → EqF P d xs ys (f :: rest) (r && r')
def outB (r : Bool) : Option Bool × Unit := (if r then none else some false, ())
theorem val_forF {fs : List Field} {r : Bool} (h : EqF P d xs ys fs r) :
  Val P (forIn fs ((none : Option Bool), ()) fun f (_ : Option Bool × Unit) =>
      if f.name ≠ "_" then do
       let a ← part f.type xs f.offset
       let b ← part f.type ys f.offset
       let q ← Op.equalIn d f.type a b
       if (!q) = true then pure (ForInStep.done (some false, ())) else pure (ForInStep.yield (none, ()))
      else pure (ForInStep.yield (none, ()))) (outB r) := by
 induction h with
 | nil => rw [List.forIn_nil]; exact Val.pure _
 | @cons f rest a b r r' hn ha hb hq _ ih =>
  have hn' : f.name ≠ "_" := by simpa using hn
  rw [List.forIn_cons]
  simp only [hn', ne_eq, not_false_iff, if_true, bind_assoc]
  refine Val.bind ha (Val.bind hb (Val.bind hq ?_))
  cases r with
  | false => simp only [Bool.not_false, if_true, pure_bind, Bool.false_and]; exact Val.pure _
  | true =>
   simp only [Bool.not_true, Bool.false_eq_true, if_false, pure_bind, Bool.true_and]
   simpa only [ne_eq] using ih
theorem val_eqStruct {t : TypeId} {fields : Array Field} {r : Bool} (hu : P.underlying t = some (.struct fields)) (hst : P.stoodInHeld t = false) (h : EqF P d xs ys fields.toList r) : Val P (Op.equalIn (d+1) t (.agg xs) (.agg ys)) r := by
 rw [Op.equalIn]
 refine Val.bind (Val.underlying hu) ?_
 dsimp only
 refine Val.bind Val.program ?_
 simp only [hst, Bool.false_eq_true, if_false]
 rw [← Array.forIn_toList]
 refine Val.bind (val_forF h) ?_
 cases r <;> exact Val.pure _
theorem val_eqInt {t : TypeId} {kd : IntKind} {a b : Int} (hu : P.underlying t = some (.int kd)) : Val P (Op.equalIn (d+1) t (.int kd a) (.int kd b)) (a == b) := by
 rw [Op.equalIn]
 refine Val.bind (Val.underlying hu) ?_
 simp only [if_true]
 exact Val.pure _
theorem val_eqBool {t : TypeId} {a b : Bool} (hu : P.underlying t = some .bool) : Val P (Op.equalIn (d+1) t (.bool a) (.bool b)) (a == b) := by
 rw [Op.equalIn]
 exact Val.bind (Val.underlying hu) (Val.pure _)
inductive EqA (P : Program) (d : Nat) (elem : TypeId) (n : Nat) (xs ys : Array Value) : List Nat → Bool → Prop
 | nil : EqA P d elem n xs ys [] true
 | cons {i : Nat} {rest : List Nat} {a b : Value} {r r' : Bool} : Val P (part elem xs (i * n)) a → Val P (part elem ys (i * n)) b → Val P (Op.equalIn d elem a b) r → EqA P d elem n xs ys rest r' → EqA P d elem n xs ys (i :: rest) (r && r')
theorem val_forA {elem : TypeId} {n : Nat} {is : List Nat} {r : Bool} (h : EqA P d elem n xs ys is r) :
  Val P (forIn is ((none : Option Bool), ()) fun i (_ : Option Bool × Unit) => do
      let a ← part elem xs (i * n)
      let b ← part elem ys (i * n)
      let q ← Op.equalIn d elem a b
      if (!q) = true then pure (ForInStep.done (some false, ())) else pure (ForInStep.yield (none, ()))) (outB r) := by
 induction h with
 | nil => rw [List.forIn_nil]; exact Val.pure _
 | @cons i rest a b r r' ha hb hq _ ih =>
  rw [List.forIn_cons]
  simp only [bind_assoc]
  refine Val.bind ha (Val.bind hb (Val.bind hq ?_))
  cases r with
  | false => simp only [Bool.not_false, if_true, pure_bind, Bool.false_and]; exact Val.pure _
  | true =>
   simp only [Bool.not_true, Bool.false_eq_true, if_false, pure_bind, Bool.true_and]
   exact ih
theorem val_eqArr {n len : Nat} {t elem : TypeId} {r : Bool} (hu : P.underlying t = some (.array len elem)) (hs : Val P (sizeOf elem) n) (h : EqA P d elem n xs ys (List.range len) r) : Val P (Op.equalIn (d+1) t (.agg xs) (.agg ys)) r := by
 rw [Op.equalIn]
 refine Val.bind (Val.underlying hu) ?_
 dsimp only
 refine Val.bind hs ?_
 rw [Std.Legacy.Range.forIn_eq_forIn_range']
 simp only [Std.Legacy.Range.size, Nat.sub_zero, Nat.add_sub_cancel, Nat.div_one]
 rw [← List.range_eq_range']
 refine Val.bind (val_forA h) ?_
 cases r <;> exact Val.pure _
end
end Go.Lg
namespace Go.Lg
open Go.Conc
def strL (s : ByteArray) : List Int := s.data.toList.map fun b => (b.toNat : Int)
def strAt (s : ByteArray) (i : Int) : Option Int := idx (strL s) i
section
variable {P : Program} {B : Base} {main : Bool} {𝒥 : Jd P B main} {c : Ctx} {R : RMap} {H H' : HList} {st st' : St} {o : Oper} {C : RMap → HList → St → Prop} {k : List Item}
theorem Ox.indexStr {x y : Operand} {t : TypeId} {s : ByteArray} {kd : IntKind} {i z : Int} (hop : o.op = .index t x y) (hx : evalS st x = some (.string s)) (hy : evalS st y = some (.int kd i)) (ht : P.underlying t = some .string) (hz : strAt s i = some z)
  (hd : dstLt o.dst c.n) (hs : SubL (putS o.dst (.int .u8 z) st) st') (h : C R H st') : SemTo P B c o R H st C :=
 Ox.val' (s := fun ρ => Instr.index t (ρ x) (ρ y)) (by rw [hop]; rfl) hd (fun ρ => by simp only [execOp, hop]) (fun ρ hρ => by
  rw [hρ x _ hx, hρ y _ hy]
  obtain ⟨h1, h2, h3⟩ := idx_some hz
  unfold strL at h3
  rw [List.getElem?_map] at h3
  obtain ⟨b, hb, rfl⟩ := Option.map_eq_some_iff.1 h3
  unfold Instr.index
  refine Val.bind (a := (kd, i)) (Val.pure _) (Val.bind (Val.underlying ht) ?_)
  have e : (if 0 ≤ i then s[i.toNat]? else none) = some b := by
   rw [if_pos h1]
   have hb' : s.data[i.toNat]? = some b := by simpa using hb
   rw [← hb']
   rfl
  simp only [e]
  exact Val.pure _) hs h
def ArrZ (P : Program) (t : TypeId) (z : Array Value) : Prop := ZeroTy P t z ∧ ∃ n e m, P.underlying t = some (.array n e) ∧ Val P (sizeOf e) m
theorem Ox.buildZ {t : TypeId} {z : Array Value} (hop : o.op = .build t #[]) (ht : ArrZ P t z)
  (hd : dstLt o.dst c.n) (hs : SubL (putS o.dst (.agg z) st) st') (h : C R H st') : SemTo P B c o R H st C :=
 Ox.val' (s := fun _ => Instr.build t #[]) (by rw [hop]; rfl) hd (fun ρ => by simp [execOp, hop]) (fun ρ hρ => by
  obtain ⟨⟨z0, hz, rfl⟩, n, e, m, h1, h2⟩ := ht
  unfold Instr.build
  exact Val.bind hz (Val.bind (Val.underlying h1) (Val.bind h2 (Val.pure _)))) hs h
def CutTo (P : Program) (t k : Nat) (v : Value) (len l h : Int) (v' : Value) : Prop :=
 ∀ (ρ : Operand → Value) (st : St) (x : Operand) (lo hi : Option Operand), Knows st ρ → ρ x = v → loS st lo = some l → hiS st len.toNat hi = some h → Val P (Instr.sliceAt t (ρ x) (lo.map ρ) (hi.map ρ) none) v'
theorem RdS.cut {α : Type} {K : CRel α} {k t e : Nat} {xs ys : List α} {v : Value} {l h : Int} {H0 : HList} (hS : RdS K k R H0 v xs) (ht : SliceTy P t e k) (hc : cutM xs l h = some ys) : ∃ v', RdS K k R H0 v' ys ∧ CutTo P t k v (xs.length : Int) l h v' := by
 obtain ⟨h1, h2, h3, rfl⟩ := cutM_some hc
 obtain ⟨A, cap, es, rfl, hE, hcap, hm⟩ := hS
 refine ⟨(.slice (if cap = l.toNat then A else A.map (·.add (l.toNat * k))) (h.toNat - l.toNat) (cap - l.toNat)), ?_, ?_⟩
 ·have hln : ((xs.take h.toNat).drop l.toNat).length = h.toNat - l.toNat := by
   simp only [List.length_drop, List.length_take]
   omega
  refine ⟨(if cap = l.toNat then A else A.map (·.add (l.toNat * k))), cap - l.toNat, (es.take (h.toNat * k)).drop (l.toNat * k), by rw [hln], hE.take.drop, by rw [hln]; omega, fun hne => ?_⟩
  have hlt : l.toNat < h.toNat := by
   apply Classical.byContradiction
   intro hn
   apply hne
   apply List.eq_nil_of_length_eq_zero
   simp only [List.length_drop, List.length_take]
   omega
  obtain ⟨b, o', rfl, g2⟩ := hm (by rintro rfl; simp at h3; omega)
  refine ⟨b, o' + l.toNat * k, ?_, fun j w hj => ?_⟩
  ·rw [if_neg (by omega)]; simp [add_none]
  ·rw [List.getElem?_drop, List.getElem?_take] at hj
   split at hj
   ·have := g2 _ _ hj
    simpa [Nat.add_assoc] using this
   ·cases hj
 ·intro ρ st x lo hi hρ hx hl hh
  rw [Int.toNat_natCast] at hh
  rw [hx]
  unfold Instr.sliceAt
  refine Val.bind (Val.underlying ht.1) ?_
  unfold Instr.slice
  refine Val.bind (Val.underlying ht.1) (Val.bind (val_bounds hρ hl hh ⟨h1, h2, h3⟩ hcap) (Val.bind ht.2 (Val.pure _)))
theorem SlR.cut {α : Type} {K : CRel α} {k t e : Nat} {xs ys : List α} {v : Value} {l h : Int} (hS : SlR K k R v xs) (ht : SliceTy P t e k) (hc : cutM xs l h = some ys) : ∃ v', SlR K k R v' ys ∧ CutTo P t k v (xs.length : Int) l h v' := by
 obtain ⟨h1, h2, h3, rfl⟩ := cutM_some hc
 obtain ⟨A, cap, es, rfl, hE, hcap, hm⟩ := hS
 refine ⟨(.slice (if cap = l.toNat then A else A.map (·.add (l.toNat * k))) (h.toNat - l.toNat) (cap - l.toNat)), ?_, ?_⟩
 ·have hln : ((xs.take h.toNat).drop l.toNat).length = h.toNat - l.toNat := by
   simp only [List.length_drop, List.length_take]
   omega
  refine ⟨(if cap = l.toNat then A else A.map (·.add (l.toNat * k))), cap - l.toNat, (es.take (h.toNat * k)).drop (l.toNat * k), by rw [hln], hE.take.drop, by rw [hln]; omega, fun hne => ?_⟩
  have hlt : l.toNat < h.toNat := by
   apply Classical.byContradiction
   intro hn
   apply hne
   apply List.eq_nil_of_length_eq_zero
   simp only [List.length_drop, List.length_take]
   omega
  obtain ⟨b, o', arr, e', fz, rfl, g2, g3⟩ := hm (by rintro rfl; simp at h3; omega)
  refine ⟨b, o' + l.toNat * k, arr, e', fz, ?_, g2, fun j w hj => ?_⟩
  ·rw [if_neg (by omega)]; simp [add_none]
  ·rw [List.getElem?_drop, List.getElem?_take] at hj
   split at hj
   ·have := g3 _ _ hj
    simpa [Nat.add_assoc] using this
   ·cases hj
 ·intro ρ st x lo hi hρ hx hl hh
  rw [Int.toNat_natCast] at hh
  rw [hx]
  unfold Instr.sliceAt
  refine Val.bind (Val.underlying ht.1) ?_
  unfold Instr.slice
  refine Val.bind (Val.underlying ht.1) (Val.bind (val_bounds hρ hl hh ⟨h1, h2, h3⟩ hcap) (Val.bind ht.2 (Val.pure _)))
theorem Ox.cutV {x : Operand} {t k : Nat} {lo hi : Option Operand} {v v' : Value} {len l h : Int} (hop : o.op = .slice t x lo hi none) (hx : evalS st x = some v) (hl : loS st lo = some l) (hh : hiS st len.toNat hi = some h) (hc : CutTo P t k v len l h v') (hd : dstLt o.dst c.n)
  (hs : SubL (putS o.dst v' st) st') (hC : C R H st') : SemTo P B c o R H st C :=
 Ox.val' (s := fun ρ => Instr.sliceAt t (ρ x) (lo.map ρ) (hi.map ρ) none) (by rw [hop]; rfl) hd (fun ρ => by simp only [execOp, hop]; rfl) (fun ρ hρ => hc ρ st x lo hi hρ (hρ x _ hx) hl hh) hs hC
theorem OwnSl.elemW {α : Type} {K : CRel α} {k t e : Nat} {v : Value} {xs : List α} {Hs : HList} {i : Int} {x : α} (h : OwnSl K k e R v xs Hs) (ht : SliceTy P t e k) (hi : idx xs i = some x) :
  ∃ b cs es, K R x es ∧ Hs = [(b, .cells cs e (0, 0))] ∧ CellsAt R Hs b (i.toNat * k) es ∧ (∀ (j : Nat) (w : Value), es[j]? = some w → cs[i.toNat * k + j]? = some w) ∧ IdxTo P t v i b (i.toNat * k) ∧ es.length = k ∧ i.toNat * k + k ≤ cs.size ∧
   ∀ x' es', K R x' es' → es'.length = k → OwnSl K k e R v (xs.set i.toNat x') [(b, .cells (putCells cs (i.toNat * k) es') e (0, 0))] := by
 obtain ⟨h1, h2, h3⟩ := idx_some hi
 rcases h with ⟨A, rfl, rfl, rfl⟩ | ⟨b, cap, cs, es, rfl, rfl, g3, g4, g5, g6⟩
 ·simp at h3
 obtain ⟨e1, f1, f2, f3⟩ := g5.at_ _ _ h3
 have hlt : i.toNat < xs.length := (List.getElem?_eq_some_iff.1 h3).1
 have hsz : i.toNat * k + k ≤ xs.length * k := by
  calc i.toNat * k + k = (i.toNat + 1) * k := by rw [Nat.add_mul, Nat.one_mul]
   _ ≤ xs.length * k := Nat.mul_le_mul_right k hlt
 have hcs : xs.length * k ≤ cs.size := by rw [g3]; exact Nat.mul_le_mul_right k g4
 refine ⟨b, cs, e1, f1, rfl, fun j w hj => ⟨rfl, cs, e, (0, 0), .inr (by simp), g6 _ _ (f3 j w hj)⟩, fun j w hj => g6 _ _ (f3 j w hj), fun kd => ?_, f2, by omega, fun x' es' hx' hl' => ?_⟩
 ·have := val_index_slice (P := P) (b := b) (m := 0) (cap := cap) (kd := kd) ht (j := i.toNat) (len := xs.length) hlt
  rw [Int.toNat_of_nonneg h1] at this
  simpa using this
 ·refine .inr ⟨b, cap, _, (es.take (i.toNat * k)) ++ (es' ++ es.drop (i.toNat * k + k)), by rw [List.length_set], rfl, by rw [putCells_size]; exact g3, by rw [List.length_set]; exact g4, ?_, ?_⟩
  ·have hel := g5.len
   refine ⟨?_, fun j y hy => ?_⟩
   ·simp only [List.length_append, List.length_take, List.length_drop, List.length_set, hl', hel]
    omega
   ·rw [List.getElem?_set] at hy
    split at hy
    ·rename_i hji
     subst hji
     cases hy
     refine ⟨es', hx', hl', fun a w hw => ?_⟩
     have ha := (List.getElem?_eq_some_iff.1 hw).1
     rw [List.getElem?_append_right (by simp only [List.length_take]; omega)]
     simp only [List.length_take, hel]
     rw [show i.toNat * k + a - min (i.toNat * k) (xs.length * k) = a by omega, List.getElem?_append_left ha]
     exact hw
    ·rename_i hji
     obtain ⟨e2, q1, q2, q3⟩ := g5.at_ _ _ hy
     refine ⟨e2, q1, q2, fun a w hw => ?_⟩
     have ha := (List.getElem?_eq_some_iff.1 hw).1
     rw [q2] at ha
     have hold := q3 a w hw
     rcases Nat.lt_or_ge j i.toNat with hlt' | hge
     ·have : j * k + k ≤ i.toNat * k := by
       calc j * k + k = (j + 1) * k := by rw [Nat.add_mul, Nat.one_mul]
        _ ≤ i.toNat * k := Nat.mul_le_mul_right k hlt'
      rw [List.getElem?_append_left (by simp only [List.length_take, hel]; omega), List.getElem?_take, if_pos (by omega)]
      exact hold
     ·have : i.toNat * k + k ≤ j * k := by
       calc i.toNat * k + k = (i.toNat + 1) * k := by rw [Nat.add_mul, Nat.one_mul]
        _ ≤ j * k := Nat.mul_le_mul_right k (by omega)
      rw [List.getElem?_append_right (by simp only [List.length_take]; omega), List.getElem?_append_right (by simp only [List.length_take, hel, hl']; omega), List.getElem?_drop]
      simp only [List.length_take, hel, hl']
      rw [show i.toNat * k + k + (j * k + a - min (i.toNat * k) (xs.length * k) - k) = j * k + a by omega]
      exact hold
  ·intro j w hj
   have hel := g5.len
   rw [putCells_get es' cs (i.toNat * k) j (by rw [hl']; omega)]
   rw [List.getElem?_append] at hj
   simp only [List.length_take, hel] at hj
   split at hj
   ·rename_i hlt'
    rw [List.getElem?_take] at hj
    split at hj
    ·rw [if_neg (by omega)]
     exact g6 _ _ hj
    ·cases hj
   ·rw [List.getElem?_append] at hj
    split at hj
    ·rename_i h5 h6
     rw [if_pos (by omega), ← hj]
     congr 1
     omega
    ·rename_i h5 h6
     rw [hl'] at h6
     rw [if_neg (by rw [hl']; omega)]
     rw [List.getElem?_drop, hl'] at hj
     have := g6 _ _ hj
     rwa [show i.toNat * k + k + (j - min (i.toNat * k) (xs.length * k) - k) = j by omega] at this
theorem putCells_app : ∀ (vs ws : List Value) (cs : Array Value) (o : Nat), putCells cs o (vs ++ ws) = putCells (putCells cs o vs) (o + vs.length) ws
 | [], ws, cs, o => by simp [putCells]
 | v :: vs, ws, cs, o => by
  simp only [List.cons_append, putCells, List.length_cons]
  rw [putCells_app vs ws]
  congr 1
  omega
theorem putCells_same : ∀ (vs : List Value) (cs : Array Value) (o : Nat), (∀ j w, vs[j]? = some w → cs[o + j]? = some w) → putCells cs o vs = cs
 | [], cs, o, _ => rfl
 | v :: vs, cs, o, h => by
  have h0 : cs[o]? = some v := h 0 v rfl
  have hlt := (Array.getElem?_eq_some_iff.1 h0).1
  have e : cs.setIfInBounds o v = cs := by
   apply Array.ext_getElem?
   intro j
   by_cases hj : o = j
   ·subst hj; rw [Array.getElem?_setIfInBounds_self_of_lt hlt, h0]
   ·rw [Array.getElem?_setIfInBounds_ne hj]
  simp only [putCells, e]
  exact putCells_same vs cs (o + 1) fun j w hj => by
   have := h (j + 1) w (by simpa using hj)
   rwa [show o + (j + 1) = o + 1 + j by omega] at this
theorem Ox.storeE {α : Type} {K : CRel α} {k e t b j n : Nat} {x y : Operand} {G : HList → HList} {v w : Value} {xs : List α} {i : Int} {x' : α} {cs : Array Value} {pre mid post vs : List Value} (hG : Hole G)
  (hop : o.op = .store t x y) (hx : evalS st x = some (.pointer (some ⟨b, i.toNat * k + j, none⟩))) (hy : evalS st y = some w) (hw : w.cells.toList = vs) (ht : Val P (sizeOf t) n) (hn : vs.length = n) (h1 : ∀ u ∈ vs, u.oneCell' = true)
  (hc : ∀ (j : Nat) (w : Value), (pre ++ (mid ++ post))[j]? = some w → cs[i.toNat * k + j]? = some w) (hj : pre.length = j) (hm : mid.length = n) (hk : (pre ++ (mid ++ post)).length = k) (hsz : i.toNat * k + k ≤ cs.size)
  (hO : ∀ x' es', K R x' es' → es'.length = k → OwnSl K k e R v (xs.set i.toNat x') [(b, .cells (putCells cs (i.toNat * k) es') e (0, 0))]) (hK : K R x' (pre ++ (vs ++ post)))
  (hd : o.dst = none) (hsub : SubL st st') (h : ∀ Hs', OwnSl K k e R v (xs.set i.toNat x') Hs' → C R (G Hs') st') : SemTo P B c o R (G [(b, .cells cs e (0, 0))]) st C := by
 have hput : putCells cs (i.toNat * k + j) vs = putCells cs (i.toNat * k) (pre ++ (vs ++ post)) := by
  rw [putCells_app, putCells_same pre cs _ (fun a u ha => hc a u (by rw [List.getElem?_append_left (List.getElem?_eq_some_iff.1 ha).1]; exact ha)), putCells_app, hj, hn]
  rw [putCells_same post]
  intro a u ha
  have h2 := hc (j + n + a) u (by
   rw [List.getElem?_append_right (by omega), List.getElem?_append_right (by omega)]
   rw [show j + n + a - pre.length - mid.length = a by omega]
   exact ha)
  have hlt := (Array.getElem?_eq_some_iff.1 h2).1
  rw [putCells_get vs cs (i.toNat * k + j) _ (by rw [hn]; have := hk; simp only [List.length_append] at this; omega), if_neg (by omega)]
  rwa [show i.toNat * k + (j + n + a) = i.toNat * k + j + n + a by omega] at h2
 have hlen : (pre ++ (vs ++ post)).length = k := by
  simp only [List.length_append] at hk ⊢
  omega
 have hO' := hO x' _ hK hlen
 rw [← hput] at hO'
 refine Ox.memU (s := fun ρ => Instr.storeAt t (ρ x) (ρ y)) (by rw [hop]; rfl) hd (fun ρ => by simp only [execOp, hop]) hsub (fun ρ hρ => ?_)
 rw [hρ x _ hx, hρ y _ hy]
 simp only [Instr.storeAt, Instr.sureAddr]
 refine Val.bindOk (Val.pure _) ?_
 have hsz' : w.cells.size = n := by rw [← hn, ← hw]; simp
 refine SemOk.storeVar (cs := cs) (e := e) ht hsz' (by rw [hw]; exact h1) (by simp only [List.length_append] at hk; omega) ?_ (h _ hO')
 rw [hw]
 exact hG.set
theorem SemOk.freezeHead {b n off : Nat} {cs : Array Value} {e : TypeId} {fz : Nat × Nat} {K : Unit → RMap → HList → Prop} (hk : ∀ fz', K () R ((b, .cells cs e fz') :: H)) : SemOk P B R ((b, .cells cs e fz) :: H) (Go.freeze ⟨b, off, none⟩ n) K := by
 intro w hw
 have hb : w.heap[b]? = some (.cells cs e fz) := hw.h _ _ (by simp)
 have hrun : (Go.freeze ⟨b, off, none⟩ n).run P w = .ok () (w.freeze ⟨b, off, none⟩ n) := rfl
 have hev : (Go.freeze ⟨b, off, none⟩ n).events P w #[] = #[] := rfl
 by_cases hn : n = 0
 ·refine ⟨(), w, R, (b, .cells cs e fz) :: H, by rw [hrun]; simp [World.freeze, hn], by rw [hev]; simp, Upd.refl hw, hk fz⟩
 ·obtain ⟨lo, hi⟩ := fz
  have hw' : w.freeze ⟨b, off, none⟩ n = { w with heap := w.heap.setIfInBounds b (.cells cs e (if lo == hi then (off, off + n) else (min lo off, max hi (off + n)))) } := by
   simp only [World.freeze, hn, if_false]
   congr 1
   apply Array.ext_getElem?
   intro i
   rw [Array.getElem?_modify]
   by_cases hi' : b = i
   ·subst hi'
    rw [Array.getElem?_setIfInBounds_self_of_lt (lt_of_heap hb), hb]
    simp
   ·simp [hi', Array.getElem?_setIfInBounds_ne hi']
  refine ⟨(), _, R, _, hrun, by rw [hev]; simp, ?_, hk (if lo == hi then (off, off + n) else (min lo off, max hi (off + n)))⟩
  rw [hw']
  exact hw.hset .here
theorem Ox.strBytes {x : Operand} {t u e : TypeId} {s : ByteArray} (hop : o.op = .convert t u x) (hx : evalS st x = some (.string s)) (ht : P.underlying t = some .string) (hu : P.underlying u = some (.slice e)) (he : P.underlying e = some (.int .u8))
  (hd : dstLt o.dst c.n) (hC : ∀ v Hs, RdS (CI .u8) 1 R (Hs ++ H) v (strL s) → ∃ st', SubL (putS o.dst v st) st' ∧ C R (Hs ++ H) st') : SemTo P B c o R H st C :=
 Ox.mem (s := fun ρ => convert t u (ρ x)) (by rw [hop]; rfl) hd (fun ρ => by simp only [execOp, hop]) (fun ρ hρ => by
  rw [hρ x _ hx]
  unfold convert
  refine Val.bindOk (Val.underlying ht) (Val.bindOk (Val.underlying hu) ?_)
  dsimp only
  refine Val.bindOk (Val.underlying he) ?_
  dsimp only
  unfold Conv.stringToBytes
  refine SemOk.bind (SemOk.choose fun t' => ?_)
  generalize hcap : (if (Question.appendCap s.size 0 e).forced then 0 else (Question.appendCap s.size 0 e).cut t') = cap
  have hge : s.size ≤ cap := by
   rw [← hcap]
   simp [Question.forced, Question.cut]
  refine SemOk.bind ?_
  simp only [newRow]
  refine SemOk.bind (SemOk.new fun b h1 h2 => SemOk.pure ?_)
  refine SemOk.bind ?_
  unfold markStringish
  have fin : ∀ fz', ∃ st', SubL (putS o.dst (.slice (some ⟨b, 0, none⟩) s.size cap) st) st' ∧ C R ((b, .cells ((s.data.map fun b => Value.int .u8 b.toNat) ++ Array.replicate (cap - s.size) (.int .u8 0)) e fz') :: H) st' := fun fz' => by
   refine hC (.slice (some ⟨b, 0, none⟩) s.size cap) [(b, .cells ((s.data.map fun b => Value.int .u8 b.toNat) ++ Array.replicate (cap - s.size) (.int .u8 0)) e fz')] ⟨some ⟨b, 0, none⟩, cap, (strL s).map (Value.int .u8), by simp [strL], ?_, by simpa [strL] using hge, fun _ => ⟨b, 0, rfl, fun j w hj => ⟨rfl, _, e, fz', .inr (List.mem_cons_self ..), ?_⟩⟩⟩
   ·refine ⟨by simp, fun i y hy => ⟨[.int .u8 y], rfl, rfl, fun j w hj => ?_⟩⟩
    cases j with
    | zero => cases hj; simp [hy]
    | succ j => simp at hj
   ·have hlt := (List.getElem?_eq_some_iff.1 hj).1
    simp only [List.length_map, strL, Array.length_toList] at hlt
    simp only [Nat.zero_add]
    rw [Array.getElem?_append_left (by simpa using hlt)]
    rw [List.getElem?_map] at hj
    obtain ⟨z, hz, rfl⟩ := Option.map_eq_some_iff.1 hj
    unfold strL at hz
    rw [List.getElem?_map] at hz
    obtain ⟨q, hq, rfl⟩ := Option.map_eq_some_iff.1 hz
    rw [Array.getElem?_map]
    rw [Array.getElem?_toList] at hq
    rw [hq]
    rfl
  refine SemOk.bind (SemOk.shape fun y => ?_)
  cases y with
  | none => exact SemOk.pure (SemOk.pure (fin _))
  | some y =>
   obtain ⟨y1, y2⟩ := y
   exact SemOk.freezeHead fun fz' => SemOk.pure (fin fz'))
def copyL {α : Type} (xs ys : List α) : List α := ys.take xs.length ++ xs.drop ys.length
theorem copyL_len {α : Type} {xs ys : List α} {n : Nat} (h : xs.length = n) : (copyL xs ys).length = n := by
 simp only [copyL, List.length_append, List.length_take, List.length_drop]; omega
theorem Ox.sliceArr {x : Operand} {t len e n b off : Nat} (hop : o.op = .slice t x none none none) (hx : evalS st x = some (.pointer (some ⟨b, off, none⟩))) (ht : ArrayTy P t len e n)
  (hd : dstLt o.dst c.n) (hs : SubL (putS o.dst (.slice (some ⟨b, off, none⟩) len len) st) st') (h : C R H st') : SemTo P B c o R H st C :=
 Ox.val' (s := fun ρ => Instr.sliceAt t (ρ x) none none none) (by rw [hop]; rfl) hd (fun ρ => by simp only [execOp, hop]; rfl) (fun ρ hρ => by
  rw [hρ x _ hx]
  unfold Instr.sliceAt
  refine Val.bind (Val.underlying ht.1) ?_
  dsimp only
  unfold Instr.sliceBounds
  refine Val.bind (a := (⟨b, off, none⟩ : Addr)) (Val.pure _) (Val.bind (a := ((0 : Nat), len, len)) (Val.bind (a := len) (Val.pure _) (Val.bind (a := len) (Val.pure _) (Val.bind (a := (0 : Nat)) (Val.pure _) (Val.pure _)))) (Val.bind ht.2 ?_))
  dsimp only
  rw [Nat.zero_mul, add_none]
  simp only [Nat.add_zero, ite_self, Nat.sub_zero]
  exact Val.pure _) hs h
theorem Ox.copyArr {x y : Operand} {t e t2 b off n T : Nat} {dx : TypeDesc} {v : Value} {xs ys : List Int} {pre post : List Value} (hop : o.op = .call ⟨.builtin .copy, #[x, y], #[t, t2]⟩) (hx : evalS st x = some (.slice (some ⟨b, off, none⟩) n n)) (hy : evalS st y = some v) (ht : SliceTy P t e 1) (_ : P.underlying t2 = some dx)
  (hR : RdS (CI .i64) 1 R H v ys) (hl : xs.length = n) (hs : HSet H b (.cells ((pre ++ (xs.map (Value.int .i64) ++ post)).toArray) T (0, 0)) (.cells ((pre ++ ((copyL xs ys).map (Value.int .i64) ++ post)).toArray) T (0, 0)) H') (hpre : pre.length = off)
  (hd : dstLt o.dst c.n) (hsub : SubL (putS o.dst (goInt (Nat.min ys.length n)) st) st') (h : C R H' st') : SemTo P B c o R H st C := by
 refine ⟨by rw [hop]; rfl, hd, fun ρ hρ => ?_⟩
 simp only [execOp, hop]
 refine Val.bindOk (a := ⟨.builtin .copy #[t, t2] o.type (#[x, y].map fun | .const _ => true | _ => false), #[x, y].map ρ⟩) (Val.pure _) ?_
 simp only [invoke, builtin]
 have e1 : (#[x, y].map ρ) = #[.slice (some ⟨b, off, none⟩) n n, v] := by simp [hρ x _ hx, hρ y _ hy]
 rw [e1]
 obtain ⟨A, cap, es, rfl, hE, hcap, hm⟩ := hR
 have hes : es = ys.map (Value.int .i64) := by
  apply List.ext_getElem?
  intro j
  rw [List.getElem?_map]
  rcases Nat.lt_or_ge j ys.length with hj | hj
  ·obtain ⟨q, hq1, hq2, hq3⟩ := hE.at_ j _ (List.getElem?_eq_getElem hj)
   have hq1' : q = [.int .i64 ys[j]] := hq1
   subst hq1'
   have := hq3 0 _ rfl
   rw [Nat.mul_one, Nat.add_zero] at this
   rw [this, List.getElem?_eq_getElem hj]
   rfl
  ·rw [List.getElem?_eq_none (by rw [hE.len]; omega), List.getElem?_eq_none hj]
   rfl
 subst hes
 have hput : putCells ((pre ++ (xs.map (Value.int .i64) ++ post)).toArray) off ((ys.map (Value.int .i64)).take n) = (pre ++ ((copyL xs ys).map (Value.int .i64) ++ post)).toArray := by
  subst hpre
  apply Array.ext_getElem?
  intro j
  rw [putCells_get _ _ _ _ (by simp; omega)]
  simp only [List.length_take, List.length_map, copyL, List.map_append, List.map_take, List.map_drop, List.getElem?_toArray, hl]
  by_cases h1 : pre.length ≤ j ∧ j < pre.length + Min.min n ys.length
  ·rw [if_pos h1, List.getElem?_append_right h1.1, List.getElem?_append_left (by simp; omega), List.getElem?_append_left (by simp; omega)]
  ·rw [if_neg h1]
   rcases Nat.lt_or_ge j pre.length with h2 | h2
   ·rw [List.getElem?_append_left h2, List.getElem?_append_left h2]
   ·rw [List.getElem?_append_right h2, List.getElem?_append_right h2]
    rcases Nat.lt_or_ge (j - pre.length) n with h3 | h3
    ·rw [List.getElem?_append_left (by simp; omega), List.getElem?_append_left (by simp; omega), List.getElem?_append_right (by simp; omega), List.getElem?_drop]
     simp only [List.length_take, List.length_map]
     congr 1
     omega
    ·rw [List.getElem?_append_right (by simp; omega), List.getElem?_append_right (by simp; omega)]
     simp only [List.length_append, List.length_take, List.length_map, List.length_drop]
     congr 1
     omega
 have fin : ∀ K : Unit → RMap → HList → Prop, K () R H' → SemOk P B R H (storeCells ⟨b, off, none⟩ ((ys.map (Value.int .i64)).take n)) K := fun K hK => by
  refine SemOk.given fun hnd => SemOk.storeCells' _ ((pre ++ (xs.map (Value.int .i64) ++ post)).toArray) off 0 H H' (fun u hu => ?_) (by subst hpre; simp; omega) (by rw [Nat.add_zero, hput]; exact hs) hnd hK
  obtain ⟨z, _, rfl⟩ := List.mem_map.1 (List.mem_of_mem_take hu)
  rfl
 refine SemOk.bind ?_
 unfold Builtin.copy_
 refine Val.bindOk (Val.underlying ht.1) ?_
 dsimp only
 refine Val.bindOk (a := ys.length) (Val.pure _) (Val.bindOk ht.2 ?_)
 have last : SemOk P B R H (do storeCells ⟨b, off, none⟩ ((ys.map (Value.int .i64)).take n); pure (goInt (Nat.min ys.length n))) fun a R' H' => SemOk P B R' H' (pure (Next.value a)) fun nx R' H' => ∃ v, (nx = .value v ∨ (nx = .skip ∧ v = undef)) ∧ ∃ st', SubL (putS o.dst v st) st' ∧ C R' H' st' :=
  SemOk.bind (fin _ (SemOk.pure (SemOk.pure ⟨_, .inl rfl, st', hsub, h⟩)))
 have htake : (ys.map (Value.int .i64)).take n = (ys.map (Value.int .i64)).take (Nat.min ys.length n * 1) := by
  rw [Nat.mul_one]
  rcases Nat.le_total ys.length n with h1 | h1
  ·rw [show Nat.min ys.length n = ys.length from Nat.min_eq_left h1, List.take_of_length_le (by simpa using h1), List.take_of_length_le (by simp)]
  ·rw [show Nat.min ys.length n = n from Nat.min_eq_right h1]
 cases A with
 | none =>
  have hy0 : ys = [] := by
   apply Classical.byContradiction
   intro hn
   obtain ⟨b', o', h1, _⟩ := hm hn
   cases h1
  subst hy0
  simp only [Builtin.firstCells]
  refine Val.bindOk (a := #[]) (Val.pure _) ?_
  simpa using last
 | some A =>
  have hcells : CellsAt R H A.block A.off ((ys.map (Value.int .i64)).take n) ∧ (ys ≠ [] → A = ⟨A.block, A.off, none⟩) := by
   by_cases hn : ys = []
   ·subst hn; exact ⟨fun j u hj => by simp at hj, fun h => absurd rfl h⟩
   ·obtain ⟨b', o', h1, h2⟩ := hm hn
    cases h1
    refine ⟨fun j u hj => ?_, fun _ => rfl⟩
    rw [List.getElem?_take] at hj
    split at hj
    ·exact h2 j u hj
    ·cases hj
  simp only [Builtin.firstCells, loadCells]
  by_cases hn : ys = []
  ·subst hn
   simp only [List.length_nil, Nat.zero_mul, show Nat.min 0 n = 0 from Nat.zero_min n]
   refine Val.bindOk (a := #[]) (Val.pure _) ?_
   simpa using last
  ·rw [hcells.2 hn]
   have hln : ((ys.map (Value.int .i64)).take n).length = Nat.min ys.length n * 1 := by rw [htake]; simp [Nat.min_le_left]
   refine SemOk.bind ?_
   rw [← hln]
   refine SemOk.loadCellsFrom _ 0 #[] (by simpa using hcells.1) ?_
   simpa using last
end
end Go.Lg
namespace Go.Lg
open Go.Conc
section
variable {P : Program} {B : Base} {main : Bool} {𝒥 : Jd P B main} {c : Ctx} {R : RMap} {H : HList} {st : St} {k : List Item}
theorem SemOk.getLoop {l : Nat} {r : Loop} {K : Loop → RMap → HList → Prop} (h : (l, Obj.loop r) ∈ H) (hk : K r R H) : SemOk P B R H (Instr.getLoop l) K := by
 unfold Instr.getLoop
 exact SemOk.bind (SemOk.getObj rfl (.inr h) (SemOk.pure hk))
theorem HSet.at_ {b : Nat} {o o' : Obj} {T : HList} : ∀ {Hs : HList}, HSet (Hs ++ (b, o) :: T) b o o' (Hs ++ (b, o') :: T)
 | [] => .here
 | _ :: _ => .there HSet.at_
def YOk (𝒥 : Jd P B main) (v : Value) (args : Array Value) (R : RMap) (H : HList) (Post : Value → RMap → HList → Prop) : Prop :=
 ∃ l r, v = .func (.yield l) #[] #[] ∧ (l, Obj.loop r) ∈ H ∧ r.params.size = args.size ∧
  ∀ fr cs, (∀ w R' H', Post w R' H' → 𝒥.J R' H' (gor (fr.finish w) cs)) →
   𝒥.J R H (gor (Frame.round l r.fn ((r.params.zip args).foldl (fun tmps (t, a) => tmps.setIfInBounds t a) r.tmps) r.assign r.body .normal) (fr :: cs))
theorem YOk.mono {v : Value} {args : Array Value} {Post Post' : Value → RMap → HList → Prop} (h : YOk 𝒥 v args R H Post) (hp : ∀ w R' H', Post w R' H' → Post' w R' H') : YOk 𝒥 v args R H Post' := by
 obtain ⟨l, r, h1, h2, h3, h4⟩ := h
 exact ⟨l, r, h1, h2, h3, fun fr cs hk => h4 fr cs fun w R' H' hw => hk w R' H' (hp _ _ _ hw)⟩
theorem apply_round {fr : Frame} {cs : List Frame} {s : Sem Next} {w w' : World} {l : Nat} {f : FuncId} {tmps : Array Value} {assign body : Code} (hk : fr.kind ≠ .early) (hr : s.run P w = .ok (.round l f tmps assign body) w') :
  stepG.apply P true fr cs none s w = .go (gor (Frame.round l f tmps assign body .normal) (fr :: cs)) w' (seen P fr.fn (s.events P w #[])) := by
 have hk' : (fr.kind == CallKind.early) = false := by simpa using hk
 simp [stepG.apply, hr, gor, hk', GStep.after]
theorem At.stepY {ops : Array Oper} {i : Nat} {rest : List Nat} {o : Oper} {ca : Call} {x : Operand} {v : Value} {vs : List Value} (ho : ops[i]? = some o) (hw : wantedS ops st o = some true) (hk : (c.kind == CallKind.early) = false)
  (hop : o.op = .call ca) (hc : ca.callee = .value x) (hx : evalS st x = some v) (ha : argsS st ca.args.toList = some vs) (hdl : dstLt o.dst c.n)
  (h : YOk 𝒥 v vs.toArray R H fun w R' H' => ∃ st', SubL (putS o.dst w st) st' ∧ At 𝒥 c R' H' st' (.inRegion ops rest :: k)) :
  At 𝒥 c R H st (.inRegion ops (i :: rest) :: k) := by
 intro tmps ht
 obtain ⟨l, r, rfl, hl, hsz, hj⟩ := h
 have hkn := ht.knows c (.inRegion ops (i :: rest) :: k)
 have hd : isDefer o.op = false := by rw [hop]; rfl
 have hs : SemOk P B R H (execOp (frm c tmps (.inRegion ops (i :: rest) :: k)).eval o) fun nx R' H' => nx = .round l r.fn ((r.params.zip vs.toArray).foldl (fun tmps (t, a) => tmps.setIfInBounds t a) r.tmps) r.assign r.body ∧ R' = R ∧ H' = H := by
  simp only [execOp, hop, resolve, hc, hkn x _ hx, Deferred.ofValue]
  have e : ca.args.map (frm c tmps (.inRegion ops (i :: rest) :: k)).eval = vs.toArray := by apply Array.ext'; simpa using argsS_eval hkn _ _ ha
  refine Val.bindOk (a := ⟨.fn (.yield l) #[], #[] ++ vs.toArray⟩) (by rw [e]; exact Val.pure _) ?_
  simp only [invoke, Instr.yield]
  refine SemOk.bind (SemOk.getLoop hl ?_)
  simp only [Array.empty_append, hsz, ne_eq, not_true_eq_false, if_false]
  exact SemOk.pure ⟨rfl, rfl, rfl⟩
 refine 𝒥.step rfl fun w hwf => ?_
 obtain ⟨nx, w', R', H', h1, h2, h3, rfl, rfl, rfl⟩ := hs w hwf
 refine ⟨_, w', seen P c.fn ((execOp (frm c tmps (.inRegion ops (i :: rest) :: k)).eval o).events P w #[]), R', H', ?_, fun e he => h2 e (mem_seen he), h3, hj (frm c tmps (.inRegion ops (i :: rest) :: k)) c.cs fun u R'' H'' hp => ?_⟩
 ·rw [stepG_oper' ho (wanted_of ht hw) hd]
  exact apply_round (by simpa [frm] using hk) h1
 ·obtain ⟨st', hs', hat⟩ := hp
  rw [finish_frm ho]
  exact hat _ ((ht.put u hdl).sub hs')
structure HandS (𝒥 : Jd P B main) (R : RMap) {α S : Type} (A : VRel α) (v : Value) (y : α → S → Option (S × Bool)) (Inv : S → RMap → HList → Prop) : Prop where
 fn : ∃ l, v = .func (.yield l) #[] #[]
 mono : ∀ {s : S} {R1 R2 : RMap} {Hy : HList}, RLe R R1 → RLe R1 R2 → Inv s R1 Hy → Inv s R2 Hy
 call : ∀ (Hf : HList) {R' : RMap} {Hy : HList} {s : S} {x : α} {va : Value} {z : S × Bool}, RLe R R' → Inv s R' Hy → A R' x va → y x s = some z →
  YOk 𝒥 v #[va] R' (Hf ++ Hy) fun w R'' H'' => RLe R' R'' ∧ w = .bool z.2 ∧ ∃ Hy', Inv z.1 R'' Hy' ∧ H'' = Hf ++ Hy'
theorem HandS.up {R' : RMap} {α S : Type} {A : VRel α} {v : Value} {y : α → S → Option (S × Bool)} {Inv : S → RMap → HList → Prop} (h : HandS 𝒥 R A v y Inv) (hR : RLe R R') : HandS 𝒥 R' A v y Inv :=
 ⟨h.fn, fun h1 h2 => h.mono (hR.trans h1) h2, fun Hf => fun h1 => h.call Hf (hR.trans h1)⟩
theorem HandS.cells {α S : Type} {A : VRel α} {v : Value} {y : α → S → Option (S × Bool)} {Inv : S → RMap → HList → Prop} (h : HandS 𝒥 R A v y Inv) : v.cells = #[v] := by
 obtain ⟨l, rfl⟩ := h.fn; rfl
def runY {α S O : Type} (body : α → S → Option (S ⊕ O)) (x : α) : S ⊕ O → Option ((S ⊕ O) × Bool)
 | .inl s => (body x s).map fun z => (z, z.isLeft)
 | .inr _ => none
def Shape (I : RMap → HList → HList → Prop) : Prop := ∀ R T H, I R T H → ∃ Hs, H = Hs ++ T ∧ ∀ R' T', RLe R R' → I R' T' (Hs ++ T')
theorem semOk_endRound {l : Nat} {jump : Option Code} {r : Loop} {Hs T : HList} : SemOk P B R (Hs ++ (l, .loop r) :: T) (Instr.endRound l jump) fun v R' H' => v = .bool jump.isNone ∧ R' = R ∧ H' = Hs ++ (l, .loop { r with state := if jump.isNone then .ready else .done, pending := jump }) :: T := by
 unfold Instr.endRound
 exact SemOk.bind (SemOk.getLoop (by simp) (SemOk.bind (SemOk.setObj rfl rfl HSet.at_ (SemOk.pure ⟨rfl, rfl, rfl⟩))))
theorem semOk_endLoop {l : Nat} {r : Loop} {Hs T : HList} (hb : (r.state == .busy) = false) : SemOk P B R (Hs ++ (l, .loop r) :: T) (Instr.endLoop l) fun v R' H' => v = r.pending ∧ R' = R ∧ H' = Hs ++ (l, .loop { r with state := .exhausted }) :: T := by
 unfold Instr.endLoop
 refine SemOk.bind (SemOk.getLoop (r := r) (by simp) ?_)
 simp only [hb]
 exact SemOk.bind (SemOk.setObj rfl rfl HSet.at_ (SemOk.pure ⟨rfl, rfl, rfl⟩))
theorem semOk_beginRound {l : Nat} {r : Loop} {H' : HList} (hs : HSet H l (.loop r) (.loop { r with state := .busy }) H') (hr : r.state = .ready) : SemOk P B R H (do Instr.beginRound l; pure Next.skip) fun v R'' H'' => v = .skip ∧ R'' = R ∧ H'' = H' := by
 unfold Instr.beginRound
 refine SemOk.bind (SemOk.bind (SemOk.getLoop hs.mem (SemOk.bind (SemOk.setObj rfl rfl hs ?_))))
 simp only [hr]
 exact SemOk.pure (SemOk.pure ⟨rfl, rfl, rfl⟩)
theorem At.beginRound {l : Nat} {r : Loop} {H' : HList} (hro : c.ro = some l) (hk : (c.kind == CallKind.early) = false) (hs : HSet H l (.loop r) (.loop { r with state := .busy }) H') (hr : r.state = .ready) (h : At 𝒥 c R H' st k) : At 𝒥 c R H st (.beginRound :: k) := fun tmps ht => by
 refine 𝒥.step rfl fun w hw => ?_
 obtain ⟨v, w', R', H'', h1, h2, h3, rfl, rfl, rfl⟩ := semOk_beginRound (P := P) hs hr w hw
 refine ⟨gor (frm c tmps k) c.cs, w', seen P c.fn ((do Instr.beginRound l; pure Next.skip : Sem Next).events P w #[]), R', H'', ?_, fun e he => h2 e (mem_seen he), h3, h tmps ht⟩
 have e := apply_skip (P := P) (fr := frm c tmps (.beginRound :: k)) (cs := c.cs) (by simpa [frm] using hk) h1
 simpa [stepG, stepG.exec, gor, frm, hro, Frame.finish] using e
def Leaves (todo : List Item) (jump : Option Code) : Prop :=
 (todo = [] ∧ jump = none) ∨ (∃ k', todo = .code .ret :: k' ∧ jump = some .ret) ∨ (∃ id k', todo = .code (.exit id) :: k' ∧ exitTo id k' = none ∧ jump = some (.exit id))
theorem leave_round {l f : Nat} {n : Nat} {cs : List Frame} {fr : Frame} {tmps : Array Value} {todo : List Item} {jump : Option Code} {r : Loop} {Hs T : HList} (hl : Leaves todo jump)
  (h : 𝒥.J R (Hs ++ (l, .loop { r with state := if jump.isNone then .ready else .done, pending := jump }) :: T) (gor (fr.finish (.bool jump.isNone)) cs)) :
  𝒥.J R (Hs ++ (l, .loop r) :: T) (gor (frm ⟨f, .normal, some l, n, [], fr :: cs⟩ tmps todo) (fr :: cs)) := by
 refine 𝒥.step rfl fun w hw => ?_
 obtain ⟨v, w', R', H', h1, h2, h3, rfl, rfl, rfl⟩ := semOk_endRound (P := P) (jump := jump) w hw
 refine ⟨gor (fr.finish (.bool jump.isNone)) cs, w', seen P f ((Instr.endRound l jump).events P w #[]), R', _, ?_, fun e he => h2 e (mem_seen he), h3, h⟩
 rcases hl with ⟨rfl, rfl⟩ | ⟨k', rfl, rfl⟩ | ⟨id, k', rfl, hk', rfl⟩
 ·simp at h1; simp [stepG, stepG.exec, frm, h1, doReturn, GStep.after, gor]
 ·simp at h1; simp [stepG, stepG.exec, frm, h1, doReturn, GStep.after, gor]
 ·simp at h1; simp [stepG, stepG.exec, frm, h1, hk', doReturn, GStep.after, gor]
def loopObj (fn : FuncId) (tmps : Array Value) (t : Tmp) (assign body : Code) (d : Nat) : Loop := { state := .ready, pending := none, fn, tmps, params := #[t], assign, body, defers := d }
theorem perm_round {p : Nat × Obj} {Hf Hs D : HList} : List.Perm (Hs ++ p :: (Hf ++ D)) (Hf ++ (Hs ++ p :: D)) := by
 have h1 : List.Perm (Hs ++ p :: (Hf ++ D)) (p :: (Hs ++ (Hf ++ D))) := List.perm_middle
 have h2 : List.Perm (Hf ++ (Hs ++ p :: D)) (p :: (Hf ++ (Hs ++ D))) := by
  rw [← List.append_assoc, ← List.append_assoc]
  exact List.perm_middle
 refine h1.trans (List.Perm.trans (List.Perm.cons _ ?_) h2.symm)
 rw [← List.append_assoc, ← List.append_assoc]
 exact List.perm_append_comm.append_right D
section
variable {α S O : Type} {A : VRel α} {body : α → S → Option (S ⊕ O)} {t : Tmp} {assign bodyc : Code}
 (I : S → RMap → HList → HList → Prop) (E : O → RMap → HList → HList → Prop) (jc : O → Code)
def RInv (R : RMap) (l : Nat) (r : Loop) (D : HList) : S ⊕ O → RMap → HList → Prop
 | .inl s, R', Hy => RLe R R' ∧ I s R' ((l, .loop r) :: D) Hy
 | .inr o, R', Hy => RLe R R' ∧ E o R' ((l, .loop { r with state := .done, pending := some (jc o) }) :: D) Hy
def RBody (𝒥 : Jd P B main) (c : Ctx) (R : RMap) (H : HList) (st : St) (A : VRel α) (body : α → S → Option (S ⊕ O)) (t : Tmp) (assign bodyc : Code) : Prop :=
 ∀ (va : Value) (x : α) (s : S) (z : S ⊕ O) (R' : RMap) (T H' : HList) (l : Nat) (ld : Loop) (cs : List Frame), RLe R R' → List.Sublist H T → A R' x va → I s R' ((l, .loop ld) :: T) H' → ld.state = .ready → body x s = some z →
  (∀ s' R'' H'' st'', z = .inl s' → RLe R' R'' → I s' R'' ((l, .loop { ld with state := .busy }) :: T) H'' → At 𝒥 ⟨c.fn, .normal, some l, c.n, [], cs⟩ R'' H'' st'' []) →
  (∀ o R'' H'' st'' k'', z = .inr o → RLe R' R'' → E o R'' ((l, .loop { ld with state := .busy }) :: T) H'' → Leaves (.code (jc o) :: k'') (some (jc o)) → At 𝒥 ⟨c.fn, .normal, some l, c.n, [], cs⟩ R'' H'' st'' (.code (jc o) :: k'')) →
  At 𝒥 ⟨c.fn, .normal, some l, c.n, [], cs⟩ R' H' ((t, va) :: st) [.code assign, .beginRound, .code bodyc]
variable {I E jc}
theorem handS_round {D : HList} {l : Nat} {d : Nat} {tmps : Array Value} (hIs : ∀ s, Shape (I s)) (hEs : ∀ o, Shape (E o)) (ht : Rep c.n st tmps) (hd : Nat.blt t c.n = true) (hH : List.Sublist H D)
  (hb : RBody I E jc 𝒥 c R H st A body t assign bodyc) :
  HandS 𝒥 R A (.func (.yield l) #[] #[]) (runY body) (RInv I E jc R l (loopObj c.fn tmps t assign bodyc d) D) where
 fn := ⟨l, rfl⟩
 mono := by
  intro s R1 R2 Hy h1 h2 hI
  cases s with
  | inl s =>
   obtain ⟨hr, hI⟩ := hI
   obtain ⟨Hs, rfl, h⟩ := hIs s _ _ _ hI
   exact ⟨hr.trans h2, h _ _ h2⟩
  | inr o =>
   obtain ⟨hr, hI⟩ := hI
   obtain ⟨Hs, rfl, h⟩ := hEs o _ _ _ hI
   exact ⟨hr.trans h2, h _ _ h2⟩
 call := by
  intro Hf R' Hy s x va z hR hI hA hy
  cases s with
  | inr o => cases hy
  | inl s =>
   simp only [runY, Option.map_eq_some_iff] at hy
   obtain ⟨z', hz, rfl⟩ := hy
   obtain ⟨hr, hI⟩ := hI
   obtain ⟨Hs, rfl, hsh⟩ := hIs s _ _ _ hI
   refine ⟨l, loopObj c.fn tmps t assign bodyc d, rfl, by simp, rfl, fun fr cs hk => ?_⟩
   refine J.perm (H' := Hs ++ (l, .loop (loopObj c.fn tmps t assign bodyc d)) :: (Hf ++ D)) perm_round ?_
   have hrep : Rep c.n ((t, va) :: st) (((loopObj c.fn tmps t assign bodyc d).params.zip #[va]).foldl (fun tmps (t, a) => tmps.setIfInBounds t a) (loopObj c.fn tmps t assign bodyc d).tmps) := by
    have := ht.put (dst := some t) va hd
    simpa [loopObj, putS, putT] using this
   refine hb va x s z' R' (Hf ++ D) _ l (loopObj c.fn tmps t assign bodyc d) (fr :: cs) hR (hH.trans (List.sublist_append_right _ _)) hA (hsh R' _ (RLe.refl _)) rfl hz (fun s' R'' H'' st'' hz' hR'' hI'' => ?_) (fun o R'' H'' st'' k'' hz' hR'' hE'' hl => ?_) _ hrep
   ·subst hz'
    obtain ⟨Hs', rfl, hsh'⟩ := hIs s' _ _ _ hI''
    intro tmps' _
    refine leave_round (jump := none) (.inl ⟨rfl, rfl⟩) ?_
    refine J.perm perm_round.symm ?_
    exact hk _ _ _ ⟨hR'', rfl, _, ⟨hR.trans hR'', hsh' R'' _ (RLe.refl _)⟩, rfl⟩
   ·subst hz'
    obtain ⟨Hs', rfl, hsh'⟩ := hEs o _ _ _ hE''
    intro tmps' _
    refine leave_round (jump := some (jc o)) hl ?_
    refine J.perm perm_round.symm ?_
    exact hk _ _ _ ⟨hR'', rfl, _, ⟨hR.trans hR'', hsh' R'' _ (RLe.refl _)⟩, rfl⟩
theorem semOk_enterTop {fn : FuncId} {tmps : Array Value} {ps : Array Tmp} {assign bodyc : Code} : SemOk P B R H (Instr.enterLoop fn tmps ps assign bodyc none) fun q R' H' => R' = R ∧ ∃ r, q.2 = [⟨.collected r, #[]⟩] ∧ H' = (q.1, .loop ⟨.ready, none, fn, tmps, ps, assign, bodyc, r⟩) :: (r, .deferred (some [])) :: H := by
 unfold Instr.enterLoop
 refine SemOk.bind (SemOk.new fun r _ _ => SemOk.bind (SemOk.pure ?_))
 refine SemOk.bind (SemOk.new fun l _ _ => SemOk.pure ?_)
 exact ⟨rfl, r, rfl, rfl⟩
theorem semOk_enterIn {fn : FuncId} {tmps : Array Value} {ps : Array Tmp} {assign bodyc : Code} {l0 : Nat} {r0 : Loop} (h0 : (l0, Obj.loop r0) ∈ H) : SemOk P B R H (Instr.enterLoop fn tmps ps assign bodyc (some l0)) fun q R' H' => R' = R ∧ q.2 = [] ∧ H' = (q.1, .loop ⟨.ready, none, fn, tmps, ps, assign, bodyc, r0.defers⟩) :: H := by
 unfold Instr.enterLoop
 refine SemOk.bind (SemOk.getLoop h0 (SemOk.bind (SemOk.pure ?_)))
 refine SemOk.bind (SemOk.new fun l _ _ => SemOk.pure ?_)
 exact ⟨rfl, rfl, rfl⟩
theorem At.enterRange {x : Operand} {fid : FuncId} {first cap : Array Value} (hx : evalS st x = some (.func (.func fid) first cap)) (he : Enters P fid) (hk : (c.kind == CallKind.early) = false) {K : Nat × List Deferred → RMap → HList → Prop}
  (hent : ∀ tmps, SemOk P B R H (Instr.enterLoop c.fn tmps #[t] assign bodyc c.ro) fun q R' H' => R' = R ∧ ∃ d Hm, H' = (q.1, .loop (loopObj c.fn tmps t assign bodyc d)) :: Hm ∧ K q R Hm)
  (h : ∀ l mark d Hm tmps, Rep c.n st tmps → K (l, mark) R Hm → 𝒥.J R ((l, .loop (loopObj c.fn tmps t assign bodyc d)) :: Hm) (gor (Frame.enter P fid (first ++ #[.func (.yield l) #[] #[]] ++ cap) .normal) (frm ⟨c.fn, c.kind, c.ro, c.n, mark ++ c.defers, c.cs⟩ tmps (.inRangeFunc l :: k) :: c.cs))) :
  At 𝒥 c R H st (.code (.rangeFunc x #[t] assign bodyc) :: k) := by
 intro tmps ht
 refine 𝒥.step rfl fun w hw => ?_
 obtain ⟨⟨l, mark⟩, w', R', H', h1, h2, h3, rfl, d, Hm, rfl, hK⟩ := hent tmps w hw
 have hkn := ht.knows ⟨c.fn, c.kind, c.ro, c.n, mark ++ c.defers, c.cs⟩ (.inRangeFunc l :: k)
 have hv : Val P (do let d ← resolve (frm ⟨c.fn, c.kind, c.ro, c.n, mark ++ c.defers, c.cs⟩ tmps (.inRangeFunc l :: k)).eval { callee := .value x, args := #[.const (.func (.yield l) #[] #[])], argTypes := #[] } 0; invoke d.target d.args) (.enter fid (first ++ #[.func (.yield l) #[] #[]] ++ cap)) := by
  obtain ⟨fn, e1, e2, e3⟩ := he.ex
  simp only [resolve, hkn x _ hx, Deferred.ofValue]
  refine Val.bind (a := ⟨.fn (.func fid) cap, first ++ #[.func (.yield l) #[] #[]]⟩) (by simpa [Frame.eval] using Val.pure _) ?_
  simp only [invoke]
  exact val_callFunc e1 e2 e3
 have hj := h l mark d Hm tmps ht hK
 refine ⟨_, w', seen P c.fn ((Instr.enterLoop c.fn tmps #[t] assign bodyc c.ro).events P w #[]), R', _, ?_, fun e hee => h2 e (mem_seen hee), h3, hj⟩
 have hv' := hv w'
 simp only [frm] at hv'
 have hk' : (c.kind == CallKind.early) = false := hk
 simp [stepG, stepG.exec, stepG.apply, gor, frm, h1, hv'.1, hv'.2, GStep.after, hk', seen]
theorem At.endRange {l : Nat} {r : Loop} {Hs T : HList} {pend : Option Code} (hb : (r.state == .busy) = false) (hp : r.pending = pend) (h : At 𝒥 c R (Hs ++ T) st ((pend.map Item.code).toList ++ k)) : At 𝒥 c R (Hs ++ (l, .loop r) :: T) st (.endRangeFunc l :: k) := fun tmps ht => by
 subst hp
 refine 𝒥.step rfl fun w hw => ?_
 obtain ⟨v, w', R', H', h1, h2, h3, rfl, rfl, rfl⟩ := semOk_endLoop (P := P) hb w hw
 refine ⟨gor (frm c tmps ((r.pending.map Item.code).toList ++ k)) c.cs, w', seen P c.fn ((Instr.endLoop l).events P w #[]), R', _, ?_, fun e he => h2 e (mem_seen he), h3, J.drop ?_ (h tmps ht)⟩
 ·simp [stepG, stepG.exec, gor, frm, h1, GStep.after]
 ·exact (List.sublist_cons_self _ _).append_left _
theorem finish_range {tmps : Array Value} {l : Nat} {w : Value} : (frm c tmps (.inRangeFunc l :: k)).finish w = frm c tmps (.endRangeFunc l :: k) := rfl
theorem At.rangeF {ρ : Type} {mseq : (α → (S ⊕ O) → Option ((S ⊕ O) × Bool)) → (S ⊕ O) → Option (S ⊕ O)} {cont : S ⊕ O → Option ρ} {s0 : S} {rr : ρ} {x : Operand} {fid : FuncId} {first cap : Array Value} {H1 : HList}
  (hM : (mseq (runY body) (.inl s0)).bind cont = some rr) (hx : evalS st x = some (.func (.func fid) first cap)) (he : Enters P fid) (hk : (c.kind == CallKind.early) = false) (hro : c.ro = none) (hd : Nat.blt t c.n = true)
  (I : S → RMap → HList → HList → Prop) (E : O → RMap → HList → HList → Prop) (jc : O → Code) (hIs : ∀ s, Shape (I s)) (hEs : ∀ o, Shape (E o))
  (hseq : ∀ v Inv Hy z, HandS 𝒥 R A v (runY body) Inv → Inv (.inl s0) R Hy → mseq (runY body) (.inl s0) = some z → FnOk 𝒥 fid (first ++ #[v] ++ cap) R Hy fun _ R' H' => RLe R R' ∧ Inv z R' H')
  (h0 : I s0 R H H1)
  (ha : ∀ r s R' H', RLe R R' → I s R' ((r, .deferred (some [])) :: H) H' → cont (.inl s) = some rr → At 𝒥 ⟨c.fn, c.kind, none, c.n, ⟨.collected r, #[]⟩ :: c.defers, c.cs⟩ R' H' st k)
  (hz : ∀ r o R' H', RLe R R' → E o R' ((r, .deferred (some [])) :: H) H' → cont (.inr o) = some rr → At 𝒥 ⟨c.fn, c.kind, none, c.n, ⟨.collected r, #[]⟩ :: c.defers, c.cs⟩ R' H' st (.code (jc o) :: k))
  (hb : RBody I E jc 𝒥 c R H st A body t assign bodyc) :
  At 𝒥 c R H1 st (.code (.rangeFunc x #[t] assign bodyc) :: k) := by
 obtain ⟨z, hm, hc⟩ := bnd hM
 refine At.enterRange hx he hk (K := fun q R' Hm => ∃ r, q.2 = [⟨.collected r, #[]⟩] ∧ Hm = (r, .deferred (some [])) :: H1) (fun tmps => ?_) ?_
 ·rw [hro]
  exact semOk_enterTop.mono fun q R' H' ⟨h1, r, h2, h3⟩ => ⟨h1, r, _, h3, r, h2, rfl⟩
 rintro l mark d Hm tmps ht ⟨r, hmk, rfl⟩
 have hmk : mark = [⟨.collected r, #[]⟩] := hmk
 subst hmk
 obtain ⟨Hs, rfl, hsh⟩ := hIs s0 _ _ _ h0
 have hhand : HandS 𝒥 R A (.func (.yield l) #[] #[]) (runY body) (RInv I E jc R l (loopObj c.fn tmps t assign bodyc d) ((r, .deferred (some [])) :: H)) := handS_round hIs hEs ht hd (List.sublist_cons_self _ _) hb
 refine J.perm (H' := Hs ++ (l, .loop (loopObj c.fn tmps t assign bodyc d)) :: (r, .deferred (some [])) :: H) ?_ ?_
 ·exact List.perm_middle.trans (List.Perm.cons _ List.perm_middle)
 refine hseq _ _ _ z hhand ⟨RLe.refl R, hsh R _ (RLe.refl R)⟩ hm _ _ fun v R' H' hv => ?_
 rw [finish_range]
 obtain ⟨hR, hI⟩ := hv
 cases z with
 | inl s =>
  obtain ⟨_, hI⟩ := hI
  obtain ⟨Hs', rfl, hsh'⟩ := hIs s _ _ _ hI
  rw [hro]
  exact At.endRange (c := ⟨c.fn, c.kind, none, c.n, ⟨.collected r, #[]⟩ :: c.defers, c.cs⟩) rfl rfl (ha r s R' _ hR (hsh' R' _ (RLe.refl R')) hc) tmps ht
 | inr o =>
  obtain ⟨_, hI⟩ := hI
  obtain ⟨Hs', rfl, hsh'⟩ := hEs o _ _ _ hI
  rw [hro]
  exact At.endRange (c := ⟨c.fn, c.kind, none, c.n, ⟨.collected r, #[]⟩ :: c.defers, c.cs⟩) rfl rfl (hz r o R' _ hR (hsh' R' _ (RLe.refl R')) hc) tmps ht
theorem At.rangeIn {ρ : Type} {mseq : (α → (S ⊕ O) → Option ((S ⊕ O) × Bool)) → (S ⊕ O) → Option (S ⊕ O)} {cont : S ⊕ O → Option ρ} {s0 : S} {rr : ρ} {x : Operand} {fid : FuncId} {first cap : Array Value} {H1 : HList} {l0 : Nat} {r0 : Loop}
  (hM : (mseq (runY body) (.inl s0)).bind cont = some rr) (hx : evalS st x = some (.func (.func fid) first cap)) (he : Enters P fid) (hk : (c.kind == CallKind.early) = false) (hro : c.ro = some l0) (hl0 : (l0, Obj.loop r0) ∈ H1) (hd : Nat.blt t c.n = true)
  (I : S → RMap → HList → HList → Prop) (E : O → RMap → HList → HList → Prop) (jc : O → Code) (hIs : ∀ s, Shape (I s)) (hEs : ∀ o, Shape (E o))
  (hseq : ∀ v Inv Hy z, HandS 𝒥 R A v (runY body) Inv → Inv (.inl s0) R Hy → mseq (runY body) (.inl s0) = some z → FnOk 𝒥 fid (first ++ #[v] ++ cap) R Hy fun _ R' H' => RLe R R' ∧ Inv z R' H')
  (h0 : I s0 R H H1)
  (ha : ∀ s R' H', RLe R R' → I s R' H H' → cont (.inl s) = some rr → At 𝒥 c R' H' st k)
  (hz : ∀ o R' H', RLe R R' → E o R' H H' → cont (.inr o) = some rr → At 𝒥 c R' H' st (.code (jc o) :: k))
  (hb : RBody I E jc 𝒥 c R H st A body t assign bodyc) :
  At 𝒥 c R H1 st (.code (.rangeFunc x #[t] assign bodyc) :: k) := by
 obtain ⟨z, hm, hc⟩ := bnd hM
 refine At.enterRange hx he hk (K := fun q R' Hm => q.2 = [] ∧ Hm = H1) (fun tmps => ?_) ?_
 ·rw [hro]
  exact (semOk_enterIn hl0).mono fun q R' H' ⟨h1, h2, h3⟩ => ⟨h1, _, _, h3, h2, rfl⟩
 rintro l mark d Hm tmps ht ⟨hmk, rfl⟩
 have hmk : mark = [] := hmk
 subst hmk
 obtain ⟨Hs, rfl, hsh⟩ := hIs s0 _ _ _ h0
 have hhand : HandS 𝒥 R A (.func (.yield l) #[] #[]) (runY body) (RInv I E jc R l (loopObj c.fn tmps t assign bodyc d) H) := handS_round hIs hEs ht hd (List.Sublist.refl _) hb
 refine J.perm (H' := Hs ++ (l, .loop (loopObj c.fn tmps t assign bodyc d)) :: H) List.perm_middle ?_
 refine hseq _ _ _ z hhand ⟨RLe.refl R, hsh R _ (RLe.refl R)⟩ hm _ _ fun v R' H' hv => ?_
 rw [finish_range]
 obtain ⟨hR, hI⟩ := hv
 cases z with
 | inl s =>
  obtain ⟨_, hI⟩ := hI
  obtain ⟨Hs', rfl, hsh'⟩ := hIs s _ _ _ hI
  exact At.endRange (c := c) rfl rfl (ha s R' _ hR (hsh' R' _ (RLe.refl R')) hc) tmps ht
 | inr o =>
  obtain ⟨_, hI⟩ := hI
  obtain ⟨Hs', rfl, hsh'⟩ := hEs o _ _ _ hI
  exact At.endRange (c := c) rfl rfl (hz o R' _ hR (hsh' R' _ (RLe.refl R')) hc) tmps ht
theorem At.rangeF0 {ρ : Type} {body : α → S → Option (S ⊕ Empty)} (mseq : (α → (S ⊕ Empty) → Option ((S ⊕ Empty) × Bool)) → (S ⊕ Empty) → Option (S ⊕ Empty)) {f : S → Option ρ} {g : Empty → Option ρ} {s0 : S} {rr : ρ} {x : Operand} {fid : FuncId} {first cap : Array Value} {H1 : HList}
  (hM : (mseq (runY body) (.inl s0)).bind (Sum.elim f g) = some rr) (hx : evalS st x = some (.func (.func fid) first cap)) (he : Enters P fid) (hk : (c.kind == CallKind.early) = false) (hro : c.ro = none) (hd : Nat.blt t c.n = true)
  (I : S → RMap → HList → HList → Prop) (hIs : ∀ s, Shape (I s))
  (hseq : ∀ v Inv Hy z, HandS 𝒥 R A v (runY body) Inv → Inv (.inl s0) R Hy → mseq (runY body) (.inl s0) = some z → FnOk 𝒥 fid (first ++ #[v] ++ cap) R Hy fun _ R' H' => RLe R R' ∧ Inv z R' H')
  (h0 : I s0 R H H1)
  (ha : ∀ r s R' H', RLe R R' → I s R' ((r, .deferred (some [])) :: H) H' → f s = some rr → At 𝒥 ⟨c.fn, c.kind, none, c.n, ⟨.collected r, #[]⟩ :: c.defers, c.cs⟩ R' H' st k)
  (hb : ∀ (va : Value) (x : α) (s : S) (R' : RMap) (T H' : HList) (l : Nat) (ld : Loop) (cs : List Frame), RLe R R' → List.Sublist H T → A R' x va → I s R' ((l, .loop ld) :: T) H' → ld.state = .ready → ∀ z, body x s = some z →
   (∀ s', z = .inl s' → ∀ R'' H'' st'', RLe R' R'' → I s' R'' ((l, .loop { ld with state := .busy }) :: T) H'' → At 𝒥 ⟨c.fn, .normal, some l, c.n, [], cs⟩ R'' H'' st'' []) →
   At 𝒥 ⟨c.fn, .normal, some l, c.n, [], cs⟩ R' H' ((t, va) :: st) [.code assign, .beginRound, .code bodyc]) :
  At 𝒥 c R H1 st (.code (.rangeFunc x #[t] assign bodyc) :: k) :=
 At.rangeF (mseq := mseq) hM hx he hk hro hd I (fun o => o.elim) (fun o => o.elim) hIs (fun o => o.elim) hseq h0 ha (fun _ o => o.elim)
  (fun va x s z R' T H' l ld cs h1 h2 h3 h4 h5 h6 h7 _ => hb va x s R' T H' l ld cs h1 h2 h3 h4 h5 z h6 fun s' hz R'' H'' st'' => h7 s' R'' H'' st'' hz)
theorem At.rangeF1 {ρ : Type} (mseq : (α → (S ⊕ O) → Option ((S ⊕ O) × Bool)) → (S ⊕ O) → Option (S ⊕ O)) {f : S → Option ρ} {g : O → Option ρ} {s0 : S} {rr : ρ} {x : Operand} {fid : FuncId} {first cap : Array Value} {H1 : HList} (jc : Code)
  (hM : (mseq (runY body) (.inl s0)).bind (Sum.elim f g) = some rr) (hx : evalS st x = some (.func (.func fid) first cap)) (he : Enters P fid) (hk : (c.kind == CallKind.early) = false) (hro : c.ro = none) (hd : Nat.blt t c.n = true)
  (I : S → RMap → HList → HList → Prop) (E : O → RMap → HList → HList → Prop) (hIs : ∀ s, Shape (I s)) (hEs : ∀ s, Shape (E s))
  (hseq : ∀ v Inv Hy z, HandS 𝒥 R A v (runY body) Inv → Inv (.inl s0) R Hy → mseq (runY body) (.inl s0) = some z → FnOk 𝒥 fid (first ++ #[v] ++ cap) R Hy fun _ R' H' => RLe R R' ∧ Inv z R' H')
  (h0 : I s0 R H H1)
  (ha : ∀ r s R' H', RLe R R' → I s R' ((r, .deferred (some [])) :: H) H' → f s = some rr → At 𝒥 ⟨c.fn, c.kind, none, c.n, ⟨.collected r, #[]⟩ :: c.defers, c.cs⟩ R' H' st k)
  (hz : ∀ r o R' H', RLe R R' → E o R' ((r, .deferred (some [])) :: H) H' → g o = some rr → At 𝒥 ⟨c.fn, c.kind, none, c.n, ⟨.collected r, #[]⟩ :: c.defers, c.cs⟩ R' H' st (.code jc :: k))
  (hb : ∀ (va : Value) (x : α) (s : S) (R' : RMap) (T H' : HList) (l : Nat) (ld : Loop) (cs : List Frame), RLe R R' → List.Sublist H T → A R' x va → I s R' ((l, .loop ld) :: T) H' → ld.state = .ready → ∀ z, body x s = some z →
   (∀ s', z = .inl s' → ∀ R'' H'' st'', RLe R' R'' → I s' R'' ((l, .loop { ld with state := .busy }) :: T) H'' → At 𝒥 ⟨c.fn, .normal, some l, c.n, [], cs⟩ R'' H'' st'' []) →
   (∀ o, z = .inr o → ∀ R'' H'' st'' k'', RLe R' R'' → E o R'' ((l, .loop { ld with state := .busy }) :: T) H'' → Leaves (.code jc :: k'') (some jc) → At 𝒥 ⟨c.fn, .normal, some l, c.n, [], cs⟩ R'' H'' st'' (.code jc :: k'')) →
   At 𝒥 ⟨c.fn, .normal, some l, c.n, [], cs⟩ R' H' ((t, va) :: st) [.code assign, .beginRound, .code bodyc]) :
  At 𝒥 c R H1 st (.code (.rangeFunc x #[t] assign bodyc) :: k) :=
 At.rangeF (mseq := mseq) hM hx he hk hro hd I E (fun _ => jc) hIs hEs hseq h0 ha hz
  (fun va x s z R' T H' l ld cs h1 h2 h3 h4 h5 h6 h7 h8 => hb va x s R' T H' l ld cs h1 h2 h3 h4 h5 z h6 (fun s' hz R'' H'' st'' => h7 s' R'' H'' st'' hz) (fun o hz R'' H'' st'' k'' => h8 o R'' H'' st'' k'' hz))
theorem At.rangeIn1 {ρ : Type} (mseq : (α → (S ⊕ O) → Option ((S ⊕ O) × Bool)) → (S ⊕ O) → Option (S ⊕ O)) {f : S → Option ρ} {g : O → Option ρ} {s0 : S} {rr : ρ} {x : Operand} {fid : FuncId} {first cap : Array Value} {H1 : HList} {l0 : Nat} {r0 : Loop} (jc : Code)
  (hM : (mseq (runY body) (.inl s0)).bind (Sum.elim f g) = some rr) (hx : evalS st x = some (.func (.func fid) first cap)) (he : Enters P fid) (hk : (c.kind == CallKind.early) = false) (hro : c.ro = some l0) (hl0 : (l0, Obj.loop r0) ∈ H1) (hd : Nat.blt t c.n = true)
  (I : S → RMap → HList → HList → Prop) (E : O → RMap → HList → HList → Prop) (hIs : ∀ s, Shape (I s)) (hEs : ∀ s, Shape (E s))
  (hseq : ∀ v Inv Hy z, HandS 𝒥 R A v (runY body) Inv → Inv (.inl s0) R Hy → mseq (runY body) (.inl s0) = some z → FnOk 𝒥 fid (first ++ #[v] ++ cap) R Hy fun _ R' H' => RLe R R' ∧ Inv z R' H')
  (h0 : I s0 R H H1)
  (ha : ∀ s R' H', RLe R R' → I s R' H H' → f s = some rr → At 𝒥 c R' H' st k)
  (hz : ∀ o R' H', RLe R R' → E o R' H H' → g o = some rr → At 𝒥 c R' H' st (.code jc :: k))
  (hb : ∀ (va : Value) (x : α) (s : S) (R' : RMap) (T H' : HList) (l : Nat) (ld : Loop) (cs : List Frame), RLe R R' → List.Sublist H T → A R' x va → I s R' ((l, .loop ld) :: T) H' → ld.state = .ready → ∀ z, body x s = some z →
   (∀ s', z = .inl s' → ∀ R'' H'' st'', RLe R' R'' → I s' R'' ((l, .loop { ld with state := .busy }) :: T) H'' → At 𝒥 ⟨c.fn, .normal, some l, c.n, [], cs⟩ R'' H'' st'' []) →
   (∀ o, z = .inr o → ∀ R'' H'' st'' k'', RLe R' R'' → E o R'' ((l, .loop { ld with state := .busy }) :: T) H'' → Leaves (.code jc :: k'') (some jc) → At 𝒥 ⟨c.fn, .normal, some l, c.n, [], cs⟩ R'' H'' st'' (.code jc :: k'')) →
   At 𝒥 ⟨c.fn, .normal, some l, c.n, [], cs⟩ R' H' ((t, va) :: st) [.code assign, .beginRound, .code bodyc]) :
  At 𝒥 c R H1 st (.code (.rangeFunc x #[t] assign bodyc) :: k) :=
 At.rangeIn (mseq := mseq) hM hx he hk hro hl0 hd I E (fun _ => jc) hIs hEs hseq h0 ha hz
  (fun va x s z R' T H' l ld cs h1 h2 h3 h4 h5 h6 h7 h8 => hb va x s R' T H' l ld cs h1 h2 h3 h4 h5 z h6 (fun s' hz R'' H'' st'' => h7 s' R'' H'' st'' hz) (fun o hz R'' H'' st'' k'' => h8 o R'' H'' st'' k'' hz))
theorem semOk_take {r : Nat} {H' : HList} (hs : HSet H r (.deferred (some [])) (.deferred none) H') : SemOk P B R H (Instr.takeDeferred r) fun v R'' H'' => v = [] ∧ R'' = R ∧ H'' = H' := by
 unfold Instr.takeDeferred
 exact SemOk.bind (SemOk.getObj rfl (.inr hs.mem) (SemOk.bind (SemOk.setObj rfl rfl hs (SemOk.pure ⟨rfl, rfl, rfl⟩))))
theorem ret_past {fr : Frame} {cs : List Frame} {f : FuncId} {n r : Nat} {H' : HList} {tmps : Array Value} {todo : List Item} (hs : HSet H r (.deferred (some [])) (.deferred none) H')
  (h : 𝒥.J R H' (gor { (frm ⟨f, .normal, none, n, [], fr :: cs⟩ tmps todo) with mode := .returning } (fr :: cs))) :
  𝒥.J R H (gor { (frm ⟨f, .normal, none, n, [⟨.collected r, #[]⟩], fr :: cs⟩ tmps todo) with mode := .returning } (fr :: cs)) := by
 refine 𝒥.step rfl fun w hw => ?_
 obtain ⟨v, w', R', H', h1, h2, h3, rfl, rfl, rfl⟩ := semOk_take (P := P) hs w hw
 refine ⟨_, w', seen P f ((Instr.takeDeferred r).events P w #[]), R', _, ?_, fun e he => h2 e (mem_seen he), h3, h⟩
 simp [stepG, unwind, gor, frm, h1, GStep.after]
theorem ret_done {fr : Frame} {cs : List Frame} {f : FuncId} {n : Nat} {fn : Func} {vs : List Value} {tmps : Array Value} {todo : List Item} (hf : P.funcs[f]? = some fn) (ht : Rep n st tmps) (hr : ResOk P R H st fn.results.toList vs) (hj : 𝒥.J R H (gor (fr.finish (resV vs)) cs)) :
  𝒥.J R H (gor { (frm ⟨f, .normal, none, n, [], fr :: cs⟩ tmps todo) with mode := .returning } (fr :: cs)) := by
 refine 𝒥.step rfl fun w hw => ?_
 obtain ⟨v, w', R', H', h1, h2, h3, rfl, rfl, rfl⟩ := semOk_results (P := P) ht hr w hw
 refine ⟨gor (fr.finish (resV vs)) cs, w', seen P f ((results fn tmps).events P w #[]), R', H', ?_, fun e he => h2 e (mem_seen he), h3, hj⟩
 simp [stepG, unwind, doReturn, gor, frm, hf, h1, GStep.after]
theorem At.retD {fr : Frame} {cs : List Frame} {f : FuncId} {n r : Nat} {H' : HList} {fn : Func} {vs : List Value} (hs : HSet H r (.deferred (some [])) (.deferred none) H') (hf : P.funcs[f]? = some fn) (hr : ResOk P R H' st fn.results.toList vs) (hj : 𝒥.J R H' (gor (fr.finish (resV vs)) cs)) :
  At 𝒥 ⟨f, .normal, none, n, [⟨.collected r, #[]⟩], fr :: cs⟩ R H st (.code .ret :: k) := fun tmps ht => by
 refine Jd.ctl (g' := gor { (frm ⟨f, .normal, none, n, [⟨.collected r, #[]⟩], fr :: cs⟩ tmps (.code .ret :: k)) with mode := .returning } (fr :: cs)) rfl (fun w => by simp [stepG, stepG.exec, gor, frm]) ?_
 exact ret_past hs (ret_done hf ht hr hj)
end
theorem FnOk.hole {f : FuncId} {args : Array Value} {G : HList → HList} {Hs : HList} (hG : Hole G) {Q : Value → RMap → HList → Prop} (h : FnOk 𝒥 f args R (Hs ++ G []) fun v R' H' => ∃ Hs', Q v R' Hs' ∧ H' = Hs' ++ G []) :
  FnOk 𝒥 f args R (G Hs) fun v R' H' => ∃ Hs', Q v R' Hs' ∧ H' = G Hs' := by
 obtain ⟨A, D, hG⟩ := hG
 have key : ∀ X : HList, List.Perm (X ++ G []) (G X) := fun X => by
  rw [hG, hG, List.nil_append, ← List.append_assoc, ← List.append_assoc]
  exact List.perm_append_comm.append_right D
 intro fr cs hk
 refine J.perm (key Hs) (h fr cs fun v R' H' hv => ?_)
 obtain ⟨Hs', hq, rfl⟩ := hv
 exact J.perm (key Hs').symm (hk v R' _ ⟨Hs', hq, rfl⟩)
theorem Ox.eqNil {x y : Operand} {t u e : TypeId} {o : Oper} {C : RMap → HList → St → Prop} {A : Option Addr} {n cap : Nat} {b : Bool} {st' : St} (hop : o.op = .binOp .eql t x y u) (hx : evalS st x = some (.slice A n cap)) (hy : evalS st y = some (.slice none 0 0)) (ht : P.underlying t = some (.slice e)) (hb : A.isNone = b)
  (hd : dstLt o.dst c.n) (hs : SubL (putS o.dst (.bool b) st) st') (h : C R H st') : SemTo P B c o R H st C :=
 Ox.val' (s := fun ρ => do eqGuard .eql t x y (ρ x) (ρ y); binOp .eql t (ρ x) (ρ y)) (by rw [hop]; rfl) hd (fun ρ => by simp only [execOp, hop]) (fun ρ hρ => by
  rw [hρ x _ hx, hρ y _ hy]
  refine Val.bind (a := ()) (Val.pure _) ?_
  simp only [binOp]
  refine Val.bind (a := b) ?_ (Val.pure _)
  unfold Op.equal Op.maxDepth Op.equalIn
  refine Val.bind (Val.underlying ht) ?_
  cases A with
  | none => subst hb; exact Val.pure _
  | some a => subst hb; exact Val.pure _) hs h
theorem RdS.nilOr {α : Type} {K : CRel α} {k : Nat} {v : Value} {xs : List α} (h : RdS K k R H v xs) : (∃ cap, v = .slice none 0 cap ∧ xs = []) ∨ ∃ a n cap, v = .slice (some a) n cap := by
 obtain ⟨A, cap, es, rfl, h2, h3, h4⟩ := h
 cases A with
 | some a => exact .inr ⟨a, _, cap, rfl⟩
 | none =>
  cases xs with
  | nil => exact .inl ⟨cap, rfl, rfl⟩
  | cons x xs =>
   obtain ⟨b, o, g, _⟩ := h4 (by simp)
   cases g
theorem Ox.indexFn {x y : Operand} {t e len : Nat} {cs : Array Value} {v : Value} {kd : IntKind} {i : Int} {o : Oper} {C : RMap → HList → St → Prop} {st' : St} (hop : o.op = .index t x y) (hx : evalS st x = some (.agg cs)) (hy : evalS st y = some (.int kd i)) (ht : ArrayTy P t len e 1) (he : Val P (isAgg e) false) (hi : 0 ≤ i ∧ i < len) (hv : cs[i.toNat * 1]? = some v)
  (hd : dstLt o.dst c.n) (hs : SubL (putS o.dst v st) st') (h : C R H st') : SemTo P B c o R H st C :=
 Ox.val' (s := fun ρ => Instr.index t (ρ x) (ρ y)) (by rw [hop]; rfl) hd (fun ρ => by simp only [execOp, hop]) (fun ρ hρ => by
  rw [hρ x _ hx, hρ y _ hy]
  unfold Instr.index
  refine Val.bind (a := (kd, i)) (Val.pure _) (Val.bind (Val.underlying ht.1) ?_)
  simp only [hi, and_self, if_true]
  refine Val.bind ht.2 ?_
  unfold part
  refine Val.bind he ?_
  simp only [hv]
  exact Val.pure _) hs h
theorem At.freezeBox {todo : List Item} {b : Nat} {cs : Array Value} {e : TypeId} {fz : Nat × Nat} (G : HList → HList) (hG : Hole G) {H2 : HList} (h2 : G [] = H2) (h : ∀ R', RLe R R' → CellsAt R' [] b 0 cs.toList → At 𝒥 c R' H2 st todo) : At 𝒥 c R (G [(b, .cells cs e fz)]) st todo := by
 obtain ⟨A, D, hG⟩ := hG
 refine At.perm (H' := (b, .cells cs e fz) :: (A ++ D)) ?_ (At.freeze fun R' hR hb => ?_)
 ·rw [hG]; exact List.perm_middle.symm
 ·have e2 : A ++ D = H2 := by rw [← h2, hG]; rfl
  rw [e2]
  exact h R' hR (CellsAt.known (n := cs.toList.length) hb (by rw [List.drop_zero, List.take_length]))
def SeqR (𝒥 : Jd P B main) (R : RMap) {α S : Type} (A : VRel α) (v : Value) (q : (α → S → Option (S × Bool)) → S → Option S) : Prop :=
 ∃ fid first cap, v = .func (.func fid) first cap ∧ Enters P fid ∧ ∀ R', RLe R R' → ∀ (w : Value) (y : α → S → Option (S × Bool)) (Inv : S → RMap → HList → Prop) (Hy : HList) (s z : S), HandS 𝒥 R' A w y Inv → Inv s R' Hy → q y s = some z →
  FnOk 𝒥 fid (first ++ #[w] ++ cap) R' Hy fun _ R'' H' => RLe R' R'' ∧ Inv z R'' H'
theorem SeqR.mono {R' : RMap} {α S : Type} {A : VRel α} {v : Value} {q : (α → S → Option (S × Bool)) → S → Option S} (h : SeqR 𝒥 R A v q) (hR : RLe R R') : SeqR 𝒥 R' A v q := by
 obtain ⟨fid, first, cap, h1, h2, h3⟩ := h
 exact ⟨fid, first, cap, h1, h2, fun R'' hR' => h3 R'' (hR.trans hR')⟩
theorem HandS.frame {α S : Type} {A : VRel α} {v : Value} {y : α → S → Option (S × Bool)} {Inv : S → RMap → HList → Prop} (h : HandS 𝒥 R A v y Inv) (Hf : HList) : HandS 𝒥 R A v y fun s R' H' => ∃ Hy, Inv s R' Hy ∧ H' = Hf ++ Hy where
 fn := h.fn
 mono := fun h1 h2 ⟨Hy, hi, e⟩ => ⟨Hy, h.mono h1 h2 hi, e⟩
 call := by
  intro H2 R' Hy s x va z hR hI hA hy
  obtain ⟨Hy, hI, rfl⟩ := hI
  have := h.call (H2 ++ Hf) hR hI hA hy
  rw [List.append_assoc] at this
  refine this.mono fun w R'' H'' ⟨h1, h2, Hy', h3, h4⟩ => ⟨h1, h2, Hf ++ Hy', ⟨Hy', h3, rfl⟩, by rw [h4, List.append_assoc]⟩
section
variable {S : Nat → HList} {ops : Array Oper} {n : Nat} {rem : List Nat} {H2 : HList}
theorem anyR_ghost {Q : Array Value → RMap → HList → Prop} {R' : RMap} {H' : HList} (hg : ∀ w, Fits B R H w → Upd B R H w R' H' w) (hR : RLe R R') (hS : ∀ j, ∀ p ∈ S j, p ∈ H → p ∈ H') (hQ : ∀ t, Q t R' H' → Q t R H) :
  ∀ (n : Nat) (rem : List Nat) (t : Array Value), anyR 𝒥 c S ops Q n rem t R' H' → anyR 𝒥 c S ops Q n rem t R H
 | 0, rem, t, h => ⟨h.1, hQ t h.2⟩
 | n + 1, rem, t, h => by
  rcases h with ⟨h1, h2⟩ | ⟨h1, h2⟩
  ·exact .inl ⟨h1, hQ t h2⟩
  ·refine .inr ⟨h1, fun ⟨w, hw⟩ i hi hr => ?_⟩
   obtain ⟨o, ho, hd, h⟩ := h2 ⟨w, (hg w hw).fits⟩ i hi hr
   refine ⟨o, ho, hd, ?_⟩
   rcases h with ⟨a, b⟩ | ⟨a, b | ⟨f, args, b, b'⟩⟩
   ·exact .inl ⟨a, anyR_ghost hg hR hS hQ n _ _ b⟩
   ·exact .inr ⟨a, .inl ((SemOk.ghost hg b).mono fun nx R'' H'' ⟨v, x, y, z, hk⟩ => ⟨v, x, hR.trans y, fun p hp hpH => z p hp (hS i p hp hpH), hk⟩)⟩
   ·exact .inr ⟨a, .inr ⟨f, args, b, (FnOk.ghost hg b').mono fun v R'' H'' ⟨y, z, hk⟩ => ⟨hR.trans y, fun p hp hpH => z p hp (hS i p hp hpH), hk⟩⟩⟩
theorem Any.ghost {R' : RMap} {H' : HList} (hg : ∀ w, Fits B R H w → Upd B R H w R' H' w) (hR : RLe R R') (hS : ∀ j, ∀ p ∈ S j, p ∈ H → p ∈ H') (h : Any 𝒥 c S ops k n rem R' H' st) : Any 𝒥 c S ops k n rem R H st :=
 ⟨h.1, fun tmps ht => anyR_ghost hg hR hS (fun t hq => 𝒥.ghost hg hq) n rem tmps (h.2 tmps ht)⟩
theorem Any.given (hnd : rem.Nodup) (hn : rem.length ≤ n) (h : (∃ w, Fits B R H w) → Any 𝒥 c S ops k n rem R H st) : Any 𝒥 c S ops k n rem R H st := by
 by_cases hw : ∃ w, Fits B R H w
 ·exact h hw
 ·refine ⟨hnd, fun tmps ht => ?_⟩
  cases n with
  | zero =>
   have : rem = [] := List.length_eq_zero_iff.1 (by omega)
   exact ⟨this, J.given 𝒥 rfl fun h => absurd h hw⟩
  | succ n =>
   cases rem with
   | nil => exact .inl ⟨rfl, J.given 𝒥 rfl fun h => absurd h hw⟩
   | cons i rem => exact .inr ⟨by simp, fun h => absurd h hw⟩
theorem Any.freeze {b : Nat} {o : Obj} {A D : HList} (hnd : rem.Nodup) (hn : rem.length ≤ n) (hS : ∀ j, ∀ p ∈ S j, p ∈ A ++ D) (h : ∀ R', RLe R R' → R' b = some o → Any 𝒥 c S ops k n rem R' (A ++ D) st) : Any 𝒥 c S ops k n rem R (A ++ (b, o) :: D) st := by
 refine Any.given hnd hn fun ⟨w, hw⟩ => ?_
 have hb : R b = none := hw.dj b o (by simp)
 refine Any.ghost (R' := R.ins b o) (H' := A ++ D) (fun w hw => ?_) (RMap.ins_le hb) (fun j p hp _ => hS j p hp) (h _ (RMap.ins_le hb) (RMap.ins_same R b o))
 exact (upd_perm List.perm_middle.symm hw).trans (upd_freeze (upd_perm List.perm_middle.symm hw).fits)
theorem Any.freezeOwn {α : Type} {K : CRel α} [CM K] {kk e : Nat} (G : HList → HList) (hG : Hole G) {v : Value} {xs : List α} {Hs : HList} (h2 : G [] = H2) (hO : OwnSl K kk e R v xs Hs) (hnd : rem.Nodup) (hn : rem.length ≤ n) (hS : ∀ j, ∀ p ∈ S j, p ∈ H2) (h : ∀ R', RLe R R' → SlR K kk R' v xs → Any 𝒥 c S ops k n rem R' H2 st) : Any 𝒥 c S ops k n rem R (G Hs) st := by
 subst h2
 rcases hO with ⟨A, rfl, rfl, rfl⟩ | ⟨b, cap, cs, es, rfl, rfl, h3, h4, h5, h6⟩
 ·exact h R (RLe.refl R) .nil
 ·obtain ⟨A, D, hGe⟩ := hG
  rw [hGe] at h hS ⊢
  refine Any.freeze hnd hn (fun j p hp => hS j p hp) (fun R' hR hb => h R' hR ?_)
  exact ⟨_, cap, es, rfl, h5.mono hR, h4, fun _ => ⟨b, 0, cs, e, (0, 0), rfl, hb, fun j w hj => by simpa using h6 j w hj⟩⟩
theorem Any.freezeLit {α : Type} {K : CRel α} [CM K] {kk e b m : Nat} (G : HList → HList) (hG : Hole G) (h2 : G [] = H2) {ys : List α} {cs : Array Value} (hE : Enc K kk R ys cs.toList) (hm : ys.length = m) (hnd : rem.Nodup) (hn : rem.length ≤ n) (hS : ∀ j, ∀ p ∈ S j, p ∈ H2) (h : ∀ R', RLe R R' → SlR K kk R' (.slice (some ⟨b, 0, none⟩) m m) ys → Any 𝒥 c S ops k n rem R' H2 st) : Any 𝒥 c S ops k n rem R (G [(b, .cells cs e (0, 0))]) st := by
 subst hm h2
 obtain ⟨A, D, hGe⟩ := hG
 rw [hGe] at h hS ⊢
 refine Any.freeze hnd hn (fun j p hp => hS j p hp) (fun R' hR hb => h R' hR ?_)
 exact ⟨_, ys.length, cs.toList, rfl, hE.mono hR, Nat.le_refl _, fun _ => ⟨b, 0, cs, e, (0, 0), rfl, hb, fun j w hj => by simpa using hj⟩⟩
end
theorem Ox.nilCheck {x : Operand} {a : Addr} {o : Oper} {C : RMap → HList → St → Prop} {st' : St} (hop : o.op = .nilCheck x) (hx : evalS st x = some (.pointer (some a))) (hd : dstLt o.dst c.n)
  (hs : SubL (putS o.dst (.pointer (some a)) st) st') (h : C R H st') : SemTo P B c o R H st C :=
 Ox.val (by rw [hop]; rfl) hd (fun ρ hρ => by simp only [execOp, hop, hρ x _ hx]; exact Val.pure _) hs h
def many (a : HList) : List (Nat × HList) → Nat → HList
 | [], _ => a
 | (q, l) :: r, j => if j = q then l else many a r j
section
variable {a N : HList} {ex : List (Nat × HList)} {rem D : List Nat} {i q : Nat} {l H' : HList}
theorem many_nil (ha : ∀ p ∈ N, p ∈ a) : ∀ j ∈ rem, j ≠ i → j ∉ D → ∀ p ∈ N, p ∈ many a [] j := fun _ _ _ _ p hp => ha p hp
theorem many_skip (hd : (D.contains q || q == i || !rem.contains q) = true) (h : ∀ j ∈ rem, j ≠ i → j ∉ D → ∀ p ∈ N, p ∈ many a ex j) : ∀ j ∈ rem, j ≠ i → j ∉ D → ∀ p ∈ N, p ∈ many a ((q, l) :: ex) j := by
 intro j hj hji hjD p hp
 unfold many
 split
 ·subst_vars
  simp only [Bool.or_eq_true, Bool.not_eq_true', List.contains_iff_mem, beq_iff_eq] at hd
  rcases hd with (x | x) | x
  ·exact absurd x hjD
  ·exact absurd x hji
  ·have : rem.contains j = true := List.contains_iff_mem.2 hj
   rw [this] at x; cases x
 ·exact h j hj hji hjD p hp
theorem many_keep (hl : ∀ p ∈ N, p ∈ l) (h : ∀ j ∈ rem, j ≠ i → j ∉ D → ∀ p ∈ N, p ∈ many a ex j) : ∀ j ∈ rem, j ≠ i → j ∉ D → ∀ p ∈ N, p ∈ many a ((q, l) :: ex) j := by
 intro j hj hji hjD p hp
 unfold many
 split
 ·exact hl p hp
 ·exact h j hj hji hjD p hp
theorem many_at (he : many a ex i = l) (h : ∀ p ∈ l, p ∈ H') : ∀ p ∈ many a ex i, p ∈ H → p ∈ H' := by
 rw [he]; exact fun p hp _ => h p hp
theorem many_all0 (ha : ∀ p ∈ a, p ∈ H') : ∀ j, ∀ p ∈ many a [] j, p ∈ H' := fun _ p hp => ha p hp
theorem many_all1 (hl : ∀ p ∈ l, p ∈ H') (h : ∀ j, ∀ p ∈ many a ex j, p ∈ H') : ∀ j, ∀ p ∈ many a ((q, l) :: ex) j, p ∈ H' := by
 intro j p hp
 unfold many at hp
 split at hp
 ·exact hl p hp
 ·exact h j p hp
end
end
end Go.Lg
namespace Go.Lg
open Go.Conc
abbrev Tab := List (List Bool × Int)
def keyV (k : List Bool) : Value := .agg (List.toArray ([] ++ (k.map Value.bool ++ [])))
def EntL : List MapEntry → Tab → Prop
 | [], m => m = []
 | e :: es, m => ∃ k z r, m = (k, z) :: r ∧ e.key = keyV k ∧ e.val = .int .i64 z ∧ k.length = 5 ∧ EntL es r
def nilTab : Tab := [([], 0)]
def mapGet (m : Tab) (k : List Bool) : Int := (m.lookup k).getD 0
theorem EntL.push {e : MapEntry} {k : List Bool} {z : Int} (h1 : e.key = keyV k) (h2 : e.val = .int .i64 z) (h3 : k.length = 5) : ∀ {es : List MapEntry} {m : Tab}, EntL es m → EntL (es ++ [e]) (m ++ [(k, z)])
 | [], m, h => by cases h; exact ⟨k, z, [], rfl, h1, h2, h3, rfl⟩
 | _ :: es, m, h => by
  obtain ⟨k', z', r, rfl, a, b, c, d⟩ := h
  exact ⟨k', z', r ++ [(k, z)], rfl, a, b, c, EntL.push h1 h2 h3 d⟩
def OwnM (v : Value) (m : Tab) (Hs : HList) : Prop := (v = .map none ∧ m = nilTab ∧ Hs = []) ∨ ∃ b es clock, v = .map (some b) ∧ Hs = [(b, .map es clock)] ∧ EntL es.toList m ∧ (m.map (·.1)).Nodup
def MapR (R : RMap) (v : Value) (m : Tab) : Prop := (v = .map none ∧ m = nilTab) ∨ ∃ b es clock m', v = .map (some b) ∧ R b = some (.map es clock) ∧ EntL es.toList m' ∧ (m'.map (·.1)).Nodup ∧ List.Perm m' m
theorem MapR.mono {R R' : RMap} {v : Value} {m : Tab} (h : MapR R v m) (hR : RLe R R') : MapR R' v m := by
 rcases h with h | ⟨b, es, cl, m', h1, h2, h3, h4, h5⟩
 ·exact .inl h
 ·exact .inr ⟨b, es, cl, m', h1, hR _ _ h2, h3, h4, h5⟩
theorem OwnM.one {v : Value} {m : Tab} {Hs : HList} (h : OwnM v m Hs) : v.oneCell' = true := by
 rcases h with ⟨rfl, _⟩ | ⟨b, es, cl, rfl, _⟩ <;> rfl
theorem OwnM.cells {v : Value} {m : Tab} {Hs : HList} (h : OwnM v m Hs) : v.cells = #[v] := by
 rcases h with ⟨rfl, _⟩ | ⟨b, es, cl, rfl, _⟩ <;> rfl
theorem OwnM.none : OwnM (.map none) nilTab [] := .inl ⟨rfl, rfl, rfl⟩
theorem mapGet_nil {k : List Bool} (hk : k.length = 5) : mapGet nilTab k = mapGet [] k := by
 unfold mapGet nilTab
 rw [List.lookup_cons]
 cases k with
 | nil => cases hk
 | cons a k => rfl
theorem MapR.none {R : RMap} : MapR R (.map none) nilTab := .inl ⟨rfl, rfl⟩
theorem lookup_mem {m : Tab} (hn : (m.map (·.1)).Nodup) {k : List Bool} {z : Int} (h : (k, z) ∈ m) : m.lookup k = some z := by
 induction m with
 | nil => cases h
 | cons p m ih =>
  obtain ⟨k', z'⟩ := p
  rw [List.map_cons, List.nodup_cons] at hn
  rw [List.lookup_cons]
  rcases List.mem_cons.1 h with h | h
  ·cases h; simp
  ·have hne : k ≠ k' := fun e => hn.1 (List.mem_map.2 ⟨_, h, e⟩)
   have : (k == k') = false := by simpa using hne
   rw [this]
   exact ih hn.2 h
theorem lookup_none {m : Tab} {k : List Bool} (h : k ∉ m.map (·.1)) : m.lookup k = none := by
 induction m with
 | nil => rfl
 | cons p m ih =>
  obtain ⟨k', z'⟩ := p
  rw [List.map_cons, List.mem_cons, not_or] at h
  rw [List.lookup_cons]
  have : (k == k') = false := by simpa using h.1
  rw [this]
  exact ih h.2
theorem mapGet_perm {m m' : Tab} (hn : (m'.map (·.1)).Nodup) (hp : List.Perm m' m) (k : List Bool) : mapGet m' k = mapGet m k := by
 have hn2 : (m.map (·.1)).Nodup := (hp.map _).nodup_iff.1 hn
 unfold mapGet
 by_cases hk : k ∈ m'.map (·.1)
 ·obtain ⟨⟨k', z⟩, h1, h2⟩ := List.mem_map.1 hk
  simp only at h2
  subst h2
  rw [lookup_mem hn h1, lookup_mem hn2 (hp.mem_iff.1 h1)]
 ·have hk2 : k ∉ m.map (·.1) := fun h => hk ((hp.map _).mem_iff.2 h)
  rw [lookup_none hk, lookup_none hk2]
structure MapTy (P : Program) (t kt et : TypeId) : Prop where
 ty : P.underlying t = some (.map kt et)
 key : ∃ d, P.underlying kt = some d ∧ ∀ a b, Instr.sameNow d a b = none
 eq : ∀ a b : List Bool, a.length = 5 → b.length = 5 → Val P (Op.equal kt (keyV a) (keyV b)) (a == b)
 chk : ∀ (e : Bool) (a : List Bool), a.length = 5 → Val P (Instr.checkKey e 10000 kt (keyV a)) ()
 zero : Val P (zeroValue et) (.int .i64 0)
section
variable {P : Program} {B : Base} {main : Bool} {𝒥 : Jd P B main} {c : Ctx} {R : RMap} {H : HList} {st st' : St} {o : Oper} {C : RMap → HList → St → Prop}
def findT : Tab → List Bool → Nat → Option (Nat × Value)
 | [], _, _ => none
 | (k', z) :: m, k, i => if k == k' then some (i, .int .i64 z) else findT m k (i + 1)
theorem val_findAsking {t kt et : TypeId} (ht : MapTy P t kt et) {k : List Bool} (hk : k.length = 5) : ∀ {es : List MapEntry} {m : Tab} {i : Nat}, EntL es m → Val P (Instr.findAsking kt (keyV k) es i) (findT m k i)
 | [], m, i, h => by cases h; exact Val.pure _
 | e :: es, m, i, h => by
  obtain ⟨k', z, r, rfl, h1, h2, h3, h4⟩ := h
  unfold Instr.findAsking
  rw [h1]
  refine Val.bind (ht.eq k k' hk h3) ?_
  unfold findT
  cases k == k' with
  | true => rw [h2]; exact Val.pure _
  | false => exact val_findAsking ht hk h4
theorem val_findKey {t kt et : TypeId} (ht : MapTy P t kt et) {k : List Bool} (hk : k.length = 5) {es : List MapEntry} {m : Tab} (h : EntL es m) : Val P (Instr.findKey kt (keyV k) es) (findT m k 0) := by
 obtain ⟨d, h1, h2⟩ := ht.key
 unfold Instr.findKey
 refine Val.bind (Val.underlying h1) ?_
 cases es with
 | nil => cases h; exact Val.pure _
 | cons e es =>
  simp only [Instr.findNow, h2]
  exact val_findAsking ht hk h
theorem findT_get : ∀ {m : Tab} {k : List Bool} {i : Nat}, (match findT m k i with | some (_, v) => v | none => .int .i64 0) = .int .i64 (mapGet m k)
 | [], _, _ => rfl
 | (k', z) :: m, k, i => by
  unfold findT mapGet
  rw [List.lookup_cons]
  cases hk : k == k' with
  | true => rfl
  | false =>
   have := findT_get (m := m) (k := k) (i := i + 1)
   unfold mapGet at this
   exact this
theorem findT_none : ∀ {m : Tab} {k : List Bool} {i : Nat}, k ∉ m.map (·.1) → findT m k i = none
 | [], _, _, _ => rfl
 | (k', z) :: m, k, i, h => by
  rw [List.map_cons, List.mem_cons, not_or] at h
  have : (k == k') = false := by simpa using h.1
  unfold findT
  rw [this]
  exact findT_none h.2
theorem semOk_lookup {t kt et : TypeId} (ht : MapTy P t kt et) {k : List Bool} (hk : k.length = 5) {es : List MapEntry} {m : Tab} (h : EntL es m) {K : Value → RMap → HList → Prop} (hK : K (.int .i64 (mapGet m k)) R H) :
  SemOk P B R H (do
   Instr.checkKey es.isEmpty 10000 kt (keyV k)
   let (v, ok) ← match ← Instr.findKey kt (keyV k) es with
    | some (_, v) => pure (v, true)
    | none => pure (← zeroValue et, false)
   pure (if false then .tuple #[v, .bool ok] else v)) K := by
 refine Val.bindOk (ht.chk _ k hk) (Val.bindOk (val_findKey ht hk h) ?_)
 have hg := findT_get (m := m) (k := k) (i := 0)
 cases hf : findT m k 0 with
 | some q =>
  obtain ⟨i, v⟩ := q
  rw [hf] at hg
  simp only at hg
  subst hg
  exact SemOk.bind (SemOk.pure (SemOk.pure hK))
 | none =>
  rw [hf] at hg
  simp only at hg
  refine Val.bindOk ht.zero (SemOk.bind (SemOk.pure (SemOk.pure ?_)))
  rw [hg]
  exact hK
theorem Ox.lookup {x y : Operand} {t kt et : TypeId} {v : Value} {m : Tab} {k : List Bool} (hop : o.op = .lookup t x y false) (hx : evalS st x = some v) (hy : evalS st y = some (keyV k)) (ht : MapTy P t kt et) (hm : MapR R v m) (hk : k.length = 5)
  (hd : dstLt o.dst c.n) (hs : SubL (putS o.dst (.int .i64 (mapGet m k)) st) st') (h : C R H st') : SemTo P B c o R H st C :=
 Ox.mem (s := fun ρ => Instr.lookup t (ρ x) (ρ y) false) (by rw [hop]; rfl) hd (fun ρ => by simp only [execOp, hop]) (fun ρ hρ => by
  rw [hρ x _ hx, hρ y _ hy]
  unfold Instr.lookup
  refine Val.bindOk (Val.underlying ht.ty) ?_
  rcases hm with ⟨rfl, rfl⟩ | ⟨b, es, cl, m', rfl, h1, h2, h3, h4⟩
  ·refine SemOk.bind (SemOk.pure ?_)
   rw [mapGet_nil hk] at hs
   exact semOk_lookup ht hk (es := []) rfl ⟨st', hs, h⟩
  ·refine SemOk.bind (SemOk.getObj rfl (.inl h1) ?_)
   rw [← mapGet_perm h3 h4] at hs
   have := semOk_lookup (B := B) (R := R) (H := H) (K := fun v R' H' => ∃ st', SubL (putS o.dst v st) st' ∧ C R' H' st') ht hk h2 ⟨st', hs, h⟩
   have e : es.isEmpty = es.toList.isEmpty := by simp
   rw [← e] at this
   exact SemOk.bind (SemOk.pure this))
theorem Ox.makeMap {t : TypeId} (hop : o.op = .makeMap t none) (hd : dstLt o.dst c.n)
  (hC : ∀ v Hs, OwnM v [] Hs → ∃ st', SubL (putS o.dst v st) st' ∧ C R (Hs ++ H) st') : SemTo P B c o R H st C :=
 Ox.mem (s := fun ρ => Instr.makeMap t none) (by rw [hop]; rfl) hd (fun ρ => by simp only [execOp, hop]; rfl) (fun ρ hρ => by
  unfold Instr.makeMap
  refine SemOk.bind (SemOk.new fun b _ _ => SemOk.pure ?_)
  exact hC (.map (some b)) [(b, .map #[] 0)] (.inr ⟨b, #[], 0, rfl, rfl, rfl, by simp⟩))
theorem Ox.mapAdd {x y z : Operand} {t kt et : TypeId} {b : Nat} {es : Array MapEntry} {clock : Nat} {m : Tab} {k : List Bool} {w : Int} {H' : HList} (hop : o.op = .mapUpdate t x y z) (hx : evalS st x = some (.map (some b))) (hy : evalS st y = some (keyV k)) (hz : evalS st z = some (.int .i64 w)) (ht : MapTy P t kt et) (hm : EntL es.toList m) (hk : k.length = 5) (hn : k ∉ m.map (·.1))
  (hs : HSet H b (.map es clock) (.map (es.push { key := keyV k, val := .int .i64 w, born := clock }) (clock + 1)) H') (hd : o.dst = none) (hst : SubL st st') (h : C R H' st') : SemTo P B c o R H st C :=
 Ox.memU (s := fun ρ => Instr.mapUpdate t (ρ x) (ρ y) (ρ z)) (by rw [hop]; rfl) hd (fun ρ => by simp only [execOp, hop]) hst (fun ρ hρ => by
  rw [hρ x _ hx, hρ y _ hy, hρ z _ hz]
  unfold Instr.mapUpdate
  refine Val.bindOk (Val.underlying ht.ty) ?_
  refine SemOk.bind (SemOk.getObj rfl (.inr hs.mem) ?_)
  refine Val.bindOk (ht.chk _ k hk) (Val.bindOk (val_findKey ht hk hm) ?_)
  rw [findT_none hn]
  exact SemOk.setObj rfl rfl hs h)
theorem At.freezeMap {todo : List Item} (G : HList → HList) (hG : Hole G) {H2 Hs : HList} {v : Value} {m : Tab} (h2 : G [] = H2) (hO : OwnM v m Hs) (h : ∀ R', RLe R R' → MapR R' v m → At 𝒥 c R' H2 st todo) : At 𝒥 c R (G Hs) st todo := by
 subst h2
 rcases hO with ⟨rfl, rfl, rfl⟩ | ⟨b, es, cl, rfl, rfl, h3, h4⟩
 ·exact h R (RLe.refl R) .none
 ·obtain ⟨A, D, hGe⟩ := hG
  rw [hGe] at h ⊢
  refine At.perm (H' := (b, .map es cl) :: (A ++ ([] ++ D))) (by simpa using List.perm_middle.symm) (At.freeze fun R' hR hb => h R' hR ?_)
  exact .inr ⟨b, es, cl, m, rfl, hb, h3, h4, List.Perm.refl _⟩
end
end Go.Lg
namespace Go.Lg
open Go.Conc
def wKey (p w : Int) : Value := .agg #[.int .i64 p, .int .i64 w]
theorem wKey_inj {p w p' w' : Int} (h : wKey p w = wKey p' w') : p = p' ∧ w = w' := by
 simp only [wKey, Value.agg.injEq, Array.mk.injEq, List.cons.injEq, Value.int.injEq] at h
 exact ⟨h.1.2, h.2.1.2⟩
def updW (m : Int → Int → Int) (p w z : Int) : Int → Int → Int := fun a b => if a = p ∧ b = w then z else m a b
structure EntW (es : List MapEntry) (m : Int → Int → Int) (clock : Nat) : Prop where
 ent : ∀ e ∈ es, ∃ p w, e.key = wKey p w ∧ e.val = .int .i64 (m p w)
 zero : ∀ p w, (∀ e ∈ es, e.key ≠ wKey p w) → m p w = 0
 keys : ∀ (i j : Nat) (a b : MapEntry), es[i]? = some a → es[j]? = some b → a.key = b.key → i = j
 old : ∀ e ∈ es, e.born < clock
 borns : ∀ (i j : Nat) (a b : MapEntry), es[i]? = some a → es[j]? = some b → a.born = b.born → i = j
def OwnW (v : Value) (m : Int → Int → Int) (Hs : HList) : Prop := ∃ b es clock, v = .map (some b) ∧ Hs = [(b, .map es clock)] ∧ EntW es.toList m clock
def OwnWE (v : Value) (m : Int → Int → Int) (p w g : Int) (Hs : HList) : Prop := ∃ b es clock, v = .map (some b) ∧ Hs = [(b, .map es clock)] ∧ EntW es.toList m clock ∧ ∃ (i : Nat) (e : MapEntry), es[i]? = some e ∧ e.key = wKey p w ∧ g = (e.born : Int)
theorem OwnWE.own {v : Value} {m : Int → Int → Int} {p w g : Int} {Hs : HList} (h : OwnWE v m p w g Hs) : OwnW v m Hs := by
 obtain ⟨b, es, cl, h1, h2, h3, _⟩ := h
 exact ⟨b, es, cl, h1, h2, h3⟩
structure MapTyW (P : Program) (t kt et : TypeId) : Prop where
 ty : P.underlying t = some (.map kt et)
 key : ∃ d, P.underlying kt = some d ∧ ∀ a b, Instr.sameNow d a b = none
 eq : ∀ a b c d : Int, Val P (Op.equal kt (wKey a b) (wKey c d)) (a == c && (b == d && true))
 chk : ∀ (e : Bool) (a b : Int), Val P (Instr.checkKey e 10000 kt (wKey a b)) ()
 zero : Val P (zeroValue et) (.int .i64 0)
section
variable {P : Program} {B : Base} {main : Bool} {𝒥 : Jd P B main} {c : Ctx} {R : RMap} {H : HList} {st st' : St} {o : Oper} {C : RMap → HList → St → Prop}
def FoundW (es : List MapEntry) (p w : Int) (r : Option (Nat × Value)) : Prop :=
 (r = none ∧ ∀ e ∈ es, e.key ≠ wKey p w) ∨ ∃ (i : Nat) (e : MapEntry), es[i]? = some e ∧ e.key = wKey p w ∧ r = some (i, e.val)
theorem val_findAskingW {t kt et : TypeId} (ht : MapTyW P t kt et) (p w : Int) : ∀ (es : List MapEntry) (i : Nat), (∀ e ∈ es, ∃ p w, e.key = wKey p w) → ∃ r, Val P (Instr.findAsking kt (wKey p w) es i) r ∧ ((r = none ∧ ∀ e ∈ es, e.key ≠ wKey p w) ∨ ∃ (j : Nat) (e : MapEntry), es[j]? = some e ∧ e.key = wKey p w ∧ r = some (i + j, e.val))
 | [], i, h => ⟨none, Val.pure _, .inl ⟨rfl, fun e he => (by cases he)⟩⟩
 | e :: es, i, h => by
  obtain ⟨p', w', hk⟩ := h e (by simp)
  by_cases heq : p = p' ∧ w = w'
  ·obtain ⟨rfl, rfl⟩ := heq
   refine ⟨some (i, e.val), ?_, .inr ⟨0, e, rfl, hk, rfl⟩⟩
   unfold Instr.findAsking
   rw [hk]
   refine Val.bind (ht.eq p w p w) ?_
   simp only [beq_self_eq_true, Bool.and_self, if_true]
   exact Val.pure _
  ·obtain ⟨r, hr, hc⟩ := val_findAskingW ht p w es (i + 1) (fun e he => h e (by simp [he]))
   have hb : (p == p' && (w == w' && true)) = false := by
    simp only [Bool.and_true, Bool.and_eq_false_iff, beq_eq_false_iff_ne]
    by_cases hp : p = p'
    ·exact .inr fun hw => heq ⟨hp, hw⟩
    ·exact .inl hp
   refine ⟨r, ?_, ?_⟩
   ·unfold Instr.findAsking
    rw [hk]
    refine Val.bind (ht.eq p w p' w') ?_
    rw [hb]
    exact hr
   ·rcases hc with ⟨rfl, hc⟩ | ⟨j, e', h1, h2, rfl⟩
    ·refine .inl ⟨rfl, fun x hx => ?_⟩
     rcases List.mem_cons.1 hx with rfl | hx
     ·intro e2
      obtain ⟨a, b⟩ := wKey_inj (hk.symm.trans e2)
      exact heq ⟨a.symm, b.symm⟩
     ·exact hc x hx
    ·exact .inr ⟨j + 1, e', by simpa using h1, h2, by simp; omega⟩
theorem val_findW {t kt et : TypeId} (ht : MapTyW P t kt et) (p w : Int) {es : List MapEntry} {m : Int → Int → Int} {cl : Nat} (h : EntW es m cl) : ∃ r, Val P (Instr.findKey kt (wKey p w) es) r ∧ FoundW es p w r := by
 obtain ⟨d, h1, h2⟩ := ht.key
 obtain ⟨r, hr, hc⟩ := val_findAskingW ht p w es 0 (fun e he => let ⟨p, w, hk, _⟩ := h.ent e he; ⟨p, w, hk⟩)
 cases es with
 | nil => exact ⟨none, by unfold Instr.findKey; exact Val.bind (Val.underlying h1) (Val.pure _), .inl ⟨rfl, fun e he => by cases he⟩⟩
 | cons e es =>
  refine ⟨r, ?_, ?_⟩
  ·unfold Instr.findKey
   refine Val.bind (Val.underlying h1) ?_
   simp only [Instr.findNow, h2]
   exact hr
  ·rcases hc with hc | ⟨j, e', h1, h2, h3⟩
   ·exact .inl hc
   ·exact .inr ⟨j, e', h1, h2, by simpa using h3⟩
theorem Ox.makeMapW {t : TypeId} (hop : o.op = .makeMap t none) (hd : dstLt o.dst c.n)
  (hC : ∀ v Hs, OwnW v (fun _ _ => 0) Hs → ∃ st', SubL (putS o.dst v st) st' ∧ C R (Hs ++ H) st') : SemTo P B c o R H st C :=
 Ox.mem (s := fun ρ => Instr.makeMap t none) (by rw [hop]; rfl) hd (fun ρ => by simp only [execOp, hop]; rfl) (fun ρ hρ => by
  unfold Instr.makeMap
  refine SemOk.bind (SemOk.new fun b _ _ => SemOk.pure ?_)
  exact hC (.map (some b)) [(b, .map #[] 0)] ⟨b, #[], 0, rfl, rfl, ⟨fun e he => (by cases he), fun _ _ _ => rfl, fun i j a b ha => (by simp at ha), fun e he => (by cases he), fun i j a b ha => (by simp at ha)⟩⟩)
theorem Ox.lookupW {x y : Operand} {t kt et : TypeId} {v : Value} {m : Int → Int → Int} {p w : Int} {Hs : HList} (hop : o.op = .lookup t x y false) (hx : evalS st x = some v) (hy : evalS st y = some (wKey p w)) (ht : MapTyW P t kt et) (hm : OwnW v m Hs) (hH : ∀ q ∈ Hs, q ∈ H)
  (hd : dstLt o.dst c.n) (hs : SubL (putS o.dst (.int .i64 (m p w)) st) st') (h : C R H st') : SemTo P B c o R H st C :=
 Ox.mem (s := fun ρ => Instr.lookup t (ρ x) (ρ y) false) (by rw [hop]; rfl) hd (fun ρ => by simp only [execOp, hop]) (fun ρ hρ => by
  rw [hρ x _ hx, hρ y _ hy]
  unfold Instr.lookup
  refine Val.bindOk (Val.underlying ht.ty) ?_
  obtain ⟨b, es, cl, rfl, rfl, he⟩ := hm
  refine SemOk.bind (SemOk.getObj rfl (.inr (hH (b, .map es cl) (by simp))) ?_)
  refine SemOk.bind (SemOk.pure ?_)
  obtain ⟨r, hr, hf⟩ := val_findW ht p w he
  refine Val.bindOk (ht.chk _ p w) (Val.bindOk hr ?_)
  rcases hf with ⟨rfl, hn⟩ | ⟨i, e, h1, h2, rfl⟩
  ·refine Val.bindOk ht.zero (SemOk.bind (SemOk.pure (SemOk.pure ?_)))
   rw [he.zero p w hn] at hs
   exact ⟨st', hs, h⟩
  ·obtain ⟨p', w', hk, hv⟩ := he.ent e (List.mem_of_getElem? h1)
   obtain ⟨rfl, rfl⟩ := wKey_inj (hk.symm.trans h2)
   rw [hv]
   exact SemOk.bind (SemOk.pure (SemOk.pure ⟨st', hs, h⟩)))
theorem sameBits_w (p w : Int) : Instr.sameBits 10000 (wKey p w) (wKey p w) = true := by
 simp [Instr.sameBits, wKey]
theorem modify_key {es : Array MapEntry} {i : Nat} {e : MapEntry} {k : Value} (h : es[i]? = some e) (hk : e.key = k) : es.modify i (fun e => { e with key := k }) = es := by
 apply Array.ext_getElem?
 intro j
 rw [Array.getElem?_modify]
 by_cases hj : i = j
 ·subst hj; simp [h, ← hk]
 ·simp [hj]
theorem EntW.push {es : Array MapEntry} {m : Int → Int → Int} {cl : Nat} {p w : Int} (h : EntW es.toList m cl) (hn : ∀ e ∈ es.toList, e.key ≠ wKey p w) :
  EntW (es.push { key := wKey p w, val := .int .i64 0, born := cl }).toList m (cl + 1) := by
 rw [Array.toList_push]
 refine ⟨fun e he => ?_, fun p' w' hne => ?_, fun i j a b ha hb hab => ?_, fun e he => ?_, fun i j a b ha hb hab => ?_⟩
 ·rcases List.mem_append.1 he with he | he
  ·exact h.ent e he
  ·rcases List.mem_singleton.1 he with rfl
   exact ⟨p, w, rfl, by rw [h.zero p w hn]⟩
 ·exact h.zero p' w' fun e he => hne e (List.mem_append.2 (.inl he))
 ·rw [List.getElem?_append] at ha hb
  split at ha <;> split at hb
  ·exact h.keys i j a b ha hb hab
  ·rename_i h1 h2
   have : b = { key := wKey p w, val := .int .i64 0, born := cl } := by
    have := List.mem_of_getElem? hb; simpa using this
   subst this
   exact absurd hab (hn a (List.mem_of_getElem? ha))
  ·rename_i h1 h2
   have : a = { key := wKey p w, val := .int .i64 0, born := cl } := by
    have := List.mem_of_getElem? ha; simpa using this
   subst this
   exact absurd hab.symm (hn b (List.mem_of_getElem? hb))
  ·have h1 := (List.getElem?_eq_some_iff.1 ha).1
   have h2 := (List.getElem?_eq_some_iff.1 hb).1
   simp only [List.length_singleton, Array.length_toList] at *
   omega
 ·rcases List.mem_append.1 he with he | he
  ·have := h.old e he; omega
  ·rcases List.mem_singleton.1 he with rfl
   exact Nat.lt_succ_self _
 ·rw [List.getElem?_append] at ha hb
  split at ha <;> split at hb
  ·exact h.borns i j a b ha hb hab
  ·have : b = { key := wKey p w, val := .int .i64 0, born := cl } := by
    have := List.mem_of_getElem? hb; simpa using this
   subst this
   have := h.old a (List.mem_of_getElem? ha)
   simp only at hab
   omega
  ·have : a = { key := wKey p w, val := .int .i64 0, born := cl } := by
    have := List.mem_of_getElem? ha; simpa using this
   subst this
   have := h.old b (List.mem_of_getElem? hb)
   simp only at hab
   omega
  ·have h1 := (List.getElem?_eq_some_iff.1 ha).1
   have h2 := (List.getElem?_eq_some_iff.1 hb).1
   simp only [List.length_singleton, Array.length_toList] at *
   omega
theorem Ox.mapEntry {x y : Operand} {t kt et : TypeId} {v : Value} {m : Int → Int → Int} {p w : Int} {Hs : HList} (G : HList → HList) (hop : o.op = .mapEntry t x y) (hx : evalS st x = some v) (hy : evalS st y = some (wKey p w)) (ht : MapTyW P t kt et) (hG : Hole G) (hm : OwnW v m Hs)
  (hd : dstLt o.dst c.n) (hC : ∀ g Hs', OwnWE v m p w g Hs' → ∃ st', SubL (putS o.dst (.tuple #[.int .i64 (m p w), .int .i64 g]) st) st' ∧ C R (G Hs') st') : SemTo P B c o R (G Hs) st C :=
 Ox.mem (s := fun ρ => Instr.mapEntry t (ρ x) (ρ y)) (by rw [hop]; rfl) hd (fun ρ => by simp only [execOp, hop]) (fun ρ hρ => by
  rw [hρ x _ hx, hρ y _ hy]
  unfold Instr.mapEntry
  refine Val.bindOk (Val.underlying ht.ty) ?_
  obtain ⟨b, es, cl, rfl, rfl, he⟩ := hm
  refine SemOk.bind (SemOk.getObj rfl (.inr (hG.set (o' := .map es cl)).mem) ?_)
  obtain ⟨r, hr, hf⟩ := val_findW ht p w he
  refine Val.bindOk (ht.chk _ p w) (Val.bindOk hr ?_)
  rcases hf with ⟨rfl, hn⟩ | ⟨i, e, h1, h2, rfl⟩
  ·refine Val.bindOk ht.zero (SemOk.bind (SemOk.setObj rfl rfl hG.set (SemOk.pure ?_)))
   have := hC (cl : Int) [(b, .map (es.push { key := wKey p w, val := .int .i64 0, born := cl }) (cl + 1))] ⟨b, es.push { key := wKey p w, val := .int .i64 0, born := cl }, cl + 1, rfl, rfl, he.push hn, es.size, { key := wKey p w, val := .int .i64 0, born := cl }, by simp, rfl, rfl⟩
   rw [he.zero p w hn] at this
   exact this
  ·obtain ⟨p', w', hk, hv⟩ := he.ent e (List.mem_of_getElem? h1)
   obtain ⟨rfl, rfl⟩ := wKey_inj (hk.symm.trans h2)
   have h1' : es[i]? = some e := by simpa using h1
   have hst : Val P (Instr.keyThatStays (((es[i]?).map (·.key)).getD (wKey p' w')) (wKey p' w')) (wKey p' w') := by
    rw [h1']
    simp only [Option.map_some, Option.getD_some, hk, Instr.keyThatStays, sameBits_w, if_true]
    exact Val.pure _
   refine Val.bindOk hst (SemOk.bind (SemOk.setObj rfl rfl hG.set (SemOk.pure ?_)))
   rw [modify_key h1' hk, h1', hv]
   exact hC (e.born : Int) _ ⟨b, es, cl, rfl, rfl, he, i, e, h1', hk, rfl⟩)
theorem gl {α : Type} {a : Array α} {j : Nat} {x : α} (h : a.toList[j]? = some x) : a[j]? = some x := by rwa [Array.getElem?_toList] at h
theorem Val.asInt {k : IntKind} {z : Int} : Val P (asInt (.int k z)) z := Val.pure _
theorem Ox.entryStore {x y z : Operand} {t : TypeId} {v : Value} {m : Int → Int → Int} {p w g n : Int} {Hs : HList} (G : HList → HList) (hop : o.op = .entryStore t x y z) (hx : evalS st x = some v) (hy : evalS st y = some (.int .i64 g)) (hz : evalS st z = some (.int .i64 n)) (hG : Hole G) (hm : OwnWE v m p w g Hs)
  (hd : o.dst = none) (hst : SubL st st') (hC : ∀ Hs', OwnW v (updW m p w n) Hs' → C R (G Hs') st') : SemTo P B c o R (G Hs) st C :=
 Ox.memU (s := fun ρ => Instr.entryStore t (ρ x) (ρ y) (ρ z)) (by rw [hop]; rfl) hd (fun ρ => by simp only [execOp, hop]) hst (fun ρ hρ => by
  rw [hρ x _ hx, hρ y _ hy, hρ z _ hz]
  unfold Instr.entryStore
  obtain ⟨b, es, cl, rfl, rfl, he, i, e, hi, hk, rfl⟩ := hm
  refine SemOk.bind (SemOk.getObj rfl (.inr (hG.set (o' := .map es cl)).mem) ?_)
  refine Val.bindOk Val.asInt ?_
  have hfi : es.findIdx? (fun e' => (e'.born : Int) == (e.born : Int)) = some i := by
   obtain ⟨hlt, hge⟩ := Array.getElem?_eq_some_iff.1 hi
   rw [Array.findIdx?_eq_some_iff_getElem]
   refine ⟨hlt, by simp [hge], fun j hj => ?_⟩
   have hjl : j < es.size := by omega
   simp only [Bool.not_eq_true, beq_eq_false_iff_ne]
   intro hb
   have := he.borns j i es[j] e (by simp [hjl]) (by simpa using hi) (by exact_mod_cast hb)
   omega
  rw [hfi]
  refine SemOk.setObj rfl rfl hG.set (hC _ ⟨b, _, cl, rfl, rfl, ?_⟩)
  have hget : ∀ j a, (es.modify i fun e => { e with val := .int .i64 n })[j]? = some a → ∃ a0, es[j]? = some a0 ∧ a.key = a0.key ∧ a.born = a0.born ∧ a.val = if i = j then .int .i64 n else a0.val := by
   intro j a ha
   rw [Array.getElem?_modify] at ha
   by_cases hj : i = j
   ·subst hj
    rw [hi] at ha
    simp only [if_true, Option.map_some, Option.some.injEq] at ha
    subst ha
    exact ⟨e, hi, rfl, rfl, by simp⟩
   ·simp only [hj, if_false] at ha
    exact ⟨a, ha, rfl, rfl, by simp [hj]⟩
  have hmem : ∀ a ∈ (es.modify i fun e => { e with val := .int .i64 n }).toList, ∃ j, (es.modify i fun e => { e with val := .int .i64 n })[j]? = some a := fun a ha => by
   obtain ⟨j, hj⟩ := List.mem_iff_getElem?.1 ha
   exact ⟨j, gl hj⟩
  refine ⟨fun a ha => ?_, fun p' w' hne => ?_, fun j k a b' ha hb hab => ?_, fun a ha => ?_, fun j k a b' ha hb hab => ?_⟩
  ·obtain ⟨j, hj⟩ := hmem a ha
   obtain ⟨a0, h1, h2, h3, h4⟩ := hget j a hj
   obtain ⟨p', w', hk', hv'⟩ := he.ent a0 (by rw [← Array.mem_def]; exact Array.mem_of_getElem? h1)
   refine ⟨p', w', h2.trans hk', ?_⟩
   rw [h4]
   by_cases hij : i = j
   ·subst hij
    rw [hi] at h1; cases h1
    obtain ⟨rfl, rfl⟩ := wKey_inj (hk.symm.trans hk')
    simp [updW]
   ·rw [if_neg hij, hv']
    unfold updW
    rw [if_neg]
    rintro ⟨rfl, rfl⟩
    exact hij (he.keys i j e a0 (by simpa using hi) (by simpa using h1) (hk.trans hk'.symm))
  ·unfold updW
   by_cases hpw : p' = p ∧ w' = w
   ·obtain ⟨rfl, rfl⟩ := hpw
    exfalso
    obtain ⟨hlt, hge⟩ := Array.getElem?_eq_some_iff.1 hi
    refine hne { e with val := .int .i64 n } ?_ hk
    rw [← Array.mem_def]
    exact Array.mem_of_getElem? (i := i) (by rw [Array.getElem?_modify]; simp [hi])
   ·rw [if_neg hpw]
    refine he.zero p' w' fun a ha => ?_
    obtain ⟨j, hj⟩ := List.mem_iff_getElem?.1 ha
    have hj' : es[j]? = some a := by simpa using hj
    by_cases hij : i = j
    ·subst hij
     rw [hi] at hj'; cases hj'
     intro e2
     obtain ⟨rfl, rfl⟩ := wKey_inj (hk.symm.trans e2)
     exact hpw ⟨rfl, rfl⟩
    ·exact hne a (by rw [← Array.mem_def]; exact Array.mem_of_getElem? (i := j) (by rw [Array.getElem?_modify]; simp [hij, hj']))
  ·obtain ⟨a0, h1, h2, _⟩ := hget j a (gl ha)
   obtain ⟨b0, k1, k2, _⟩ := hget k b' (gl hb)
   exact he.keys j k a0 b0 (by simpa using h1) (by simpa using k1) (h2.symm.trans (hab.trans k2))
  ·obtain ⟨j, hj⟩ := hmem a ha
   obtain ⟨a0, h1, h2, h3, h4⟩ := hget j a hj
   rw [h3]
   exact he.old a0 (by rw [← Array.mem_def]; exact Array.mem_of_getElem? h1)
  ·obtain ⟨a0, h1, _, h3, _⟩ := hget j a (gl ha)
   obtain ⟨b0, k1, _, k3, _⟩ := hget k b' (gl hb)
   exact he.borns j k a0 b0 (by simpa using h1) (by simpa using k1) (h3.symm.trans (hab.trans k3)))
end
end Go.Lg
namespace Go.Lg
open Go.Conc
class Fields (P : Program) where
 off : Nat → Nat → Option Nat
 ok : ∀ s f n, off s f = some n → FieldAt P s f n
def pureV (fo : Nat → Nat → Option Nat) (st : St) (o : Oper) : Option Value :=
 match o.op with
 | .move x => evalS st x
 | .assign x => evalS st x
 | .pick x y z => match evalS st x with
  | some (.bool true) => evalS st y
  | some (.bool false) => evalS st z
  | _ => none
 | .extract x j => match evalS st x with
  | some (.tuple vs) => vs[j]?
  | _ => none
 | .unOp .not _ x => match evalS st x with
  | some (.bool a) => some (.bool (!a))
  | _ => none
 | .binOp bo _ x y _ => match evalS st x, evalS st y with
  | some (.int kd a), some (.int kd' b) => if kd = kd' then (match cmpI bo a b with
   | some r => some (.bool r)
   | none => match arI bo a b with
    | some z => some (.int kd (kd.wrap z))
    | none => none) else none
  | _, _ => none
 | .fieldAddr s x f => match evalS st x, fo s f with
  | some (.pointer (some ⟨b, n, none⟩)), some off => some (.pointer (some ⟨b, n + off, none⟩))
  | _, _ => none
 | _ => none
section
variable {P : Program} [Fields P] {B : Base} {main : Bool} {𝒥 : Jd P B main} {c : Ctx} {R : RMap} {H : HList} {st st' : St} {o : Oper} {C : RMap → HList → St → Prop} {k : List Item}
theorem pureV_ok {v : Value} (h : pureV (Fields.off P) st o = some v) (hd : dstLt o.dst c.n) (hs : SubL (putS o.dst v st) st') (hC : C R H st') : SemTo P B c o R H st C := by
 unfold pureV at h
 split at h
 ·rename_i x hop; exact Ox.move hop h hd hs hC
 ·rename_i x hop; exact Ox.assign hop h hd hs hC
 ·rename_i x y z hop
  split at h
  ·rename_i hx; exact Ox.pick_true hop hx h hd hs hC
  ·rename_i hx; exact Ox.pick_false hop hx h hd hs hC
  ·cases h
 ·rename_i x j hop
  split at h
  ·rename_i hx; exact Ox.extract hop hx h hd hs hC
  ·cases h
 ·rename_i t x hop
  split at h
  ·rename_i hx; cases h; exact Ox.not hop hx hd hs hC
  ·cases h
 ·rename_i bo t x y u hop
  split at h
  ·rename_i kd a kd' b hx hy
   split at h
   ·rename_i e; subst e
    split at h
    ·rename_i r hr; cases h; exact Ox.cmp hop hx hy hr hd hs hC
    ·split at h
     ·rename_i z hz; cases h; exact Ox.ar hop hx hy hz hd hs hC
     ·cases h
   ·cases h
  ·cases h
 ·rename_i s x f hop
  split at h
  ·rename_i hx hf; cases h; exact Ox.fieldAddr hop hx (Fields.ok s f _ hf) hd hs hC
  ·cases h
 ·cases h
def stepV (fo : Nat → Nat → Option Nat) (ops : Array Oper) (n : Nat) (st : St) (i : Nat) : Option St :=
 match ops[i]? with
 | none => none
 | some o => match wantedS ops st o with
  | some true => match pureV fo st o, o.dst with
   | some v, some d => if Nat.blt d n = true then some ((d, v) :: st) else none
   | _, _ => none
  | some false => match isDefer o.op, o.dst with
   | false, some d => if Nat.blt d n = true then some ((d, undef) :: st) else none
   | false, none => some st
   | _, _ => none
  | none => none
def runV (fo : Nat → Nat → Option Nat) (ops : Array Oper) (n : Nat) : List Nat → St → Option St
 | [], st => some st
 | i :: is, st => match stepV fo ops n st i with
  | some st' => runV fo ops n is st'
  | none => none
theorem stepV_cases {ops : Array Oper} {n i : Nat} {fo : Nat → Nat → Option Nat} (h : stepV fo ops n st i = some st') : ∃ o, ops[i]? = some o ∧
  ((wantedS ops st o = some true ∧ ∃ v d, pureV fo st o = some v ∧ o.dst = some d ∧ dstLt (some d) n ∧ st' = (d, v) :: st) ∨
   (wantedS ops st o = some false ∧ isDefer o.op = false ∧ dstLt o.dst n ∧ st' = putS o.dst undef st)) := by
 unfold stepV at h
 split at h
 ·cases h
 ·rename_i o ho
  refine ⟨o, ho, ?_⟩
  split at h
  ·rename_i hw
   split at h
   ·rename_i v d hv hd
    split at h
    ·rename_i hl; cases h; exact .inl ⟨hw, v, d, hv, hd, hl, rfl⟩
    ·cases h
   ·cases h
  ·rename_i hw
   split at h
   ·rename_i d hdf hd
    split at h
    ·rename_i hl; cases h; exact .inr ⟨hw, hdf, by rw [hd]; exact hl, by rw [hd]; rfl⟩
    ·cases h
   ·rename_i hdf hd
    cases h; exact .inr ⟨hw, hdf, by rw [hd]; rfl, by rw [hd]; rfl⟩
   ·cases h
  ·cases h
theorem At.run {ops : Array Oper} (hk : (c.kind == CallKind.early) = false) : ∀ {is rest : List Nat} {st : St}, runV (Fields.off P) ops c.n is st = some st' → At 𝒥 c R H st' (.inRegion ops rest :: k) → At 𝒥 c R H st (.inRegion ops (is ++ rest) :: k)
 | [], rest, st, h, ha => by cases h; exact ha
 | i :: is, rest, st, h, ha => by
  unfold runV at h
  split at h
  ·rename_i st1 h1
   have ih := At.run hk h ha
   obtain ⟨o, ho, ⟨hw, v, d, hv, hd, hl, rfl⟩ | ⟨hw, hdf, hl, rfl⟩⟩ := stepV_cases h1
   ·exact At.stepS ho hw hk (pureV_ok hv (by rw [hd]; exact hl) (by rw [hd]; exact SubL.refl _) ih)
   ·exact At.unwanted ho hw hl (SubL.refl _) ih
  ·cases h
theorem At.vs (m : Nat) {ops : Array Oper} {is is' : List Nat} (h : runV (Fields.off P) ops c.n (is.take m) st = some st') (hr : is.drop m = is') (ha : At 𝒥 c R H st' (.inRegion ops is' :: k)) (hk : (c.kind == CallKind.early) = false := by rfl) : At 𝒥 c R H st (.inRegion ops is :: k) := by
 subst hr
 have := At.run (rest := is.drop m) hk h ha
 rwa [List.take_append_drop] at this
def depF (ops : Array Oper) (rem : List Nat) (i : Nat) : Nat → List Nat → List Nat
 | 0, D => D
 | n + 1, D => depF ops rem i n (rem.filter fun j => j != i && (D.contains j || match ops[j]? with | some o => o.after.any fun e => Region.binds .any e && (e.on == i || D.contains e.on) | none => false))
def depOf (ops : Array Oper) (rem : List Nat) (i : Nat) : List Nat := depF ops rem i rem.length []
def ckV (ops : Array Oper) : List Nat → List Nat → Bool
 | _, [] => true
 | rem, i :: is => decide rem.Nodup && takeOk ops rem i (depOf ops rem i) && ckV ops (rem.erase i) is
theorem Any.vs' {S : Nat → HList} {ops : Array Oper} {n : Nat} : ∀ (is : List Nat) {rem : List Nat} {st : St}, runV (Fields.off P) ops c.n is st = some st' → ckV ops rem is = true → Any 𝒥 c S ops k n (is.foldl List.erase rem) R H st' → Any 𝒥 c S ops k (n + is.length) rem R H st
 | [], rem, st, h, _, ha => by cases h; exact ha
 | i :: is, rem, st, h, hc, ha => by
  unfold runV at h
  split at h
  ·rename_i st1 h1
   simp only [ckV, Bool.and_eq_true, decide_eq_true_eq] at hc
   obtain ⟨⟨hnd, htk⟩, hc⟩ := hc
   have ih := Any.vs' is h hc ha
   obtain ⟨o, ho, ⟨hw, v, d, hv, hd, hl, rfl⟩ | ⟨hw, hdf, hl, rfl⟩⟩ := stepV_cases h1
   ·exact Any.takeS (N := []) _ ho hd hw htk (fun _ _ _ _ p hp => by cases hp) (fun p hp => by cases hp) (fun R' H' _ _ => pureV_ok hv (by rw [hd]; exact hl) (.one hd) ⟨rfl, rfl, rfl⟩) (SubL.refl _) hnd rfl ih
   ·exact Any.takeIdle _ ho htk hdf hl hw (SubL.refl _) hnd rfl ih
  ·cases h
theorem Any.vs {S : Nat → HList} {ops : Array Oper} {n : Nat} (m : Nat) (is : List Nat) {rem : List Nat} {st : St} (h : runV (Fields.off P) ops c.n is st = some st') (ha : Any 𝒥 c S ops k n (is.foldl List.erase rem) R H st') (hc : ckV ops rem is = true := by decide +kernel) (hm : is.length = m := by rfl) : Any 𝒥 c S ops k (n + m) rem R H st := by
 subst hm
 exact Any.vs' is h hc ha
end
section
variable {P : Program} {B : Base} {main : Bool} {𝒥 : Jd P B main} {c : Ctx} {R : RMap} {H : HList} {st st' : St} {o : Oper} {C : RMap → HList → St → Prop} {k : List Item}
theorem At.rg (is : List Nat) {id : Nat} {ops : Array Oper} (h : At 𝒥 c R H st (.inRegion ops is :: k)) (hn : ops.size = is.length := by rfl) (his : List.range is.length = is := by rfl) : At 𝒥 c R H st (.code (.region id ops false) :: k) := At.regionIs hn his h
theorem At.dw (is : List Nat) {id : Nat} {ops : Array Oper} (hm : P.follows .mixedOrders = true) (h : Any 𝒥 c (fun _ => H) ops k is.length is R H st) (hk : (c.kind == CallKind.early) = false := by rfl) (hb : backward ops = true := by decide +kernel) (hn : ops.size = is.length := by rfl) (his : List.range is.length = is := by rfl) : At 𝒥 c R H st (.code (.region id ops true) :: k) := At.drawH hm hk hb hn his h
theorem Any.tk (i : Nat) {N : HList} {ops : Array Oper} {n d : Nat} {rem : List Nat} {v : Value} (ho : ops[i]? = some o) (hS : ∀ p ∈ N, p ∈ H) (hf : ∀ R' H', RLe R R' → (∀ p ∈ N, p ∈ H') → SemTo P B c o R' H' st fun R1 H1 st1 => R1 = R' ∧ H1 = H' ∧ st1 = [(d, v)])
  (h : Any 𝒥 c (fun _ => N) ops k n (rem.erase i) R H ((d, v) :: st)) (hdst : o.dst = some d := by rfl) (hw : wantedS ops st o = some true := by rfl) (htk : takeOk ops rem i (depOf ops rem i) = true := by decide +kernel) (hnd : rem.Nodup := by decide) : Any 𝒥 c (fun _ => N) ops k (n + 1) rem R H st :=
 Any.takeS _ ho hdst hw htk (fun _ _ _ _ _ hp => hp) hS hf (SubL.refl _) hnd rfl h
theorem At.cv {ops : Array Oper} {i d : Nat} {rest : List Nat} {ca : Call} {x : Operand} {f : FuncId} {first captured : Array Value} {vs : List Value} {args : Array Value} {Post : Value → RMap → HList → Prop} (he : Enters P f) (hf : FnOk 𝒥 f args R H Post)
  (h : ∀ v R' H', Post v R' H' → At 𝒥 c R' H' ((d, v) :: st) (.inRegion ops rest :: k))
  (ho : ops[i]? = some o := by rfl) (hw : wantedS ops st o = some true := by rfl) (hk : (c.kind == CallKind.early) = false := by rfl) (hop : o.op = .call ca := by rfl) (hc : ca.callee = .value x := by rfl) (hx : evalS st x = some (.func (.func f) first captured) := by rfl)
  (ha : argsS st ca.args.toList = some vs := by rfl) (hargs : first ++ vs.toArray ++ captured = args := by rfl) (hd : o.dst = some d := by rfl) (hl : Nat.blt d c.n = true := by rfl) : At 𝒥 c R H st (.inRegion ops (i :: rest) :: k) :=
 At.step ho hw hk (Ox.callV hop hc hx ha he hargs (by rw [hd]; exact hl) (hf.mono fun v R' H' hp => ⟨_, .put hd, h v R' H' hp⟩))
theorem Any.cv (i : Nat) {S : Nat → HList} {ops : Array Oper} {n d : Nat} {rem : List Nat} {ca : Call} {x : Operand} {f : FuncId} {first captured : Array Value} {vs : List Value} {args : Array Value} {Post : Value → RMap → HList → Prop} (he : Enters P f) (hf : FnOk 𝒥 f args R H Post)
  (h : ∀ v R' H', Post v R' H' → RLe R R' ∧ (∀ p ∈ S i, p ∈ H → p ∈ H') ∧ Any 𝒥 c S ops k n (rem.erase i) R' H' ((d, v) :: st))
  (ho : ops[i]? = some o := by rfl) (hw : wantedS ops st o = some true := by rfl) (hop : o.op = .call ca := by rfl) (hc : ca.callee = .value x := by rfl) (hx : evalS st x = some (.func (.func f) first captured) := by rfl)
  (ha : argsS st ca.args.toList = some vs := by rfl) (hargs : first ++ vs.toArray ++ captured = args := by rfl) (hd : o.dst = some d := by rfl) (hl : Nat.blt d c.n = true := by rfl) (hrd : rem.filter (readyR ops rem) = [i] := by decide +kernel) (hnd : rem.Nodup := by decide) : Any 𝒥 c S ops k (n + 1) rem R H st :=
 Any.one ho hrd hw hnd rfl (Ox.callV hop hc hx ha he hargs (by rw [hd]; exact hl) (hf.mono fun v R' H' hp => ⟨_, .put hd, h v R' H' hp⟩))
theorem Any.on (i : Nat) {S : Nat → HList} {ops : Array Oper} {n : Nat} {rem : List Nat} (ho : ops[i]? = some o) (hw : wantedS ops st o = some true)
  (h : OpTo 𝒥 c o R H st fun R' H' st' => RLe R R' ∧ (∀ p ∈ S i, p ∈ H → p ∈ H') ∧ Any 𝒥 c S ops k n (rem.erase i) R' H' st') (hrd : rem.filter (readyR ops rem) = [i] := by decide +kernel) (hnd : rem.Nodup := by decide) : Any 𝒥 c S ops k (n + 1) rem R H st := Any.one ho hrd hw hnd rfl h
theorem At.ld {ops : Array Oper} {i d : Nat} {rest : List Nat} {x : Operand} {t : TypeId} {b off : Nat} {v : Value} (ht : OneTy P t) (hc : Cell R H ⟨b, off, none⟩ v) (h : At 𝒥 c R H ((d, v) :: st) (.inRegion ops rest :: k))
  (ho : ops[i]? = some o := by rfl) (hw : wantedS ops st o = some true := by rfl) (hk : (c.kind == CallKind.early) = false := by rfl) (hop : o.op = .load t x := by rfl) (hx : evalS st x = some (.pointer (some ⟨b, off, none⟩)) := by rfl) (hd : o.dst = some d := by rfl) (hl : Nat.blt d c.n = true := by rfl) : At 𝒥 c R H st (.inRegion ops (i :: rest) :: k) :=
 At.stepS ho hw hk (Ox.load1 hop hx ht hc (by rw [hd]; exact hl) (.put hd) h)
theorem At.kn (t : Nat) {x b : Bool} {todo : List Item} (hb : x = b) (h : At 𝒥 c R H ((t, .bool b) :: st) todo) (hx : st.lookup t = some (.bool x) := by rfl) : At 𝒥 c R H st todo := At.known hx hb h
theorem At.s {ops : Array Oper} {i : Nat} {rest : List Nat} (ho : ops[i]? = some o) (hw : wantedS ops st o = some true) (h : SemTo P B c o R H st fun R' H' st' => At 𝒥 c R' H' st' (.inRegion ops rest :: k)) (hk : (c.kind == CallKind.early) = false := by rfl) : At 𝒥 c R H st (.inRegion ops (i :: rest) :: k) := At.stepS ho hw hk h
end
abbrev rg1 : List Nat := [0]
abbrev rg2 : List Nat := [0, 1]
abbrev rg3 : List Nat := [0, 1, 2]
abbrev rg4 : List Nat := [0, 1, 2, 3]
abbrev rg5 : List Nat := [0, 1, 2, 3, 4]
abbrev rg6 : List Nat := [0, 1, 2, 3, 4, 5]
abbrev rg7 : List Nat := [0, 1, 2, 3, 4, 5, 6]
abbrev rg8 : List Nat := [0, 1, 2, 3, 4, 5, 6, 7]
abbrev rg9 : List Nat := [0, 1, 2, 3, 4, 5, 6, 7, 8]
abbrev rg10 : List Nat := [0, 1, 2, 3, 4, 5, 6, 7, 8, 9]
abbrev rg11 : List Nat := [0, 1, 2, 3, 4, 5, 6, 7, 8, 9, 10]
abbrev rg12 : List Nat := [0, 1, 2, 3, 4, 5, 6, 7, 8, 9, 10, 11]
abbrev rg13 : List Nat := [0, 1, 2, 3, 4, 5, 6, 7, 8, 9, 10, 11, 12]
abbrev rg14 : List Nat := [0, 1, 2, 3, 4, 5, 6, 7, 8, 9, 10, 11, 12, 13]
abbrev rg15 : List Nat := [0, 1, 2, 3, 4, 5, 6, 7, 8, 9, 10, 11, 12, 13, 14]
abbrev rg16 : List Nat := [0, 1, 2, 3, 4, 5, 6, 7, 8, 9, 10, 11, 12, 13, 14, 15]
abbrev rg18 : List Nat := [0, 1, 2, 3, 4, 5, 6, 7, 8, 9, 10, 11, 12, 13, 14, 15, 16, 17]
abbrev rg19 : List Nat := [0, 1, 2, 3, 4, 5, 6, 7, 8, 9, 10, 11, 12, 13, 14, 15, 16, 17, 18]
abbrev rg20 : List Nat := [0, 1, 2, 3, 4, 5, 6, 7, 8, 9, 10, 11, 12, 13, 14, 15, 16, 17, 18, 19]
abbrev rg23 : List Nat := [0, 1, 2, 3, 4, 5, 6, 7, 8, 9, 10, 11, 12, 13, 14, 15, 16, 17, 18, 19, 20, 21, 22]
abbrev rg26 : List Nat := [0, 1, 2, 3, 4, 5, 6, 7, 8, 9, 10, 11, 12, 13, 14, 15, 16, 17, 18, 19, 20, 21, 22, 23, 24, 25]
abbrev rg27 : List Nat := [0, 1, 2, 3, 4, 5, 6, 7, 8, 9, 10, 11, 12, 13, 14, 15, 16, 17, 18, 19, 20, 21, 22, 23, 24, 25, 26]
abbrev rg29 : List Nat := [0, 1, 2, 3, 4, 5, 6, 7, 8, 9, 10, 11, 12, 13, 14, 15, 16, 17, 18, 19, 20, 21, 22, 23, 24, 25, 26, 27, 28]
abbrev rg32 : List Nat := [0, 1, 2, 3, 4, 5, 6, 7, 8, 9, 10, 11, 12, 13, 14, 15, 16, 17, 18, 19, 20, 21, 22, 23, 24, 25, 26, 27, 28, 29, 30, 31]
abbrev rg34 : List Nat := [0, 1, 2, 3, 4, 5, 6, 7, 8, 9, 10, 11, 12, 13, 14, 15, 16, 17, 18, 19, 20, 21, 22, 23, 24, 25, 26, 27, 28, 29, 30, 31, 32, 33]
abbrev rg37 : List Nat := [0, 1, 2, 3, 4, 5, 6, 7, 8, 9, 10, 11, 12, 13, 14, 15, 16, 17, 18, 19, 20, 21, 22, 23, 24, 25, 26, 27, 28, 29, 30, 31, 32, 33, 34, 35, 36]
abbrev rg38 : List Nat := [0, 1, 2, 3, 4, 5, 6, 7, 8, 9, 10, 11, 12, 13, 14, 15, 16, 17, 18, 19, 20, 21, 22, 23, 24, 25, 26, 27, 28, 29, 30, 31, 32, 33, 34, 35, 36, 37]
abbrev rg41 : List Nat := [0, 1, 2, 3, 4, 5, 6, 7, 8, 9, 10, 11, 12, 13, 14, 15, 16, 17, 18, 19, 20, 21, 22, 23, 24, 25, 26, 27, 28, 29, 30, 31, 32, 33, 34, 35, 36, 37, 38, 39, 40]
abbrev rg44 : List Nat := [0, 1, 2, 3, 4, 5, 6, 7, 8, 9, 10, 11, 12, 13, 14, 15, 16, 17, 18, 19, 20, 21, 22, 23, 24, 25, 26, 27, 28, 29, 30, 31, 32, 33, 34, 35, 36, 37, 38, 39, 40, 41, 42, 43]
end Go.Lg
namespace Go.Lg
section
variable {α : Type} {a b₁ b₂ b₃ b₄ b₅ b₆ b₇ b₈ x : α} {l l₁ l₂ : List α}
theorem so (h : List.Sublist l₁ l₂) : List.Sublist l₁ (a :: l₂) := h.cons a
theorem sk (h : List.Sublist l₁ l₂) : List.Sublist (a :: l₁) (a :: l₂) := List.Sublist.cons_cons a h
theorem sr : List.Sublist l l := .refl _
theorem sn : List.Sublist [] l := List.nil_sublist _
theorem su (h : List.Sublist l₁ l₂) : ∀ p ∈ l₁, p ∈ l₂ := fun _ hp => h.subset hp
theorem pp : ∀ p ∈ l, p ∈ l := fun _ h => h
theorem z0 : x ∈ x :: l := .head _
theorem z1 : x ∈ a :: x :: l := .tail _ z0
theorem z2 : x ∈ a :: b₁ :: x :: l := .tail _ z1
theorem z3 : x ∈ a :: b₁ :: b₂ :: x :: l := .tail _ z2
theorem z4 : x ∈ a :: b₁ :: b₂ :: b₃ :: x :: l := .tail _ z3
theorem z5 : x ∈ a :: b₁ :: b₂ :: b₃ :: b₄ :: x :: l := .tail _ z4
theorem z6 : x ∈ a :: b₁ :: b₂ :: b₃ :: b₄ :: b₅ :: x :: l := .tail _ z5
theorem z7 : x ∈ a :: b₁ :: b₂ :: b₃ :: b₄ :: b₅ :: b₆ :: x :: l := .tail _ z6
end
section
variable {P : Program} {B : Base} {main : Bool} {𝒥 : Jd P B main} {c : Ctx} {R : RMap} {H : HList} {st st' : St} {o : Oper} {k : List Item}
theorem sq {x y : Code} (h : At 𝒥 c R H st (.code x :: .code y :: k)) : At 𝒥 c R H st (.code (.seq x y) :: k) := At.seq h
theorem er {ops : Array Oper} (h : At 𝒥 c R H st k) : At 𝒥 c R H st (.inRegion ops [] :: k) := At.endRegion h
theorem es {ops : Array Oper} {x y : Code} (h : At 𝒥 c R H st (.code x :: .code y :: k)) : At 𝒥 c R H st (.inRegion ops [] :: .code (.seq x y) :: k) := At.endRegion (At.seq h)
theorem sg (is : List Nat) {id : Nat} {ops : Array Oper} {y : Code} (h : At 𝒥 c R H st (.inRegion ops is :: .code y :: k)) (hn : ops.size = is.length := by rfl) (his : List.range is.length = is := by rfl) : At 𝒥 c R H st (.code (.seq (.region id ops false) y) :: k) := At.seq (At.rg is h hn his)
theorem nx (is : List Nat) {id : Nat} {os ops : Array Oper} {y : Code} (h : At 𝒥 c R H st (.inRegion ops is :: .code y :: k)) (hn : ops.size = is.length := by rfl) (his : List.range is.length = is := by rfl) : At 𝒥 c R H st (.inRegion os [] :: .code (.seq (.region id ops false) y) :: k) := At.endRegion (sg is h hn his)
theorem sp (h : At 𝒥 c R H st k) : At 𝒥 c R H st (.code .skip :: k) := At.skip h
theorem vs [Fields P] (m : Nat) {ops : Array Oper} {is is' : List Nat} (ha : At 𝒥 c R H st' (.inRegion ops is' :: k)) (h : runV (Fields.off P) ops c.n (is.take m) st = some st' := by rfl) (hr : is.drop m = is' := by rfl) (hk : (c.kind == CallKind.early) = false := by rfl) : At 𝒥 c R H st (.inRegion ops is :: k) := At.vs m h hr ha hk
theorem ld (j : Nat) {ops : Array Oper} {i d : Nat} {rest : List Nat} {x : Operand} {t e : TypeId} {b : Nat} {fz : Nat × Nat} {L : List Value} {v : Value} (ht : OneTy P t) (hm : (b, Obj.cells L.toArray e fz) ∈ H) (h : At 𝒥 c R H ((d, v) :: st) (.inRegion ops rest :: k)) (hj : L[j]? = some v := by rfl)
  (ho : ops[i]? = some o := by rfl) (hw : wantedS ops st o = some true := by rfl) (hk : (c.kind == CallKind.early) = false := by rfl) (hop : o.op = .load t x := by rfl) (hx : evalS st x = some (.pointer (some ⟨b, 0 + j, none⟩)) := by rfl) (hd : o.dst = some d := by rfl) (hl : Nat.blt d c.n = true := by rfl) : At 𝒥 c R H st (.inRegion ops (i :: rest) :: k) :=
 At.ld ht ((CellsAt.box hm).one hj) h ho hw hk hop hx hd hl
theorem lN (vs : List Value) (j n : Nat) {ops : Array Oper} {i d : Nat} {rest : List Nat} {x : Operand} {t e : TypeId} {b : Nat} {fz : Nat × Nat} {L : List Value} {m : Nat} (ht : AggTy P t m) (hm : (b, Obj.cells L.toArray e fz) ∈ H) (h : At 𝒥 c R H ((d, .agg vs.toArray) :: st) (.inRegion ops rest :: k)) (hv : (L.drop j).take n = vs := by rfl)
  (ho : ops[i]? = some o := by rfl) (hw : wantedS ops st o = some true := by rfl) (hk : (c.kind == CallKind.early) = false := by rfl) (hop : o.op = .load t x := by rfl) (hx : evalS st x = some (.pointer (some ⟨b, 0 + j, none⟩)) := by rfl) (hn : vs.length = m := by rfl) (hd : o.dst = some d := by rfl) (hl : Nat.blt d c.n = true := by rfl) : At 𝒥 c R H st (.inRegion ops (i :: rest) :: k) :=
 At.s ho hw (Ox.loadN hop hx ht hn ((CellsAt.box hm).part hv) (by rw [hd]; exact hl) (.put hd) h) hk
theorem bx {ops : Array Oper} {i d : Nat} {rest : List Nat} {x : Operand} {t : TypeId} {vs : Array Value} (h : ∀ b, At 𝒥 c R ((b, .cells vs t) :: H) ((d, .pointer (some ⟨b, 0, none⟩)) :: st) (.inRegion ops rest :: k))
  (ho : ops[i]? = some o := by rfl) (hw : wantedS ops st o = some true := by rfl) (hk : (c.kind == CallKind.early) = false := by rfl) (hop : o.op = .box t x := by rfl) (hx : evalS st x = some (.agg vs) := by rfl) (hd : o.dst = some d := by rfl) (hl : Nat.blt d c.n = true := by rfl) : At 𝒥 c R H st (.inRegion ops (i :: rest) :: k) :=
 At.s ho hw (Ox.boxN hop hx (by rw [hd]; exact hl) fun b _ _ => ⟨_, .put hd, h b⟩) hk
theorem sc {α : Type} {t : Bool} {a b : Option α} {r : α} {x : Operand} {th el : Code} (hM : sel t a b = some r) (h1 : t = true → a = some r → At 𝒥 c R H st (.code th :: k)) (h2 : t = false → b = some r → At 𝒥 c R H st (.code el :: k)) (hx : evalS st x = some (.bool t) := by rfl) : At 𝒥 c R H st (.code (.cond x th el) :: k) :=
 selC hM (fun h hM => At.condT hx h (h1 h hM)) (fun h hM => At.condF hx h (h2 h hM))
theorem ls {α : Type} {K : CRel α} {n : Nat} {ops : Array Oper} {i d : Nat} {rest : List Nat} {x : Operand} {t e : TypeId} {v : Value} {xs : List α} (hl : SlR K n R v xs) (ht : P.underlying t = some (.slice e)) (h : At 𝒥 c R H ((d, .int .i64 (xs.length : Int)) :: st) (.inRegion ops rest :: k))
  (ho : ops[i]? = some o := by rfl) (hw : wantedS ops st o = some true := by rfl) (hk : (c.kind == CallKind.early) = false := by rfl) (hop : o.op = .call ⟨.builtin .len, #[x], #[t]⟩ := by rfl) (hx : evalS st x = some v := by rfl) (hd : o.dst = some d := by rfl) (hn : Nat.blt d c.n = true := by rfl) : At 𝒥 c R H st (.inRegion ops (i :: rest) :: k) :=
 At.s ho hw (Ox.lenS hop hx hl ht (by rw [hd]; exact hn) (.put hd) h) hk
theorem lr {α : Type} {K : CRel α} {n : Nat} {ops : Array Oper} {i d : Nat} {rest : List Nat} {x : Operand} {t e : TypeId} {v : Value} {xs : List α} {H0 : HList} (hl : RdS K n R H0 v xs) (ht : P.underlying t = some (.slice e)) (h : At 𝒥 c R H ((d, .int .i64 (xs.length : Int)) :: st) (.inRegion ops rest :: k))
  (ho : ops[i]? = some o := by rfl) (hw : wantedS ops st o = some true := by rfl) (hk : (c.kind == CallKind.early) = false := by rfl) (hop : o.op = .call ⟨.builtin .len, #[x], #[t]⟩ := by rfl) (hx : evalS st x = some v := by rfl) (hd : o.dst = some d := by rfl) (hn : Nat.blt d c.n = true := by rfl) : At 𝒥 c R H st (.inRegion ops (i :: rest) :: k) :=
 At.s ho hw (Ox.lenR hop hx hl ht (by rw [hd]; exact hn) (.put hd) h) hk
theorem rt {fr : Frame} {cs : List Frame} {f : FuncId} {n : Nat} {fn : Func} {vs : List Value} {H' : HList} (hf : P.funcs[f]? = some fn) (hr : ResOk P R H st fn.results.toList vs) (hs : List.Sublist H' H) (hj : 𝒥.J R H' (gor (fr.finish (resV vs)) cs)) : At 𝒥 ⟨f, .normal, none, n, [], fr :: cs⟩ R H st (.code .ret :: k) :=
 At.retR hf hr (J.drop hs hj)
theorem ts (i : Nat) {ops : Array Oper} {n d : Nat} {rem : List Nat} {S : Nat → HList} {v : Value} {N : HList} (D : List Nat) (ho : ops[i]? = some o) (hSS : ∀ j ∈ rem, j ≠ i → j ∉ D → ∀ p ∈ N, p ∈ S j) (hS : ∀ p ∈ N, p ∈ H)
  (hf : ∀ R' H', RLe R R' → (∀ p ∈ N, p ∈ H') → SemTo P B c o R' H' st fun R1 H1 st1 => R1 = R' ∧ H1 = H' ∧ st1 = [(d, v)]) (h : Any 𝒥 c S ops k n (rem.erase i) R H ((d, v) :: st))
  (hdst : o.dst = some d := by rfl) (hw : wantedS ops st o = some true := by rfl) (htk : takeOk ops rem i D = true := by decide +kernel) (hnd : rem.Nodup := by decide) : Any 𝒥 c S ops k (n + 1) rem R H st :=
 Any.takeS D ho hdst hw htk hSS hS hf (SubL.refl _) hnd rfl h
theorem tl (i j : Nat) {ops : Array Oper} {n d : Nat} {rem : List Nat} {x : Operand} {t e : TypeId} {b : Nat} {fz : Nat × Nat} {L : List Value} {v : Value} (ht : OneTy P t) (hm : (b, Obj.cells L.toArray e fz) ∈ H) (h : Any 𝒥 c (fun _ => H) ops k n (rem.erase i) R H ((d, v) :: st)) (hj : L[j]? = some v := by rfl)
  (ho : ops[i]? = some o := by rfl) (hop : o.op = .load t x := by rfl) (hx : evalS st x = some (.pointer (some ⟨b, 0 + j, none⟩)) := by rfl) (hdst : o.dst = some d := by rfl) (hl : Nat.blt d c.n = true := by rfl) (hw : wantedS ops st o = some true := by rfl) (htk : takeOk ops rem i (depOf ops rem i) = true := by decide +kernel) (hnd : rem.Nodup := by decide) : Any 𝒥 c (fun _ => H) ops k (n + 1) rem R H st :=
 Any.tk i ho pp (fun _ _ _ hS => Ox.load1 hop hx ht ((CellsAt.box (hS _ hm)).one hj) (by rw [hdst]; exact hl) (.one hdst) ⟨rfl, rfl, rfl⟩) h hdst hw htk hnd
theorem tN (i : Nat) (vs : List Value) (j m : Nat) {ops : Array Oper} {n d : Nat} {rem : List Nat} {x : Operand} {t e : TypeId} {b : Nat} {fz : Nat × Nat} {L : List Value} {q : Nat} (ht : AggTy P t q) (hm : (b, Obj.cells L.toArray e fz) ∈ H) (h : Any 𝒥 c (fun _ => H) ops k n (rem.erase i) R H ((d, .agg vs.toArray) :: st)) (hv : (L.drop j).take m = vs := by rfl)
  (ho : ops[i]? = some o := by rfl) (hop : o.op = .load t x := by rfl) (hx : evalS st x = some (.pointer (some ⟨b, 0 + j, none⟩)) := by rfl) (hq : vs.length = q := by rfl) (hdst : o.dst = some d := by rfl) (hl : Nat.blt d c.n = true := by rfl) (hw : wantedS ops st o = some true := by rfl) (htk : takeOk ops rem i (depOf ops rem i) = true := by decide +kernel) (hnd : rem.Nodup := by decide) : Any 𝒥 c (fun _ => H) ops k (n + 1) rem R H st :=
 Any.tk i ho pp (fun _ _ _ hS => Ox.loadN hop hx ht hq ((CellsAt.box (hS _ hm)).part hv) (by rw [hdst]; exact hl) (.one hdst) ⟨rfl, rfl, rfl⟩) h hdst hw htk hnd
theorem tw (i j : Nat) {S : Nat → HList} {ops : Array Oper} {n : Nat} {rem : List Nat} {a b : Oper} (h1 : OpTo 𝒥 c a R H st fun R' H' st' => RLe R R' ∧ (∀ p ∈ S i, p ∈ H → p ∈ H') ∧ Any 𝒥 c S ops k n (rem.erase i) R' H' st')
  (h2 : OpTo 𝒥 c b R H st fun R' H' st' => RLe R R' ∧ (∀ p ∈ S j, p ∈ H → p ∈ H') ∧ Any 𝒥 c S ops k n (rem.erase j) R' H' st') (ha : ops[i]? = some a := by rfl) (hb : ops[j]? = some b := by rfl) (hrd : rem.filter (readyR ops rem) = [i, j] := by decide +kernel) (hwa : wantedS ops st a = some true := by rfl) (hwb : wantedS ops st b = some true := by rfl) (hnd : rem.Nodup := by decide) : Any 𝒥 c S ops k (n + 1) rem R H st :=
 Any.two' ha hb hrd hwa hwb hnd rfl rfl h1 h2
theorem ka {H X : HList} : ∀ p ∈ H, p ∈ X → p ∈ H := fun _ h _ => h
theorem kp {R : RMap} {H X : HList} {C : Prop} (h : C) : RLe R R ∧ (∀ p ∈ H, p ∈ X → p ∈ H) ∧ C := ⟨RLe.refl _, ka, h⟩
theorem ku {H H' X : HList} (h : List.Sublist H H') : ∀ p ∈ H, p ∈ X → p ∈ H' := fun _ hp _ => h.subset hp
theorem rr {R : RMap} : RLe R R := RLe.refl _
end
abbrev CZ : CRel Int := CI .i64
end Go.Lg
namespace Go.Lg
def LeO {α : Type} (a b : Option α) : Prop := ∀ r, a = some r → b = some r
theorem LeO.refl {α : Type} (a : Option α) : LeO a a := fun _ h => h
theorem LeO.none {α : Type} {b : Option α} : LeO none b := fun _ h => by cases h
theorem LeO.bind {α β : Type} {a a' : Option α} {f f' : α → Option β} (h : LeO a a') (hf : ∀ x, LeO (f x) (f' x)) : LeO (a.bind f) (a'.bind f') := by
 intro r hr
 obtain ⟨x, hx, hr⟩ := bnd hr
 rw [h x hx]
 exact hf x r hr
theorem LeO.sel {α : Type} {t : Bool} {a a' b b' : Option α} (h : LeO a a') (h' : LeO b b') : LeO (sel t a b) (sel t a' b') := by
 cases t
 ·exact h'
 ·exact h
def loopC {S O : Type} (body : S → Option (S ⊕ O)) (s : S) : Option O := loopF body 200 s
theorem LeO.loopF {S O : Type} {body body' : S → Option (S ⊕ O)} (h : ∀ s, LeO (body s) (body' s)) : ∀ (n : Nat) (s : S), LeO (Go.Lg.loopF body n s) (loopM body' s)
 | 0, _ => fun _ hr => by cases hr
 | n + 1, s => fun r hr => by
  simp only [Go.Lg.loopF] at hr
  cases hb : body s with
  | none => rw [hb] at hr; cases hr
  | some x =>
   rw [hb] at hr
   have hb' := h s x hb
   cases x with
   | inl s' => rw [loopM_next hb']; exact LeO.loopF h n s' r hr
   | inr o => cases hr; exact loopM_stop hb'
theorem LeO.loop {S O : Type} {body body' : S → Option (S ⊕ O)} {s : S} (h : ∀ s, LeO (body s) (body' s)) : LeO (loopC body s) (loopM body' s) := LeO.loopF h 200 s
theorem LeO.elim {α β γ : Type} {f f' : α → Option γ} {g g' : β → Option γ} (h : ∀ x, LeO (f x) (f' x)) (h' : ∀ x, LeO (g x) (g' x)) (x : α ⊕ β) : LeO (Sum.elim f g x) (Sum.elim f' g' x) := by
 cases x
 ·exact h _
 ·exact h' _
theorem LeO.runY {α S O : Type} {f f' : α → S → Option (S ⊕ O)} (h : ∀ x s, LeO (f x s) (f' x s)) (x : α) (s : S ⊕ O) : LeO (Go.Lg.runY f x s) (Go.Lg.runY f' x s) := by
 intro r hr
 cases s with
 | inr s => cases hr
 | inl s =>
  simp only [Go.Lg.runY] at hr ⊢
  cases hf : f x s with
  | none => rw [hf] at hr; cases hr
  | some z => rw [hf] at hr; rw [h x s z hf]; exact hr
theorem LeO.mapM {α β : Type} {f f' : α → Option β} (h : ∀ x, LeO (f x) (f' x)) : ∀ l : List α, LeO (l.mapM f) (l.mapM f')
 | [] => LeO.refl _
 | a :: l => by
  intro r hr
  rw [List.mapM_cons] at hr ⊢
  cases ha : f a with
  | none => rw [ha] at hr; simp at hr
  | some b =>
   cases hl : l.mapM f with
   | none => rw [ha, hl] at hr; simp at hr
   | some bs =>
    rw [ha, hl] at hr
    rw [h a b ha, LeO.mapM h l bs hl]
    exact hr
end Go.Lg
