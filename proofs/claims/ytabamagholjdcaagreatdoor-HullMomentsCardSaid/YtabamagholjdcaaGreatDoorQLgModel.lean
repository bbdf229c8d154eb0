/- The words of models: what a function computes, in plain words (Option: none where it would panic), loops, and how lists lie in memory. Conditions: none; over any program. -/
import Derived.Test.YtabamagholjdcaaGreatDoorQLgCtl
namespace Go.Lg
open Go.Conc
def loopF {S O : Type} (body : S → Option (S ⊕ O)) : Nat → S → Option O
 | 0, _ => none
 | n + 1, s => match body s with
  | none => none
  | some (.inl s') => loopF body n s'
  | some (.inr o) => some o
open Classical in
noncomputable def loopM {S O : Type} (body : S → Option (S ⊕ O)) (s : S) : Option O := if h : ∃ o n, loopF body n s = some o then some h.choose else none
theorem loopF_more {S O : Type} {body : S → Option (S ⊕ O)} : ∀ {n m : Nat} {s : S} {o : O}, n ≤ m → loopF body n s = some o → loopF body m s = some o
 | 0, _, _, _, _, h => by cases h
 | n + 1, 0, _, _, hm, _ => by omega
 | n + 1, m + 1, s, o, hm, h => by
  simp only [loopF] at h ⊢
  cases hb : body s with
  | none => rw [hb] at h; cases h
  | some x => cases x with
   | inl s' => rw [hb] at h; exact loopF_more (by omega) h
   | inr o' => rw [hb] at h; exact h
theorem loopM_of {S O : Type} {body : S → Option (S ⊕ O)} {n : Nat} {s : S} {o : O} (h : loopF body n s = some o) : loopM body s = some o := by
 have hex : ∃ o n, loopF body n s = some o := ⟨o, n, h⟩
 unfold loopM
 rw [dif_pos hex]
 obtain ⟨m, hm⟩ := hex.choose_spec
 have h1 := loopF_more (Nat.le_max_left n m) h
 have h2 := loopF_more (Nat.le_max_right n m) hm
 rw [h1] at h2
 exact h2.symm
theorem loopM_fuel {S O : Type} {body : S → Option (S ⊕ O)} {s : S} {o : O} (h : loopM body s = some o) : ∃ n, loopF body n s = some o := by
 unfold loopM at h
 split at h
 ·rename_i hex
  cases h
  exact hex.choose_spec
 ·cases h
theorem loopM_stop {S O : Type} {body : S → Option (S ⊕ O)} {s : S} {o : O} (h : body s = some (.inr o)) : loopM body s = some o :=
 loopM_of (n := 1) (by simp [loopF, h])
theorem loopM_next {S O : Type} {body : S → Option (S ⊕ O)} {s s' : S} (h : body s = some (.inl s')) : loopM body s = loopM body s' := by
 cases h' : loopM body s' with
 | some o =>
  obtain ⟨n, hn⟩ := loopM_fuel h'
  exact loopM_of (n := n + 1) (by simp [loopF, h, hn])
 | none =>
  cases h2 : loopM body s with
  | none => rfl
  | some o =>
   obtain ⟨n, hn⟩ := loopM_fuel h2
   cases n with
   | zero => cases hn
   | succ n =>
    simp only [loopF, h] at hn
    rw [loopM_of hn] at h'
    cases h'
theorem bnd {α β : Type} {o : Option α} {f : α → Option β} {r : β} (h : o.bind f = some r) : ∃ x, o = some x ∧ f x = some r := by
 cases o with
 | none => cases h
 | some x => exact ⟨x, rfl, h⟩
def sel {α : Type} (t : Bool) (a b : Option α) : Option α := match t with | true => a | false => b
theorem selC {α : Type} {t : Bool} {a b : Option α} {r : α} {G : Prop} (h : sel t a b = some r) (h1 : t = true → a = some r → G) (h2 : t = false → b = some r → G) : G := by
 cases t with
 | true => exact h1 rfl h
 | false => exact h2 rfl h
theorem sinj {α : Type} {a b : α} (h : some a = some b) : a = b := Option.some.inj h
def idx {α : Type} (xs : List α) (i : Int) : Option α := if 0 ≤ i then xs[i.toNat]? else none
def appM {α : Type} (xs ys : List α) : Option (List α) := if xs.length + ys.length ≤ 16777216 then some (xs ++ ys) else none
def cutM {α : Type} (xs : List α) (lo hi : Int) : Option (List α) := if 0 ≤ lo ∧ lo ≤ hi ∧ hi ≤ xs.length then some ((xs.take hi.toNat).drop lo.toNat) else none
theorem idx_some {α : Type} {xs : List α} {i : Int} {x : α} (h : idx xs i = some x) : 0 ≤ i ∧ i < xs.length ∧ xs[i.toNat]? = some x := by
 unfold idx at h
 split at h
 ·have := (List.getElem?_eq_some_iff.1 h).1
  exact ⟨‹_›, by omega, h⟩
 ·cases h
theorem appM_some {α : Type} {xs ys zs : List α} (h : appM xs ys = some zs) : xs.length + ys.length ≤ 16777216 ∧ zs = xs ++ ys := by
 unfold appM at h
 split at h
 ·cases h; exact ⟨‹_›, rfl⟩
 ·cases h
section
variable {P : Program} {B : Base} {main : Bool} {𝒥 : Jd P B main} {c : Ctx} {R : RMap} {H : HList} {st st' : St} {k : List Item}
theorem At.loopM {S O ρ : Type} {body : S → Option (S ⊕ O)} {cont : O → Option ρ} {s0 : S} {r : ρ} {code : Code} (hM : (loopM body s0).bind cont = some r) (I : S → RMap → HList → St → Prop)
  (hbody : ∀ s R H st, I s R H st → ∀ x, body s = some x → (∀ s', x = .inl s' → ∀ R' H' st', I s' R' H' st' → At 𝒥 c R' H' st' (.inLoop code :: k)) → (∀ o, x = .inr o → cont o = some r) → At 𝒥 c R H st (.code code :: .inLoop code :: k))
  (h0 : I s0 R H st) : At 𝒥 c R H st (.code (.loop code) :: k) := by
 obtain ⟨o, hl, hc⟩ := bnd hM
 obtain ⟨n, hn⟩ := loopM_fuel hl
 clear hM hl
 have key : ∀ n s R H st, loopF body n s = some o → I s R H st → At 𝒥 c R H st (.code code :: .inLoop code :: k) := by
  intro n
  induction n with
  | zero => intro s R H st h; cases h
  | succ n ih =>
   intro s R H st h hI
   simp only [loopF] at h
   cases hb : body s with
   | none => rw [hb] at h; cases h
   | some x =>
    rw [hb] at h
    refine hbody s R H st hI x hb (fun s' hx R' H' st' hI' => ?_) (fun o' hx => ?_)
    ·subst hx; exact At.inLoop (ih s' R' H' st' h hI')
    ·subst hx; cases h; exact hc
 exact At.enterLoop (key n s0 R H st hn h0)
theorem At.known {t : Nat} {x b : Bool} {todo : List Item} (hx : st.lookup t = some (.bool x)) (hb : x = b) (h : At 𝒥 c R H ((t, .bool b) :: st) todo) : At 𝒥 c R H st todo := by
 subst hb; exact fun tmps ht => h tmps (ht.shadow hx)
theorem Any.known {S : Nat → HList} {ops : Array Oper} {n : Nat} {rem : List Nat} {t : Nat} {x b : Bool} (hx : st.lookup t = some (.bool x)) (hb : x = b) (h : Any 𝒥 c S ops k n rem R H ((t, .bool b) :: st)) : Any 𝒥 c S ops k n rem R H st := by
 subst hb; exact ⟨h.1, fun tmps ht => h.2 tmps (ht.shadow hx)⟩
theorem At.condT {x : Operand} {th el : Code} {t : Bool} (hx : evalS st x = some (.bool t)) (ht : t = true) (h : At 𝒥 c R H st (.code th :: k)) : At 𝒥 c R H st (.code (.cond x th el) :: k) := by subst ht; exact At.cond_true hx h
theorem At.condF {x : Operand} {th el : Code} {t : Bool} (hx : evalS st x = some (.bool t)) (ht : t = false) (h : At 𝒥 c R H st (.code el :: k)) : At 𝒥 c R H st (.code (.cond x th el) :: k) := by subst ht; exact At.cond_false hx h
end
abbrev CRel (α : Type) := RMap → α → List Value → Prop
class CM {α : Type} (C : CRel α) : Prop where
 mono : ∀ {R R' : RMap} {x : α} {es : List Value}, RLe R R' → C R x es → C R' x es
 one : ∀ {R : RMap} {x : α} {es : List Value}, C R x es → ∀ u ∈ es, u.oneCell' = true
def CI (kd : IntKind) : CRel Int := fun _ x es => es = [.int kd x]
def CS : CRel ByteArray := fun _ x es => es = [.string x]
instance {kd : IntKind} : CM (CI kd) := ⟨fun _ h => h, fun h => by cases h; simp [Value.oneCell']⟩
instance : CM CS := ⟨fun _ h => h, fun h => by cases h; simp [Value.oneCell']⟩
structure Enc {α : Type} (C : CRel α) (k : Nat) (R : RMap) (xs : List α) (es : List Value) : Prop where
 len : es.length = xs.length * k
 at_ : ∀ (i : Nat) (x : α), xs[i]? = some x → ∃ e1 : List Value, C R x e1 ∧ e1.length = k ∧ ∀ (j : Nat) (w : Value), e1[j]? = some w → es[i * k + j]? = some w
theorem Enc.nil {α : Type} {C : CRel α} {k : Nat} {R : RMap} : Enc C k R [] [] := ⟨by simp, by simp⟩
theorem Enc.mono {α : Type} {C : CRel α} [CM C] {k : Nat} {R R' : RMap} {xs : List α} {es : List Value} (h : Enc C k R xs es) (hR : RLe R R') : Enc C k R' xs es :=
 ⟨h.len, fun i x hx => by obtain ⟨e1, h1, h2, h3⟩ := h.at_ i x hx; exact ⟨e1, CM.mono hR h1, h2, h3⟩⟩
theorem Enc.append {α : Type} {C : CRel α} {k : Nat} {R : RMap} {xs ys : List α} {es fs : List Value} (h : Enc C k R xs es) (g : Enc C k R ys fs) : Enc C k R (xs ++ ys) (es ++ fs) := by
 refine ⟨by rw [List.length_append, List.length_append, h.len, g.len, Nat.add_mul], fun i x hx => ?_⟩
 by_cases hi : i < xs.length
 ·rw [List.getElem?_append_left hi] at hx
  obtain ⟨e1, h1, h2, h3⟩ := h.at_ i x hx
  refine ⟨e1, h1, h2, fun j w hj => ?_⟩
  have := h3 j w hj
  rw [List.getElem?_append_left (List.getElem?_eq_some_iff.1 this).1]
  exact this
 ·rw [List.getElem?_append_right (by omega)] at hx
  obtain ⟨e1, h1, h2, h3⟩ := g.at_ _ x hx
  refine ⟨e1, h1, h2, fun j w hj => ?_⟩
  have := h3 j w hj
  have e : i * k + j = es.length + ((i - xs.length) * k + j) := by
   rw [h.len]
   have : i = xs.length + (i - xs.length) := by omega
   rw [← Nat.add_assoc, ← Nat.add_mul, ← this]
  rw [e, List.getElem?_append_right (by omega), Nat.add_sub_cancel_left]
  exact this
theorem Enc.single {α : Type} {C : CRel α} {k : Nat} {R : RMap} {x : α} {es : List Value} (h : C R x es) (hk : es.length = k) : Enc C k R [x] es := by
 refine ⟨by simp [hk], fun i y hy => ?_⟩
 cases i with
 | zero => cases hy; exact ⟨es, h, hk, fun j w hj => by simpa using hj⟩
 | succ i => simp at hy
theorem Enc.one {α : Type} {C : CRel α} [CM C] {k : Nat} {R : RMap} {xs : List α} {es : List Value} (h : Enc C k R xs es) : ∀ u ∈ es, u.oneCell' = true := by
 intro u hu
 obtain ⟨j, hj⟩ := List.getElem?_of_mem hu
 have hlt := (List.getElem?_eq_some_iff.1 hj).1
 rw [h.len] at hlt
 have hk : 0 < k := by cases k with | zero => simp at hlt | succ k => omega
 have hi : j / k < xs.length := Nat.div_lt_of_lt_mul (by rw [Nat.mul_comm]; exact hlt)
 obtain ⟨e1, h1, h2, h3⟩ := h.at_ (j / k) _ (List.getElem?_eq_getElem hi)
 have hm : j % k < e1.length := by rw [h2]; exact Nat.mod_lt _ hk
 have := h3 (j % k) _ (List.getElem?_eq_getElem hm)
 rw [show j / k * k + j % k = j by rw [Nat.mul_comm]; exact Nat.div_add_mod j k, hj] at this
 cases this
 exact CM.one h1 _ (List.getElem_mem hm)
theorem Enc.drop {α : Type} {C : CRel α} {k n : Nat} {R : RMap} {xs : List α} {es : List Value} (h : Enc C k R xs es) : Enc C k R (xs.drop n) (es.drop (n * k)) := by
 refine ⟨by simp [h.len, Nat.sub_mul], fun i x hx => ?_⟩
 rw [List.getElem?_drop] at hx
 obtain ⟨e1, h1, h2, h3⟩ := h.at_ _ x hx
 refine ⟨e1, h1, h2, fun j w hj => ?_⟩
 rw [List.getElem?_drop, ← h3 j w hj, Nat.add_mul, Nat.add_assoc]
theorem Enc.take {α : Type} {C : CRel α} {k n : Nat} {R : RMap} {xs : List α} {es : List Value} (h : Enc C k R xs es) : Enc C k R (xs.take n) (es.take (n * k)) := by
 refine ⟨by simp only [List.length_take, h.len]; exact Nat.mul_min_mul_right _ _ _, fun i x hx => ?_⟩
 rw [List.getElem?_take] at hx
 split at hx
 ·rename_i hi
  obtain ⟨e1, h1, h2, h3⟩ := h.at_ _ x hx
  refine ⟨e1, h1, h2, fun j w hj => ?_⟩
  have hjk : j < k := by rw [← h2]; exact (List.getElem?_eq_some_iff.1 hj).1
  rw [List.getElem?_take, if_pos, h3 j w hj]
  calc i * k + j < i * k + k := by omega
   _ = (i + 1) * k := by rw [Nat.add_mul, Nat.one_mul]
   _ ≤ n * k := Nat.mul_le_mul_right k hi
 ·cases hx
def SlR {α : Type} (C : CRel α) (k : Nat) (R : RMap) (v : Value) (xs : List α) : Prop :=
 ∃ A cap es, v = .slice A xs.length cap ∧ Enc C k R xs es ∧ xs.length ≤ cap ∧ (xs ≠ [] → ∃ b o arr e fz, A = some ⟨b, o, none⟩ ∧ R b = some (.cells arr e fz) ∧ ∀ (j : Nat) (w : Value), es[j]? = some w → arr[o + j]? = some w)
theorem SlR.mono {α : Type} {C : CRel α} [CM C] {k : Nat} {R R' : RMap} {v : Value} {xs : List α} (h : SlR C k R v xs) (hR : RLe R R') : SlR C k R' v xs := by
 obtain ⟨A, cap, es, h1, h2, hc, h3⟩ := h
 refine ⟨A, cap, es, h1, h2.mono hR, hc, fun hx => ?_⟩
 obtain ⟨b, o, arr, e, fz, g1, g2, g3⟩ := h3 hx
 exact ⟨b, o, arr, e, fz, g1, hR _ _ g2, g3⟩
theorem SlR.nil {α : Type} {C : CRel α} {k : Nat} {R : RMap} {A : Option Addr} {cap : Nat} : SlR C k R (.slice A 0 cap) [] := ⟨A, cap, [], rfl, .nil, Nat.zero_le _, fun h => absurd rfl h⟩
def CSl {α : Type} (C : CRel α) (k : Nat) : CRel (List α) := fun R xs es => ∃ v, es = [v] ∧ SlR C k R v xs
instance {α : Type} {C : CRel α} [CM C] {k : Nat} : CM (CSl C k) := ⟨fun hR ⟨v, h1, h2⟩ => ⟨v, h1, h2.mono hR⟩, fun ⟨v, h1, A, cap, es, h2, _⟩ => by subst h1; subst h2; simp [Value.oneCell']⟩
def OwnSl {α : Type} (C : CRel α) (k e : Nat) (R : RMap) (v : Value) (xs : List α) (Hs : HList) : Prop :=
 (∃ A, v = .slice A 0 0 ∧ xs = [] ∧ Hs = []) ∨ ∃ b cap cs es, v = .slice (some ⟨b, 0, none⟩) xs.length cap ∧ Hs = [(b, .cells cs e (0, 0))] ∧ cs.size = cap * k ∧ xs.length ≤ cap ∧ Enc C k R xs es ∧ ∀ (j : Nat) (w : Value), es[j]? = some w → cs[j]? = some w
theorem OwnSl.mono {α : Type} {C : CRel α} [CM C] {k e : Nat} {R R' : RMap} {v : Value} {xs : List α} {Hs : HList} (h : OwnSl C k e R v xs Hs) (hR : RLe R R') : OwnSl C k e R' v xs Hs := by
 rcases h with h | ⟨b, cap, cs, es, h1, h2, h3, h4, h5, h6⟩
 ·exact .inl h
 ·exact .inr ⟨b, cap, cs, es, h1, h2, h3, h4, h5.mono hR, h6⟩
theorem OwnSl.nil {α : Type} {C : CRel α} {k e : Nat} {R : RMap} {A : Option Addr} : OwnSl C k e R (.slice A 0 0) [] [] := .inl ⟨A, rfl, rfl, rfl⟩
def ArgSl {α : Type} (C : CRel α) (k : Nat) (R : RMap) (H : HList) (v : Value) (ys : List α) : Prop :=
 ∃ A cap es, v = .slice A ys.length cap ∧ Enc C k R ys es ∧ (ys ≠ [] → ∃ b o, A = some ⟨b, o, none⟩ ∧ CellsAt R H b o es)
theorem SlR.arg {α : Type} {C : CRel α} {k : Nat} {R : RMap} {H : HList} {v : Value} {xs : List α} (h : SlR C k R v xs) : ArgSl C k R H v xs := by
 obtain ⟨A, cap, es, h1, h2, _, h3⟩ := h
 refine ⟨A, cap, es, h1, h2, fun hx => ?_⟩
 obtain ⟨b, o, arr, e, fz, g1, g2, g3⟩ := h3 hx
 exact ⟨b, o, g1, fun j w hj => ⟨rfl, arr, e, fz, .inl g2, g3 j w hj⟩⟩
theorem ArgSl.lit {α : Type} {C : CRel α} {k e n cap b : Nat} {R : RMap} {H : HList} {ys : List α} {cs : Array Value} {fz : Nat × Nat} (hm : (b, Obj.cells cs e fz) ∈ H) (hE : Enc C k R ys cs.toList) (hn : ys.length = n) : ArgSl C k R H (.slice (some ⟨b, 0, none⟩) n cap) ys := by
 subst hn
 exact ⟨_, cap, cs.toList, rfl, hE, fun _ => ⟨b, 0, rfl, fun j w hj => ⟨rfl, cs, e, fz, .inr hm, by simpa using hj⟩⟩⟩
def Hole (G : HList → HList) : Prop := ∃ A D, ∀ X, G X = A ++ (X ++ D)
theorem Hole.set {G : HList → HList} (hG : Hole G) {b : Nat} {o o' : Obj} : HSet (G [(b, o)]) b o o' (G [(b, o')]) := by
 obtain ⟨A, D, h⟩ := hG
 rw [h, h]
 clear h
 induction A with
 | nil => exact .here
 | cons p A ih => exact .there ih
end Go.Lg
