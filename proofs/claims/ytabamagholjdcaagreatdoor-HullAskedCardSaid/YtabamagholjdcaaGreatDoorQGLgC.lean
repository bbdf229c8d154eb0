/- Models, operations, lists, maps, ranges over functions. Conditions: none. -/
import Derived.Test.YtabamagholjdcaaGreatDoorQGLgA
namespace Go.Lg
open Go.Conc
def jX {S O : Type} (body : S → Option (S ⊕ O)) : Nat → S → Option O
 | 0, _ => none
 | n + 1, s => match body s with
  | none => none
  | some (.inl s') => jX body n s'
  | some (.inr o) => some o
open Classical in
noncomputable def br {S O : Type} (body : S → Option (S ⊕ O)) (s : S) : Option O := if h : ∃ o n, jX body n s = some o then some h.choose else none
theorem S4 {S O : Type} {body : S → Option (S ⊕ O)} : ∀ {n m : Nat} {s : S} {o : O}, n ≤ m → jX body n s = some o → jX body m s = some o
 | 0, _, _, _, _, h => by cases h
 | n + 1, 0, _, _, hm, _ => by omega
 | n + 1, m + 1, s, o, hm, h => by
  simp only [jX] at h ⊢
  cases hb : body s with
  | none => rw [hb] at h; cases h
  | some x => cases x with
   | inl s' => rw [hb] at h; exact S4 (by omega) h
   | inr o' => rw [hb] at h; exact h
theorem S6 {S O : Type} {body : S → Option (S ⊕ O)} {n : Nat} {s : S} {o : O} (h : jX body n s = some o) : br body s = some o := by
 have hex : ∃ o n, jX body n s = some o := ⟨o, n, h⟩
 unfold br
 rw [dif_pos hex]
 obtain ⟨m, hm⟩ := hex.choose_spec
 have h1 := S4 (Nat.le_max_left n m) h
 have h2 := S4 (Nat.le_max_right n m) hm
 rw [h1] at h2
 exact h2.symm
theorem S5 {S O : Type} {body : S → Option (S ⊕ O)} {s : S} {o : O} (h : br body s = some o) : ∃ n, jX body n s = some o := by
 unfold br at h
 split at h
 ·rename_i hex
  cases h
  exact hex.choose_spec
 ·cases h
theorem gS {S O : Type} {body : S → Option (S ⊕ O)} {s : S} {o : O} (h : body s = some (.inr o)) : br body s = some o :=
 S6 (n := 1) (by simp [jX, h])
theorem sM {S O : Type} {body : S → Option (S ⊕ O)} {s s' : S} (h : body s = some (.inl s')) : br body s = br body s' := by
 cases h' : br body s' with
 | some o =>
  obtain ⟨n, hn⟩ := S5 h'
  exact S6 (n := n + 1) (by simp [jX, h, hn])
 | none =>
  cases h2 : br body s with
  | none => rfl
  | some o =>
   obtain ⟨n, hn⟩ := S5 h2
   cases n with
   | zero => cases hn
   | succ n =>
    simp only [jX, h] at hn
    rw [S6 hn] at h'
    cases h'
theorem aj {α β : Type} {o : Option α} {f : α → Option β} {r : β} (h : o.bind f = some r) : ∃ x, o = some x ∧ f x = some r := by
 cases o with
 | none => cases h
 | some x => exact ⟨x, rfl, h⟩
def ai {α : Type} (t : Bool) (a b : Option α) : Option α := match t with | true => a | false => b
theorem bA {α : Type} {t : Bool} {a b : Option α} {r : α} {G : Prop} (h : ai t a b = some r) (h1 : t = true → a = some r → G) (h2 : t = false → b = some r → G) : G := by
 cases t with
 | true => exact h1 rfl h
 | false => exact h2 rfl h
theorem aa {α : Type} {a b : α} (h : some a = some b) : a = b := Option.some.inj h
def idx {α : Type} (xs : List α) (i : Int) : Option α := if 0 ≤ i then xs[i.toNat]? else none
def eH {α : Type} (xs ys : List α) : Option (List α) := if xs.length + ys.length ≤ 16777216 then some (xs ++ ys) else none
def jN {α : Type} (xs : List α) (lo hi : Int) : Option (List α) := if 0 ≤ lo ∧ lo ≤ hi ∧ hi ≤ xs.length then some ((xs.take hi.toNat).drop lo.toNat) else none
theorem wV {α : Type} {xs : List α} {i : Int} {x : α} (h : idx xs i = some x) : 0 ≤ i ∧ i < xs.length ∧ xs[i.toNat]? = some x := by
 unfold idx at h
 split at h
 ·have := (List.getElem?_eq_some_iff.1 h).1
  exact ⟨‹_›, by omega, h⟩
 ·cases h
theorem afG {α : Type} {xs ys zs : List α} (h : eH xs ys = some zs) : xs.length + ys.length ≤ 16777216 ∧ zs = xs ++ ys := by
 unfold eH at h
 split at h
 ·cases h; exact ⟨‹_›, rfl⟩
 ·cases h
section
variable {P : Program} {B : Base} {main : Bool} {ah : Jd P B main} {c : Ctx} {R : aA} {H : ak} {st st' : St} {k : List Item}
theorem At.br {S O ρ : Type} {body : S → Option (S ⊕ O)} {cont : O → Option ρ} {s0 : S} {r : ρ} {code : Code} (hM : (br body s0).bind cont = some r) (I : S → aA → ak → St → Prop)
  (hbody : ∀ s R H st, I s R H st → ∀ x, body s = some x → (∀ s', x = .inl s' → ∀ R' H' st', I s' R' H' st' → At ah c R' H' st' (.inLoop code :: k)) → (∀ o, x = .inr o → cont o = some r) → At ah c R H st (.code code :: .inLoop code :: k))
  (h0 : I s0 R H st) : At ah c R H st (.code (.loop code) :: k) := by
 obtain ⟨o, hl, hc⟩ := aj hM
 obtain ⟨n, hn⟩ := S5 hl
 clear hM hl
 have key : ∀ n s R H st, jX body n s = some o → I s R H st → At ah c R H st (.code code :: .inLoop code :: k) := by
  intro n
  induction n with
  | zero => intro s R H st h; cases h
  | succ n ih =>
   intro s R H st h hI
   simp only [jX] at h
   cases hb : body s with
   | none => rw [hb] at h; cases h
   | some x =>
    rw [hb] at h
    refine hbody s R H st hI x hb (λ s' hx R' H' st' Ow => ?_) (λ o' hx => ?_)
    ·subst hx; exact At.inLoop (ih s' R' H' st' h Ow)
    ·subst hx; cases h; exact hc
 exact At.enterLoop (key n s0 R H st hn h0)
theorem At.known {t : Nat} {x b : Bool} {todo : List Item} (hx : st.lookup t = some (.bool x)) (hb : x = b) (h : At ah c R H ((t, .bool b) :: st) todo) : At ah c R H st todo := by
 subst hb; exact λ tmps ht => h tmps (ht.abS hx)
theorem Any.known {S : Nat → ak} {ops : Array Oper} {n : Nat} {rem : List Nat} {t : Nat} {x b : Bool} (hx : st.lookup t = some (.bool x)) (hb : x = b) (h : Any ah c S ops k n rem R H ((t, .bool b) :: st)) : Any ah c S ops k n rem R H st := by
 subst hb; exact ⟨h.1, λ tmps ht => h.2 tmps (ht.abS hx)⟩
theorem At.BQ {x : Operand} {th el : Code} {t : Bool} (hx : bh st x = some (.bool t)) (ht : t = true) (h : At ah c R H st (.code th :: k)) : At ah c R H st (.code (.cond x th el) :: k) := by subst ht; exact At.cond_true hx h
theorem At.BP {x : Operand} {th el : Code} {t : Bool} (hx : bh st x = some (.bool t)) (ht : t = false) (h : At ah c R H st (.code el :: k)) : At ah c R H st (.code (.cond x th el) :: k) := by subst ht; exact At.cond_false hx h
end
abbrev cn (α : Type) := aA → α → List Value → Prop
class CM {α : Type} (C : cn α) : Prop where
 mono : ∀ {R R' : aA} {x : α} {es : List Value}, aO R R' → C R x es → C R' x es
 one : ∀ {R : aA} {x : α} {es : List Value}, C R x es → ∀ u ∈ es, u.oneCell' = true
def CI (kd : IntKind) : cn Int := λ _ x es => es = [.int kd x]
def CS : cn ByteArray := λ _ x es => es = [.string x]
instance {kd : IntKind} : CM (CI kd) := ⟨λ _ h => h, λ h => by cases h; simp [Value.oneCell']⟩
instance : CM CS := ⟨λ _ h => h, λ h => by cases h; simp [Value.oneCell']⟩
structure aK {α : Type} (C : cn α) (k : Nat) (R : aA) (xs : List α) (es : List Value) : Prop where
 len : es.length = xs.length * k
 at_ : ∀ (i : Nat) (x : α), xs[i]? = some x → ∃ e1 : List Value, C R x e1 ∧ e1.length = k ∧ ∀ (j : Nat) (w : Value), e1[j]? = some w → es[i * k + j]? = some w
theorem aK.nil {α : Type} {C : cn α} {k : Nat} {R : aA} : aK C k R [] [] := ⟨by simp, by simp⟩
theorem aK.mono {α : Type} {C : cn α} [CM C] {k : Nat} {R R' : aA} {xs : List α} {es : List Value} (h : aK C k R xs es) (hR : aO R R') : aK C k R' xs es :=
 ⟨h.len, λ i x hx => by obtain ⟨e1, h1, h2, h3⟩ := h.at_ i x hx; exact ⟨e1, CM.mono hR h1, h2, h3⟩⟩
theorem aK.append {α : Type} {C : cn α} {k : Nat} {R : aA} {xs ys : List α} {es fs : List Value} (h : aK C k R xs es) (g : aK C k R ys fs) : aK C k R (xs ++ ys) (es ++ fs) := by
 refine ⟨by rw [List.length_append, List.length_append, h.len, g.len, Nat.add_mul], λ i x hx => ?_⟩
 by_cases hi : i < xs.length
 ·rw [List.getElem?_append_left hi] at hx
  obtain ⟨e1, h1, h2, h3⟩ := h.at_ i x hx
  refine ⟨e1, h1, h2, λ j w hj => ?_⟩
  have := h3 j w hj
  rw [List.getElem?_append_left (List.getElem?_eq_some_iff.1 this).1]
  exact this
 ·rw [List.getElem?_append_right (by omega)] at hx
  obtain ⟨e1, h1, h2, h3⟩ := g.at_ _ x hx
  refine ⟨e1, h1, h2, λ j w hj => ?_⟩
  have := h3 j w hj
  have e : i * k + j = es.length + ((i - xs.length) * k + j) := by
   rw [h.len]
   have : i = xs.length + (i - xs.length) := by omega
   rw [← Nat.add_assoc, ← Nat.add_mul, ← this]
  rw [e, List.getElem?_append_right (by omega), Nat.add_sub_cancel_left]
  exact this
theorem aK.single {α : Type} {C : cn α} {k : Nat} {R : aA} {x : α} {es : List Value} (h : C R x es) (hk : es.length = k) : aK C k R [x] es := by
 refine ⟨by simp [hk], λ i y hy => ?_⟩
 cases i with
 | zero => cases hy; exact ⟨es, h, hk, λ j w hj => by simpa using hj⟩
 | succ i => simp at hy
theorem aK.one {α : Type} {C : cn α} [CM C] {k : Nat} {R : aA} {xs : List α} {es : List Value} (h : aK C k R xs es) : ∀ u ∈ es, u.oneCell' = true := by
 intro u hu
 obtain ⟨j, hj⟩ := List.getElem?_of_mem hu
 have hlt := (List.getElem?_eq_some_iff.1 hj).1
 rw [h.len] at hlt
 have hk : 0 < k := by cases k with | zero => simp at hlt | succ k => omega
 have hi : j / k < xs.length := Nat.div_lt_of_lt_mul (by rw [Nat.mul_comm]; exact hlt)
 obtain ⟨e1, h1, h2, h3⟩ := h.at_ (j / k) _ (List.getElem?_eq_getElem hi)
 have hm : j % k < e1.length := by rw [h2]; exact Nat.mod_lt _ hk
 have := h3 (j % k) _ (List.getElem?_eq_getElem hm)
 rw [show j / k * k + j % k = j by rw [Nat.mul_comm]; exact Nat.div_add_mod j k, hj] at this
 cases this
 exact CM.one h1 _ (List.getElem_mem hm)
theorem aK.drop {α : Type} {C : cn α} {k n : Nat} {R : aA} {xs : List α} {es : List Value} (h : aK C k R xs es) : aK C k R (xs.drop n) (es.drop (n * k)) := by
 refine ⟨by simp [h.len, Nat.sub_mul], λ i x hx => ?_⟩
 rw [List.getElem?_drop] at hx
 obtain ⟨e1, h1, h2, h3⟩ := h.at_ _ x hx
 refine ⟨e1, h1, h2, λ j w hj => ?_⟩
 rw [List.getElem?_drop, ← h3 j w hj, Nat.add_mul, Nat.add_assoc]
theorem aK.take {α : Type} {C : cn α} {k n : Nat} {R : aA} {xs : List α} {es : List Value} (h : aK C k R xs es) : aK C k R (xs.take n) (es.take (n * k)) := by
 refine ⟨by simp only [List.length_take, h.len]; exact Nat.mul_min_mul_right _ _ _, λ i x hx => ?_⟩
 rw [List.getElem?_take] at hx
 split at hx
 ·rename_i hi
  obtain ⟨e1, h1, h2, h3⟩ := h.at_ _ x hx
  refine ⟨e1, h1, h2, λ j w hj => ?_⟩
  have hjk : j < k := by rw [← h2]; exact (List.getElem?_eq_some_iff.1 hj).1
  rw [List.getElem?_take, if_pos, h3 j w hj]
  calc i * k + j < i * k + k := by omega
   _ = (i + 1) * k := by rw [Nat.add_mul, Nat.one_mul]
   _ ≤ n * k := Nat.mul_le_mul_right k hi
 ·cases hx
def az {α : Type} (C : cn α) (k : Nat) (R : aA) (v : Value) (xs : List α) : Prop :=
 ∃ A cap es, v = .slice A xs.length cap ∧ aK C k R xs es ∧ xs.length ≤ cap ∧ (xs ≠ [] → ∃ b o arr e fz, A = some ⟨b, o, none⟩ ∧ R b = some (.cells arr e fz) ∧ ∀ (j : Nat) (w : Value), es[j]? = some w → arr[o + j]? = some w)
theorem az.mono {α : Type} {C : cn α} [CM C] {k : Nat} {R R' : aA} {v : Value} {xs : List α} (h : az C k R v xs) (hR : aO R R') : az C k R' v xs := by
 obtain ⟨A, cap, es, h1, h2, hc, h3⟩ := h
 refine ⟨A, cap, es, h1, h2.mono hR, hc, λ hx => ?_⟩
 obtain ⟨b, o, arr, e, fz, g1, g2, g3⟩ := h3 hx
 exact ⟨b, o, arr, e, fz, g1, hR _ _ g2, g3⟩
theorem az.nil {α : Type} {C : cn α} {k : Nat} {R : aA} {A : Option Addr} {cap : Nat} : az C k R (.slice A 0 cap) [] := ⟨A, cap, [], rfl, .nil, Nat.zero_le _, λ h => absurd rfl h⟩
def vH {α : Type} (C : cn α) (k : Nat) : cn (List α) := λ R xs es => ∃ v, es = [v] ∧ az C k R v xs
instance {α : Type} {C : cn α} [CM C] {k : Nat} : CM (vH C k) := ⟨λ hR ⟨v, h1, h2⟩ => ⟨v, h1, h2.mono hR⟩, λ ⟨v, h1, A, cap, es, h2, _⟩ => by subst h1; subst h2; simp [Value.oneCell']⟩
def bg {α : Type} (C : cn α) (k e : Nat) (R : aA) (v : Value) (xs : List α) (Hs : ak) : Prop :=
 (∃ A, v = .slice A 0 0 ∧ xs = [] ∧ Hs = []) ∨ ∃ b cap cs es, v = .slice (some ⟨b, 0, none⟩) xs.length cap ∧ Hs = [(b, .cells cs e (0, 0))] ∧ cs.size = cap * k ∧ xs.length ≤ cap ∧ aK C k R xs es ∧ ∀ (j : Nat) (w : Value), es[j]? = some w → cs[j]? = some w
theorem bg.mono {α : Type} {C : cn α} [CM C] {k e : Nat} {R R' : aA} {v : Value} {xs : List α} {Hs : ak} (h : bg C k e R v xs Hs) (hR : aO R R') : bg C k e R' v xs Hs := by
 rcases h with h | ⟨b, cap, cs, es, h1, h2, h3, h4, h5, h6⟩
 ·exact .inl h
 ·exact .inr ⟨b, cap, cs, es, h1, h2, h3, h4, h5.mono hR, h6⟩
theorem bg.nil {α : Type} {C : cn α} {k e : Nat} {R : aA} {A : Option Addr} : bg C k e R (.slice A 0 0) [] [] := .inl ⟨A, rfl, rfl, rfl⟩
def dR {α : Type} (C : cn α) (k : Nat) (R : aA) (H : ak) (v : Value) (ys : List α) : Prop :=
 ∃ A cap es, v = .slice A ys.length cap ∧ aK C k R ys es ∧ (ys ≠ [] → ∃ b o, A = some ⟨b, o, none⟩ ∧ aS R H b o es)
theorem az.arg {α : Type} {C : cn α} {k : Nat} {R : aA} {H : ak} {v : Value} {xs : List α} (h : az C k R v xs) : dR C k R H v xs := by
 obtain ⟨A, cap, es, h1, h2, _, h3⟩ := h
 refine ⟨A, cap, es, h1, h2, λ hx => ?_⟩
 obtain ⟨b, o, arr, e, fz, g1, g2, g3⟩ := h3 hx
 exact ⟨b, o, g1, λ j w hj => ⟨rfl, arr, e, fz, .inl g2, g3 j w hj⟩⟩
theorem dR.lit {α : Type} {C : cn α} {k e n cap b : Nat} {R : aA} {H : ak} {ys : List α} {cs : Array Value} {fz : Nat × Nat} (hm : (b, Obj.cells cs e fz) ∈ H) (hE : aK C k R ys cs.toList) (hn : ys.length = n) : dR C k R H (.slice (some ⟨b, 0, none⟩) n cap) ys := by
 subst hn
 exact ⟨_, cap, cs.toList, rfl, hE, λ _ => ⟨b, 0, rfl, λ j w hj => ⟨rfl, cs, e, fz, .inr hm, by simpa using hj⟩⟩⟩
def fN (G : ak → ak) : Prop := ∃ A D, ∀ X, G X = A ++ (X ++ D)
theorem fN.set {G : ak → ak} (hG : fN G) {b : Nat} {o o' : Obj} : dD (G [(b, o)]) b o o' (G [(b, o')]) := by
 obtain ⟨A, D, h⟩ := hG
 rw [h, h]
 clear h
 induction A with
 | nil => exact .here
 | cons p A ih => exact .there ih
end Go.Lg
namespace Go.Lg
open Go.Conc
section
variable {P : Program} {B : Base} {main : Bool} {ah : Jd P B main} {c : Ctx} {R : aA} {H H' : ak} {st st' : St} {o : Oper} {C : aA → ak → St → Prop}
def BF (P : Program) (t : TypeId) (v : Value) (i : Int) (b n : Nat) : Prop := ∀ kd, an P (Instr.indexAt t v (.int kd i)) (.pointer (some ⟨b, n, none⟩))
theorem az.elem {α : Type} {K : cn α} {k t e : Nat} {v : Value} {xs : List α} {i : Int} {x : α} (h : az K k R v xs) (ht : lp P t e k) (hi : idx xs i = some x) :
  ∃ b n es, K R x es ∧ aS R [] b n es ∧ BF P t v i b n := by
 obtain ⟨h1, h2, h3⟩ := wV hi
 obtain ⟨A, cap, es, rfl, hE, _, hc⟩ := h
 obtain ⟨b, o, arr, e', fz, rfl, g2, g3⟩ := hc (by rintro rfl; simp at h3)
 obtain ⟨e1, f1, f2, f3⟩ := hE.at_ _ _ h3
 refine ⟨b, o + i.toNat * k, e1, f1, λ j w hj => ⟨rfl, arr, e', fz, .inl g2, ?_⟩, λ kd => ?_⟩
 ·have := g3 _ _ (f3 j w hj)
  simpa [Nat.add_assoc] using this
 ·have := Ur (P := P) (b := b) (m := o) (cap := cap) (kd := kd) ht (j := i.toNat) (len := xs.length) (by omega)
  rwa [Int.toNat_of_nonneg h1] at this
theorem Ox.aX {x y : Operand} {t : TypeId} {v : Value} {kd : IntKind} {i : Int} {b n : Nat} (hop : o.op = .indexAddr t x y) (hx : bh st x = some v) (hy : bh st y = some (.int kd i)) (hv : BF P t v i b n)
  (hd : cg o.dst c.n) (hs : aF (bS o.dst (.pointer (some ⟨b, n, none⟩)) st) st') (h : C R H st') : aP P B c o R H st C :=
 Ox.val' (s := λ ρ => Instr.indexAt t (ρ x) (ρ y)) (by rw [hop]; rfl) hd (λ ρ => by simp only [execOp, hop]) (λ ρ hρ => by rw [hρ x _ hx, hρ y _ hy]; exact hv kd) hs h
theorem awh {t e len k b m : Nat} {i : Int} (ht : vG P t len e k) (hi : 0 ≤ i ∧ i < len) : BF P t (.pointer (some ⟨b, m, none⟩)) i b (m + i.toNat * k) := λ kd => by
 have := aBV (P := P) (b := b) (m := m) (kd := kd) ht (j := i.toNat) (by omega)
 rwa [Int.toNat_of_nonneg hi.1] at this
theorem Ox.wW {α : Type} {K : cn α} {k : Nat} {x : Operand} {t e : TypeId} {v : Value} {xs : List α} (hop : o.op = .call ⟨.builtin .len, #[x], #[t]⟩) (hx : bh st x = some v) (hl : az K k R v xs) (ht : P.underlying t = some (.slice e))
  (hd : cg o.dst c.n) (hs : aF (bS o.dst (.int .i64 (xs.length : Int)) st) st') (h : C R H st') : aP P B c o R H st C := by
 obtain ⟨A, cap, es, rfl, _⟩ := hl
 exact Ox.len hop hx ht hd hs h
theorem Ox.Gv {α : Type} {K : cn α} {k e' : Nat} {x : Operand} {t e : TypeId} {v : Value} {xs : List α} {Hs : ak} (hop : o.op = .call ⟨.builtin .len, #[x], #[t]⟩) (hx : bh st x = some v) (hl : bg K k e' R v xs Hs) (ht : P.underlying t = some (.slice e))
  (hd : cg o.dst c.n) (hs : aF (bS o.dst (.int .i64 (xs.length : Int)) st) st') (h : C R H st') : aP P B c o R H st C := by
 rcases hl with ⟨A, rfl, rfl, _⟩ | ⟨b, cap, cs, es, rfl, _⟩
 ·exact Ox.len hop hx ht hd hs h
 ·exact Ox.len hop hx ht hd hs h
def i64 (z : Int) : Int := IntKind.wrap .i64 z
theorem SU {z : Int} (h : -9223372036854775808 ≤ z ∧ z ≤ 9223372036854775807) : i64 z = z := aCN h
theorem Ox.ar {x y : Operand} {bo : BinOp} {t u : TypeId} {a b z : Int} {kd : IntKind} (hop : o.op = .binOp bo t x y u) (hx : bh st x = some (.int kd a)) (hy : bh st y = some (.int kd b)) (hr : M5 bo a b = some z)
  (hd : cg o.dst c.n) (hs : aF (bS o.dst (.int kd (kd.wrap z)) st) st') (h : C R H st') : aP P B c o R H st C :=
 Ox.val' (s := λ ρ => do eqGuard bo t x y (ρ x) (ρ y); binOp bo t (ρ x) (ρ y)) (by rw [hop]; rfl) hd (λ ρ => by simp only [execOp, hop]) (λ ρ hρ => by
  rw [hρ x _ hx, hρ y _ hy]
  refine an.bind (AS _ _ _ _ _ _ _ _) ?_
  cases bo <;> simp only [M5, Option.some.injEq, reduceCtorEq] at hr <;> subst hr <;> simp only [binOp, ne_eq, not_true_eq_false, if_false, Op.intArith] <;> exact an.pure _) hs h
theorem Ox.ngK {x : Operand} {t : TypeId} {a : Int} {kd : IntKind} (hop : o.op = .unOp .neg t x) (hx : bh st x = some (.int kd a))
  (hd : cg o.dst c.n) (hs : aF (bS o.dst (.int kd (kd.wrap (0 - a))) st) st') (h : C R H st') : aP P B c o R H st C :=
 Ox.val' (s := λ ρ => Op.unary .neg (ρ x)) (by rw [hop]; rfl) hd (λ ρ => by simp only [execOp, hop]) (λ ρ hρ => by
  rw [hρ x _ hx]
  simp only [Op.unary, Op.intArith]; exact an.pure _) hs h
def Dd (a b : Int) : Option Int := if b = 0 then none else some (a.tmod b)
def kT (a b : Int) : Option Int := if b = 0 then none else some (i64 (a.tdiv b))
theorem Ox.rem {x y : Operand} {t u : TypeId} {a b z : Int} {kd : IntKind} (hop : o.op = .binOp .rem t x y u) (hx : bh st x = some (.int kd a)) (hy : bh st y = some (.int kd b)) (hr : Dd a b = some z)
  (hd : cg o.dst c.n) (hs : aF (bS o.dst (.int kd z) st) st') (h : C R H st') : aP P B c o R H st C :=
 Ox.val' (s := λ ρ => do eqGuard .rem t x y (ρ x) (ρ y); binOp .rem t (ρ x) (ρ y)) (by rw [hop]; rfl) hd (λ ρ => by simp only [execOp, hop]) (λ ρ hρ => by
  rw [hρ x _ hx, hρ y _ hy]
  refine an.bind (AS _ _ _ _ _ _ _ _) ?_
  unfold Dd at hr
  split at hr
  ·cases hr
  ·cases hr; simp only [binOp, ne_eq, not_true_eq_false, if_false, Op.intDiv, *]; exact an.pure _) hs h
theorem Ox.quo {x y : Operand} {t u : TypeId} {a b z : Int} (hop : o.op = .binOp .quo t x y u) (hx : bh st x = some (.int .i64 a)) (hy : bh st y = some (.int .i64 b)) (hr : kT a b = some z)
  (hd : cg o.dst c.n) (hs : aF (bS o.dst (.int .i64 z) st) st') (h : C R H st') : aP P B c o R H st C :=
 Ox.val' (s := λ ρ => do eqGuard .quo t x y (ρ x) (ρ y); binOp .quo t (ρ x) (ρ y)) (by rw [hop]; rfl) hd (λ ρ => by simp only [execOp, hop]) (λ ρ hρ => by
  rw [hρ x _ hx, hρ y _ hy]
  refine an.bind (AS _ _ _ _ _ _ _ _) ?_
  unfold kT at hr
  split at hr
  ·cases hr
  ·cases hr; simp only [binOp, ne_eq, not_true_eq_false, if_false, Op.intDiv, *]; exact an.pure _) hs h
def s8 (kd : IntKind) (a b : Int) : Option Int := if b < 0 then none else some (kd.wrap (a * 2 ^ (min b.toNat kd.bits)))
def s9 (kd : IntKind) (a b : Int) : Option Int := if b < 0 then none else some (a.fdiv (2 ^ (min b.toNat kd.bits)))
theorem Ox.shl {x y : Operand} {t u : TypeId} {a b z : Int} {kd yk : IntKind} (hop : o.op = .binOp .shl t x y u) (hx : bh st x = some (.int kd a)) (hy : bh st y = some (.int yk b)) (hr : s8 kd a b = some z)
  (hd : cg o.dst c.n) (hs : aF (bS o.dst (.int kd z) st) st') (h : C R H st') : aP P B c o R H st C :=
 Ox.val' (s := λ ρ => do eqGuard .shl t x y (ρ x) (ρ y); binOp .shl t (ρ x) (ρ y)) (by rw [hop]; rfl) hd (λ ρ => by simp only [execOp, hop]) (λ ρ hρ => by
  rw [hρ x _ hx, hρ y _ hy]
  refine an.bind (AS _ _ _ _ _ _ _ _) ?_
  unfold s8 at hr
  split at hr
  ·cases hr
  ·cases hr; simp only [binOp, Op.shift, if_false, *]; exact an.pure _) hs h
theorem Ox.shr {x y : Operand} {t u : TypeId} {a b z : Int} {kd yk : IntKind} (hop : o.op = .binOp .shr t x y u) (hx : bh st x = some (.int kd a)) (hy : bh st y = some (.int yk b)) (hr : s9 kd a b = some z)
  (hd : cg o.dst c.n) (hs : aF (bS o.dst (.int kd z) st) st') (h : C R H st') : aP P B c o R H st C :=
 Ox.val' (s := λ ρ => do eqGuard .shr t x y (ρ x) (ρ y); binOp .shr t (ρ x) (ρ y)) (by rw [hop]; rfl) hd (λ ρ => by simp only [execOp, hop]) (λ ρ hρ => by
  rw [hρ x _ hx, hρ y _ hy]
  refine an.bind (AS _ _ _ _ _ _ _ _) ?_
  unfold s9 at hr
  split at hr
  ·cases hr
  ·cases hr; simp only [binOp, Op.shift, if_false, *]; exact an.pure _) hs h
def p8 (bo : BinOp) (kd : IntKind) (a b : Int) : Option Int :=
 let a := BitVec.ofInt kd.bits a
 let b := BitVec.ofInt kd.bits b
 match bo with
 | .and => some (kd.wrap (a &&& b).toNat)
 | .or => some (kd.wrap (a ||| b).toNat)
 | .xor => some (kd.wrap (a ^^^ b).toNat)
 | .andNot => some (kd.wrap (a &&& ~~~b).toNat)
 | _ => none
theorem Ox.bits {x y : Operand} {bo : BinOp} {t u : TypeId} {a b z : Int} {kd : IntKind} (hop : o.op = .binOp bo t x y u) (hx : bh st x = some (.int kd a)) (hy : bh st y = some (.int kd b)) (hr : p8 bo kd a b = some z)
  (hd : cg o.dst c.n) (hs : aF (bS o.dst (.int kd z) st) st') (h : C R H st') : aP P B c o R H st C :=
 Ox.val' (s := λ ρ => do eqGuard bo t x y (ρ x) (ρ y); binOp bo t (ρ x) (ρ y)) (by rw [hop]; rfl) hd (λ ρ => by simp only [execOp, hop]) (λ ρ hρ => by
  rw [hρ x _ hx, hρ y _ hy]
  refine an.bind (AS _ _ _ _ _ _ _ _) ?_
  cases bo <;> simp only [p8, Option.some.injEq, reduceCtorEq] at hr <;> subst hr <;> simp only [binOp, ne_eq, not_true_eq_false, if_false, Op.intBits] <;> exact an.pure _) hs h
def Xu : BinOp → ByteArray → ByteArray → Option Bool
 | .eql, x, y => some (x.toList == y.toList)
 | .neq, x, y => some (!(x.toList == y.toList))
 | _, _, _ => none
theorem aBU (op : BinOp) (t : TypeId) (x y : Operand) (a b : ByteArray) : an P (eqGuard op t x y (.string a) (.string b)) () := by
 unfold eqGuard
 cases op <;> exact an.pure _
theorem Ox.Nu {x y : Operand} {bo : BinOp} {t u : TypeId} {a b : ByteArray} {r : Bool} (hop : o.op = .binOp bo t x y u) (hx : bh st x = some (.string a)) (hy : bh st y = some (.string b)) (hr : Xu bo a b = some r)
  (hd : cg o.dst c.n) (hs : aF (bS o.dst (.bool r) st) st') (h : C R H st') : aP P B c o R H st C :=
 Ox.val' (s := λ ρ => do eqGuard bo t x y (ρ x) (ρ y); binOp bo t (ρ x) (ρ y)) (by rw [hop]; rfl) hd (λ ρ => by simp only [execOp, hop]) (λ ρ hρ => by
  rw [hρ x _ hx, hρ y _ hy]
  refine an.bind (aBU _ _ _ _ _ _) ?_
  cases bo <;> simp only [Xu, Option.some.injEq, reduceCtorEq] at hr <;> subst hr <;> simp only [binOp, Op.stringOp] <;> exact an.pure _) hs h
def Ez : BinOp → Bool → Bool → Option Bool
 | .eql, x, y => some (x == y)
 | .neq, x, y => some (!(x == y))
 | _, _, _ => none
theorem aBT (op : BinOp) (t : TypeId) (x y : Operand) (a b : Bool) : an P (eqGuard op t x y (.bool a) (.bool b)) () := by
 unfold eqGuard
 cases op <;> exact an.pure _
theorem aBQ {t : TypeId} (ht : P.underlying t = some .bool) (a b : Bool) : an P (Op.equal t (.bool a) (.bool b)) (a == b) := by
 unfold Op.equal Op.maxDepth
 rw [Op.equalIn]
 exact an.bind (an.underlying ht) (an.pure _)
theorem Ox.Vg {x y : Operand} {bo : BinOp} {t u : TypeId} {a b r : Bool} (hop : o.op = .binOp bo t x y u) (hx : bh st x = some (.bool a)) (hy : bh st y = some (.bool b)) (ht : P.underlying t = some .bool) (hr : Ez bo a b = some r)
  (hd : cg o.dst c.n) (hs : aF (bS o.dst (.bool r) st) st') (h : C R H st') : aP P B c o R H st C :=
 Ox.val' (s := λ ρ => do eqGuard bo t x y (ρ x) (ρ y); binOp bo t (ρ x) (ρ y)) (by rw [hop]; rfl) hd (λ ρ => by simp only [execOp, hop]) (λ ρ hρ => by
  rw [hρ x _ hx, hρ y _ hy]
  refine an.bind (aBT _ _ _ _ _ _) ?_
  cases bo <;> simp only [Ez, Option.some.injEq, reduceCtorEq] at hr <;> subst hr <;> simp only [binOp] <;> exact an.bind (aBQ ht a b) (an.pure _)) hs h
theorem Ox.Ja {x y : Operand} {bo : BinOp} {t u : TypeId} {a b : Array Value} {q : Bool} (hop : o.op = .binOp bo t x y u) (hx : bh st x = some (.agg a)) (hy : bh st y = some (.agg b)) (hg : P.eqGuardType P.depth t = false) (hq : an P (Op.equal t (.agg a) (.agg b)) q) {r : Bool} (hr : Ez bo q true = some r)
  (hd : cg o.dst c.n) (hs : aF (bS o.dst (.bool r) st) st') (h : C R H st') : aP P B c o R H st C :=
 Ox.val' (s := λ ρ => do eqGuard bo t x y (ρ x) (ρ y); binOp bo t (ρ x) (ρ y)) (by rw [hop]; rfl) hd (λ ρ => by simp only [execOp, hop]) (λ ρ hρ => by
  rw [hρ x _ hx, hρ y _ hy]
  have hgd : an P (eqGuard bo t x y (.agg a) (.agg b)) () := by
   unfold eqGuard
   cases bo <;> simp only [Ez, reduceCtorEq] at hr <;> exact an.bind an.program (an.bind an.program (by simp only [hg]; exact an.pure _))
  refine an.bind hgd ?_
  cases bo <;> simp only [Ez, Option.some.injEq, reduceCtorEq] at hr <;> subst hr <;> simp only [binOp]
  ·exact an.bind hq (by cases q <;> exact an.pure _)
  ·exact an.bind hq (by cases q <;> exact an.pure _)) hs h
def kR : Int → List Int → Int
 | x, [] => x
 | x, y :: r => kR (if y > x then y else x) r
def rH : Int → List Int → Int
 | x, [] => x
 | x, y :: r => rH (if y < x then y else x) r
theorem acn {kd : IntKind} : ∀ (l : List Int) (x : Int), an P ((l.map (Value.int kd)).foldlM Builtin.max2 (.int kd x)) (.int kd (kR x l))
 | [], x => an.pure _
 | y :: r, x => by
  simp only [List.map_cons, List.foldlM_cons, kR]
  exact an.bind (a := .int kd (if y > x then y else x)) (an.pure _) (acn r _)
theorem aco {kd : IntKind} : ∀ (l : List Int) (x : Int), an P ((l.map (Value.int kd)).foldlM Builtin.min2 (.int kd x)) (.int kd (rH x l))
 | [], x => an.pure _
 | y :: r, x => by
  simp only [List.map_cons, List.foldlM_cons, rH]
  exact an.bind (a := .int kd (if y < x then y else x)) (an.pure _) (aco r _)
theorem Ox.max {xs : Array Operand} {ts : Array TypeId} {kd : IntKind} {a : Int} {l : List Int} (hop : o.op = .call ⟨.builtin .max, xs, ts⟩) (hx : pY st xs.toList = some (.int kd a :: l.map (Value.int kd)))
  (hd : cg o.dst c.n) (hs : aF (bS o.dst (.int kd (kR a l)) st) st') (h : C R H st') : aP P B c o R H st C :=
 Ox.val (by rw [hop]; rfl) hd (λ ρ hρ => by
  simp only [execOp, hop]
  refine an.bind (a := ⟨.builtin .max ts o.type (xs.map λ | .const _ => true | _ => false), xs.map ρ⟩) (an.pure _) ?_
  simp only [invoke, builtin, Builtin.max_]
  have e : (xs.map ρ).toList = .int kd a :: l.map (Value.int kd) := by simpa using Ep hρ _ _ hx
  rw [e]
  exact an.bind (acn l a) (an.pure _)) hs h
theorem Ox.min {xs : Array Operand} {ts : Array TypeId} {kd : IntKind} {a : Int} {l : List Int} (hop : o.op = .call ⟨.builtin .min, xs, ts⟩) (hx : pY st xs.toList = some (.int kd a :: l.map (Value.int kd)))
  (hd : cg o.dst c.n) (hs : aF (bS o.dst (.int kd (rH a l)) st) st') (h : C R H st') : aP P B c o R H st C :=
 Ox.val (by rw [hop]; rfl) hd (λ ρ hρ => by
  simp only [execOp, hop]
  refine an.bind (a := ⟨.builtin .min ts o.type (xs.map λ | .const _ => true | _ => false), xs.map ρ⟩) (an.pure _) ?_
  simp only [invoke, builtin, Builtin.min_]
  have e : (xs.map ρ).toList = .int kd a :: l.map (Value.int kd) := by simpa using Ep hρ _ _ hx
  rw [e]
  exact an.bind (aco l a) (an.pure _)) hs h
theorem Ox.qa {x : Operand} {t u : TypeId} {kd ks k0 : IntKind} {a : Int} (hop : o.op = .convert t u x) (hx : bh st x = some (.int ks a)) (ht : P.underlying t = some (.int k0)) (hu : P.underlying u = some (.int kd))
  (hd : cg o.dst c.n) (hs : aF (bS o.dst (.int kd (kd.wrap a)) st) st') (h : C R H st') : aP P B c o R H st C :=
 Ox.val' (s := λ ρ => convert t u (ρ x)) (by rw [hop]; rfl) hd (λ ρ => by simp only [execOp, hop]) (λ ρ hρ => by
  rw [hρ x _ hx]
  unfold convert
  refine an.bind (an.underlying ht) (an.bind (an.underlying hu) ?_)
  exact an.pure _) hs h
theorem EA {α : Type} {xs ys : List α} {lo hi : Int} (h : jN xs lo hi = some ys) : 0 ≤ lo ∧ lo ≤ hi ∧ hi ≤ xs.length ∧ ys = (xs.take hi.toNat).drop lo.toNat := by
 unfold jN at h
 split at h
 ·cases h; rename_i h; exact ⟨h.1, h.2.1, h.2.2, rfl⟩
 ·cases h
def Gy (st : St) : Option Operand → Option Int
 | none => some 0
 | some x => match bh st x with | some (.int _ i) => some i | _ => none
def E6 (st : St) (n : Nat) : Option Operand → Option Int
 | none => some n
 | some x => match bh st x with | some (.int _ i) => some i | _ => none
theorem Lr {kd : IntKind} {i : Int} {y : Nat} {cd : BoundsCode} (h : 0 ≤ i ∧ i ≤ y) : an P (Instr.sliceBound (.int kd i) y cd) i.toNat := by
 unfold Instr.sliceBound
 refine an.bind (a := (kd, i)) (an.pure _) ?_
 simp only [h, and_self, if_true]
 exact an.pure _
theorem Ls {ρ : Operand → Value} (hρ : Knows st ρ) {len cap : Nat} {lo hi : Option Operand} {l h : Int} (hl : Gy st lo = some l) (hh : E6 st len hi = some h) (hb : 0 ≤ l ∧ l ≤ h ∧ h ≤ len) (hc : len ≤ cap) :
  an P (Instr.sliceBounds true len cap (lo.map ρ) (hi.map ρ) none) (l.toNat, h.toNat, cap) := by
 have h1 : (lo = none ∧ l = 0) ∨ ∃ x kd, lo = some x ∧ ρ x = .int kd l := by
  cases lo with
  | none => simp only [Gy, Option.some.injEq] at hl; exact .inl ⟨rfl, hl.symm⟩
  | some x =>
   simp only [Gy] at hl
   cases hx : bh st x with
   | none => simp [hx] at hl
   | some v =>
    cases v <;> simp [hx] at hl
    subst hl
    exact .inr ⟨x, _, rfl, hρ x _ hx⟩
 have h2 : (hi = none ∧ h = len) ∨ ∃ x kd, hi = some x ∧ ρ x = .int kd h := by
  cases hi with
  | none => simp only [E6, Option.some.injEq] at hh; exact .inl ⟨rfl, hh.symm⟩
  | some x =>
   simp only [E6] at hh
   cases hx : bh st x with
   | none => simp [hx] at hh
   | some v =>
    cases v <;> simp [hx] at hh
    subst hh
    exact .inr ⟨x, _, rfl, hρ x _ hx⟩
 unfold Instr.sliceBounds
 rcases h1 with ⟨rfl, rfl⟩ | ⟨x, kx, rfl, hx⟩ <;> rcases h2 with ⟨rfl, rfl⟩ | ⟨y, ky, rfl, hy⟩ <;> simp only [Option.map_none, Option.map_some, *]
 ·exact an.bind (a := cap) (an.pure _) (an.bind (a := (len : Int).toNat) (by rw [Int.toNat_natCast]; exact an.pure _) (an.bind (a := (0 : Int).toNat) (an.pure _) (an.pure _)))
 ·exact an.bind (a := cap) (an.pure _) (an.bind (a := h.toNat) (Lr ⟨by omega, by omega⟩) (an.bind (a := (0 : Int).toNat) (an.pure _) (an.pure _)))
 ·exact an.bind (a := cap) (an.pure _) (an.bind (a := (len : Int).toNat) (by rw [Int.toNat_natCast]; exact an.pure _) (an.bind (a := l.toNat) (Lr ⟨by omega, by omega⟩) (an.pure _)))
 ·exact an.bind (a := cap) (an.pure _) (an.bind (a := h.toNat) (Lr ⟨by omega, by omega⟩) (an.bind (a := l.toNat) (Lr ⟨by omega, by omega⟩) (an.pure _)))
end
end Go.Lg
namespace Go.Lg
open Go.Conc
theorem AJ : ∀ (vs : List Value) (cs : Array Value) (o j : Nat), o + vs.length ≤ cs.size → (ey cs o vs)[j]? = if o ≤ j ∧ j < o + vs.length then vs[j - o]? else cs[j]?
 | [], cs, o, j, _ => by
  simp only [ey, List.length_nil, Nat.add_zero]
  rw [if_neg (by omega)]
 | v :: r, cs, o, j, h => by
  simp only [List.length_cons] at h
  simp only [ey]
  rw [AJ r _ (o + 1) j (by simp; omega)]
  by_cases h1 : o + 1 ≤ j ∧ j < o + 1 + r.length
  ·rw [if_pos h1, if_pos (by simp only [List.length_cons]; omega)]
   have : j - o = (j - (o + 1)) + 1 := by omega
   rw [this]; simp
  ·rw [if_neg h1]
   by_cases h2 : o = j
   ·subst h2
    rw [if_pos (by simp only [List.length_cons]; omega)]
    rw [Array.getElem?_setIfInBounds_self_of_lt (by omega)]
    simp
   ·rw [if_neg (by simp only [List.length_cons]; omega), Array.getElem?_setIfInBounds_ne h2]
structure yw (P : Program) (t e k : Nat) : Prop where
 sl : P.underlying t = some (.slice e)
 size : an P (sizeOf e) k
 info : ∃ i, P.info? e = some i ∧ i.bytes ≤ 65536
 zero : ∃ z, an P (zeroValue e) z ∧ z.cells.size = k
section
variable {P : Program} {B : Base} {main : Bool} {ah : Jd P B main} {c : Ctx} {R : aA} {H H' : ak} {st st' : St} {o : Oper}
theorem aC.weaken {α : Type} {s : Sem α} {K K' : α → aA → ak → Prop} (h : aC P B R H s K) (hk : ∀ a R' H', K a R' H' → ∃ bX cx, (∀ w, Fits B R' H' w → di B R' H' w bX cx w) ∧ K' a bX cx) : aC P B R H s K' := by
 intro w hw
 obtain ⟨a, w', R', H', h1, h2, h3, h4⟩ := h w hw
 obtain ⟨bX, cx, g1, g2⟩ := hk a R' H' h4
 exact ⟨a, w', bX, cx, h1, h2, h3.trans (g1 w' h3.fits), g2⟩
theorem aC.firstCells {α : Type} {K : cn α} {k : Nat} {u : Value} {ys : List α} {Q : Array Value → aA → ak → Prop} (hu : dR K k R H u ys) (hQ : ∀ es : List Value, aK K k R ys es → Q es.toArray R H) : aC P B R H (Builtin.firstCells k ys.length u) Q := by
 obtain ⟨A, cap, es, rfl, hE, hc⟩ := hu
 cases ys with
 | nil =>
  have e0 : es = [] := by have := hE.len; simpa using this
  subst e0
  cases A with
  | none => exact aC.pure (hQ [] hE)
  | some a =>
   simp only [Builtin.firstCells, List.length_nil, Nat.zero_mul, loadCells]
   exact aC.pure (hQ [] hE)
 | cons y ys =>
  obtain ⟨b, o, rfl, hcs⟩ := hc (by simp)
  simp only [Builtin.firstCells, loadCells]
  rw [← hE.len]
  exact aC.loadCellsFrom es 0 #[] (by simpa using hcs) (by simpa using hQ es hE)
theorem bg.arg {α : Type} {K : cn α} {k e : Nat} {G : ak → ak} (hG : fN G) {v : Value} {xs : List α} {Hs : ak} (h : bg K k e R v xs Hs) : dR K k R (G Hs) v xs := by
 rcases h with ⟨A, rfl, rfl, _⟩ | ⟨b, cap, cs, es, rfl, rfl, h3, h4, h5, h6⟩
 ·exact ⟨A, 0, [], rfl, .nil, λ h => absurd rfl h⟩
 ·refine ⟨_, cap, es, rfl, h5, λ _ => ⟨b, 0, rfl, λ j w hj => ⟨rfl, cs, e, (0, 0), .inr ?_, by simpa using h6 j w hj⟩⟩⟩
  obtain ⟨A, D, ny⟩ := hG
  rw [ny]; simp
theorem azy {n m : Nat} (h : m < n) (hn : n ≤ 16777216) : Builtin.nextslicecap n m ≤ 67108864 := by
 unfold Builtin.nextslicecap
 split
 ·omega
 ·split
  ·omega
  ·have : ∀ (r c : Nat), c ≤ 16777216 → Builtin.growBy n r c ≤ 67108864 := by
    intro r
    induction r with
    | zero => intro c hc; simp only [Builtin.growBy]; omega
    | succ r ih =>
     intro c hc
     simp only [Builtin.growBy]
     split
     ·omega
     ·rename_i HU
      by_cases h2 : c + (c + 768) / 4 ≤ 16777216
      ·exact ih _ h2
      ·
       cases r with
       | zero => simp only [Builtin.growBy]; omega
       | succ r => simp only [Builtin.growBy]; rw [if_pos (by omega)]; omega
   exact this 4 m (by omega)
theorem aC.append {α : Type} {K : cn α} [CM K] {k t e xT T : Nat} {G : ak → ak} (hG : fN G) {v u : Value} {xs ys : List α} {Hs : ak} {dx : TypeDesc} (ht : yw P t e k) (SM : P.underlying xT = some dx) (Pe : ∀ kd, dx ≠ .int kd)
  (hO : bg K k e R v xs Hs) (hu : dR K k R (G Hs) u ys) (hl : xs.length + ys.length ≤ 16777216) {Q : Value → aA → ak → Prop} (hk : ∀ v' bF, bg K k e R v' (xs ++ ys) bF → Q v' R (G bF)) :
  aC P B R (G Hs) (Builtin.append_ #[t, xT] T #[v, u]) Q := by
 obtain ⟨A2, aKa, es2, FZ⟩ := id hu
 have hv : ∃ base cap, v = .slice base xs.length cap := by
  rcases hO with ⟨A, rfl, rfl, _⟩ | ⟨b, cap, cs, es, rfl, _⟩
  ·exact ⟨A, 0, rfl⟩
  ·exact ⟨_, cap, rfl⟩
 obtain ⟨base, cap, rfl⟩ := hv
 obtain ⟨i, hi, hbytes⟩ := ht.info
 obtain ⟨z, hz, hzs⟩ := ht.zero
 have hlen : an P (Builtin.lenOf u) ys.length := by rw [FZ.1]; exact an.pure _
 have run : aC P B R (G Hs) (do
   let need := xs.length + ys.length
   if need ≤ cap then do
    let new ← Builtin.firstCells k ys.length u
    if let some a := base then storeCells (a.add (xs.length * k)) new.toList
    Pure.pure (Value.slice base need cap)
   else do
    if (need : Int) > IntKind.i64.max ∧ (false = true ∨ (← typeInfo e).bytes = 0) then runtimePanic (.error "growslice: len out of range")
    if Builtin.nextslicecap need cap * (← typeInfo e).bytes > 2 ^ 48 then (if false = true then runtimePanic (.error "growslice: len out of range") else do
     if !(← Builtin.mayShare k xs.length ys.length base u) then mark .noRoom
     unsupported (.resourceLimit "append: a slice or a string whose bytes no memory bears"))
    let xI ← Go.choose (Question.appendCap need cap e)
    askRoom (xI * (← typeInfo e).bytes)
    let old ← Builtin.firstCells k xs.length (.slice base xs.length cap)
    let new ← Builtin.firstCells k ys.length u
    let rest := Builtin.zeroCells (← zeroValue e).cells (xI - need)
    Pure.pure (Value.slice (some (← newRow e (old ++ new ++ rest))) need xI)) Q := by
  dsimp only
  by_cases hc : xs.length + ys.length ≤ cap
  ·rw [if_pos hc]
   refine aC.bind (aC.firstCells hu λ es hE => ?_)
   rcases hO with ⟨A, e1, rfl, rfl⟩ | ⟨b, cap', cs, yT, e1, rfl, h3, h4, h5, h6⟩
   ·injection e1 with e1 e2 e3
    subst e1; subst e3
    have hy : ys = [] := by simpa using hc
    subst hy
    have e0 : es = [] := by have := hE.len; simpa using this
    subst e0
    have key : Q (.slice base ([] : List α).length 0) R (G []) := hk _ [] (.inl ⟨base, rfl, by simp, rfl⟩)
    cases base with
    | none => exact aC.bind (aC.pure (aC.pure key))
    | some a => exact aC.bind (aC.pure (aC.pure key))
   ·injection e1 with e1 _ e3
    subst e1; subst e3
    dsimp only
    rw [show (⟨b, 0, none⟩ : Addr).add (xs.length * k) = ⟨b, 0 + xs.length * k, none⟩ from n6 _ _ _, Nat.zero_add]
    refine aC.given λ cE => aC.bind (aC.Hg es cs (xs.length * k) 0 (G [(b, .cells cs e (0, 0))]) (G [(b, .cells (ey cs (xs.length * k) es) e (0, 0))]) hE.one ?_ (by simpa using fN.set hG) cE (aC.pure ?_))
    ·rw [h3, hE.len, Nat.add_zero, ← Nat.add_mul]; exact Nat.mul_le_mul_right k hc
    ·have hfit : xs.length * k + es.length ≤ cs.size := by rw [h3, hE.len, ← Nat.add_mul]; exact Nat.mul_le_mul_right k hc
     refine hk _ _ (.inr ⟨b, cap, ey cs (xs.length * k) es, yT ++ es, by rw [List.length_append], rfl, by rw [G8]; exact h3, by rw [List.length_append]; exact hc, h5.append hE, λ j w hj => ?_⟩)
     rw [AJ es cs _ _ hfit]
     by_cases PJ : j < yT.length
     ·rw [List.getElem?_append_left PJ] at hj
      rw [if_neg (by rw [← h5.len]; omega)]
      exact h6 j w hj
     ·rw [List.getElem?_append_right (by omega)] at hj
      have := (List.getElem?_eq_some_iff.1 hj).1
      rw [if_pos (by rw [← h5.len]; omega), ← h5.len]
      exact hj
  ·rw [if_neg hc]
   have hnb : Builtin.nextslicecap (xs.length + ys.length) cap * i.bytes ≤ 2 ^ 48 := by
    have h1 := azy (n := xs.length + ys.length) (m := cap) (by omega) hl
    calc _ ≤ 67108864 * 65536 := Nat.mul_le_mul h1 hbytes
     _ ≤ 2 ^ 48 := by decide
   have hni : ¬ (((xs.length + ys.length : Nat) : Int) > IntKind.i64.max ∧ (false = true ∨ i.bytes = 0)) := by
    intro h
    have : IntKind.i64.max = 9223372036854775807 := by decide
    omega
   refine an.cz (an.typeInfo hi) ?_
   rw [if_neg hni]
   refine an.cz (an.typeInfo hi) ?_
   rw [if_neg (by omega)]
   refine (aC.bind (aC.choose λ tape => an.cz (an.typeInfo hi) (aC.bind ?_)))
   have ajl : ∀ (n : Nat) (Q' : Unit → aA → ak → Prop), Q' () R (G Hs) → aC P B R (G Hs) (askRoom n) Q' := by
    intro n Q' hq
    unfold askRoom
    split
    ·exact aC.azn hq
    ·exact aC.pure hq
   refine ajl _ _ ?_
   simp only [Question.forced, Bool.false_eq_true, if_false, Question.cut]
   generalize hcap : xs.length + ys.length + tape % (2 ^ 63 - (xs.length + ys.length)) = xI
   refine aC.bind (aC.firstCells (bg.arg hG hO) λ yT Yz => aC.bind (aC.firstCells hu λ Jk YA => an.cz hz ?_))
   simp only [newRow]
   refine aC.bind (aC.bind (aC.weaken (aC.new (K := λ r R' H' => R' = R ∧ H' = (r, .cells (yT.toArray ++ Jk.toArray ++ Builtin.zeroCells z.cells (xI - (xs.length + ys.length))) e (0, 0)) :: G Hs) λ r _ _ => ⟨rfl, rfl⟩) λ r R' H' hrh => ?_))
   obtain ⟨rfl, rfl⟩ := hrh
   refine ⟨R', G [(r, .cells (yT.toArray ++ Jk.toArray ++ Builtin.zeroCells z.cells (xI - (xs.length + ys.length))) e (0, 0))], λ w hw => ?_, aC.pure (aC.pure (hk _ _ (.inr ⟨r, xI, _, yT ++ Jk, by rw [List.length_append], rfl, ?_, by rw [List.length_append]; omega, Yz.append YA, λ j w hj => ?_⟩)))⟩
   ·obtain ⟨A, D, ny⟩ := hG
    rw [ny, ny] at *
    have h1 := Hj (H' := A ++ (Hs ++ ((r, .cells (yT.toArray ++ Jk.toArray ++ Builtin.zeroCells z.cells (xI - (xs.length + ys.length))) e (0, 0)) :: D))) (by simpa using List.perm_middle (l₁ := A ++ Hs)) hw
    refine h1.trans (Li ?_ h1.fits)
    exact List.Sublist.append_left (List.sublist_append_right _ _) _
   ·simp only [Array.size_append, List.size_toArray, Yz.len, YA.len, Builtin.zeroCells, Array.size_map, Array.size_range, hzs]
    rw [← Nat.add_mul, ← Nat.add_mul]
    congr 1; omega
   ·have := (List.getElem?_eq_some_iff.1 hj).1
    rw [Array.getElem?_append_left (by simpa using this)]
    simpa using hj
 unfold Builtin.append_
 refine an.cz (an.underlying ht.sl) (an.cz ht.size (an.cz (an.underlying SM) (an.cz (a := false) (by cases dx <;> first | exact an.pure _ | exact absurd rfl (Pe _)) ?_)))
 exact an.cz hlen run
theorem Ox.append {α : Type} {K : cn α} [CM K] {k t e xT : Nat} (G : ak → ak) {x y : Operand} {v u : Value} {xs ys zs : List α} {Hs : ak} {dx : TypeDesc} {C : aA → ak → St → Prop} (hop : o.op = .call ⟨.builtin .append, #[x, y], #[t, xT]⟩) (hx : bh st x = some v) (hy : bh st y = some u)
  (ht : yw P t e k) (SM : P.underlying xT = some dx) (Pe : ∀ kd, dx ≠ .int kd) (hG : fN G) (hO : bg K k e R v xs Hs) (hu : dR K k R (G Hs) u ys) (hl : eH xs ys = some zs) (hd : cg o.dst c.n)
  (hC : ∀ v' bF, bg K k e R v' zs bF → ∃ st', aF (bS o.dst v' st) st' ∧ C R (G bF) st') : aP P B c o R (G Hs) st C := by
 obtain ⟨hl1, rfl⟩ := afG hl
 refine ⟨by rw [hop]; rfl, hd, λ ρ hρ => ?_⟩
 simp only [execOp, hop]
 refine an.cz (a := ⟨.builtin .append #[t, xT] o.type (#[x, y].map λ | .const _ => true | _ => false), #[x, y].map ρ⟩) (an.pure _) ?_
 simp only [invoke, builtin]
 have e : (#[x, y].map ρ) = #[v, u] := by simp [hρ x _ hx, hρ y _ hy]
 rw [e]
 refine aC.bind (aC.append hG ht SM Pe hO hu hl1 λ v' bF Jv => aC.pure ?_)
 obtain ⟨st', hs, h⟩ := hC v' bF Jv
 exact ⟨v', .inl rfl, st', hs, h⟩
theorem At.fY {α : Type} {K : cn α} [CM K] {k e : Nat} {todo : List Item} (G : ak → ak) (hG : fN G) {v : Value} {xs : List α} {Hs H2 : ak} (h2 : G [] = H2) (hO : bg K k e R v xs Hs) (h : ∀ R', aO R R' → az K k R' v xs → At ah c R' H2 st todo) : At ah c R (G Hs) st todo := by
 subst h2
 rcases hO with ⟨A, rfl, rfl, rfl⟩ | ⟨b, cap, cs, es, rfl, rfl, h3, h4, h5, h6⟩
 ·exact h R (aO.refl R) .nil
 ·obtain ⟨A, D, ny⟩ := hG
  rw [ny] at h ⊢
  refine At.perm (H' := (b, .cells cs e (0, 0)) :: (A ++ ([] ++ D))) (by simpa using List.perm_middle.symm) (At.freeze λ R' hR hb => h R' hR ?_)
  exact ⟨_, cap, es, rfl, h5.mono hR, h4, λ _ => ⟨b, 0, cs, e, (0, 0), rfl, hb, λ j w hj => by simpa using h6 j w hj⟩⟩
theorem At.qd {α : Type} {K : cn α} [CM K] {k e b n : Nat} {todo : List Item} (G : ak → ak) (hG : fN G) {H2 : ak} (h2 : G [] = H2) {ys : List α} {cs : Array Value} (hE : aK K k R ys cs.toList) (hn : ys.length = n) (h : ∀ R', aO R R' → az K k R' (.slice (some ⟨b, 0, none⟩) n n) ys → At ah c R' H2 st todo) : At ah c R (G [(b, .cells cs e (0, 0))]) st todo := by
 subst hn h2
 obtain ⟨A, D, ny⟩ := hG
 rw [ny] at h ⊢
 refine At.perm (H' := (b, .cells cs e (0, 0)) :: (A ++ ([] ++ D))) (by simpa using List.perm_middle.symm) (At.freeze λ R' hR hb => h R' hR ?_)
 exact ⟨_, ys.length, cs.toList, rfl, hE.mono hR, Nat.le_refl _, λ _ => ⟨b, 0, cs, e, (0, 0), rfl, hb, λ j w hj => by simpa using hj⟩⟩
theorem bg.lit {α : Type} {K : cn α} {k e b n : Nat} {ys : List α} {cs : Array Value} (hE : aK K k R ys cs.toList) (hn : ys.length = n) : bg K k e R (.slice (some ⟨b, 0, none⟩) n n) ys [(b, .cells cs e (0, 0))] := by
 subst hn
 exact .inr ⟨b, _, cs, cs.toList, rfl, rfl, by simpa using hE.len, Nat.le_refl _, hE, λ j w hj => by simpa using hj⟩
end
end Go.Lg
namespace Go.Lg
open Go.Conc
theorem aF.one {dst : Option Tmp} {d : Tmp} {v : Value} {st : St} (h : dst = some d) : aF (bS dst v st) [(d, v)] := by
 subst h
 intro t u hu
 simp only [List.lookup_cons, List.lookup_nil] at hu
 simp only [bS, List.lookup_cons]
 split at hu
 ·exact hu
 ·cases hu
theorem dD.skip {Ks H H' : ak} {b : Nat} {o o' : Obj} (h : dD H b o o' H') : dD (Ks ++ H) b o o' (Ks ++ H') := by
 induction Ks with
 | nil => exact h
 | cons p Ks ih => exact .there ih
theorem aS.box {R : aA} {H : ak} {b : Nat} {e : TypeId} {fz : Nat × Nat} {L : List Value} (hm : (b, Obj.cells L.toArray e fz) ∈ H) : aS R H b 0 L := λ j v hj => ⟨rfl, _, e, fz, .inr hm, by simpa using hj⟩
theorem fN.id {D : ak} : fN (λ X => X ++ D) := ⟨[], D, λ _ => rfl⟩
theorem fN.cons {p : Nat × Obj} {G : ak → ak} (h : fN G) : fN (λ X => p :: G X) := by
 obtain ⟨A, D, h⟩ := h
 exact ⟨p :: A, D, λ X => by show p :: G X = _; rw [h]; rfl⟩
theorem fN.app {L : ak} {G : ak → ak} (h : fN G) : fN (λ X => L ++ G X) := by
 obtain ⟨A, D, h⟩ := h
 exact ⟨L ++ A, D, λ X => by show L ++ G X = _; rw [h, List.append_assoc]⟩
theorem bD {place : Nat → Option (Nat × Nat)} {cells : Array Value} : Instr.fill place cells [] = some cells := rfl
theorem aAr (vc : List Value) : ∀ (cells : Array Value) (off j : Nat), (vc.zipIdx j).foldl (λ cs (c, i) => cs.setIfInBounds (off + i) c) cells = ey cells (off + j) vc := by
 induction vc with
 | nil => intro cells off j; rfl
 | cons v r ih => intro cells off j; simp only [List.zipIdx_cons, List.foldl_cons, ey]; rw [ih]; rfl
theorem aAs (vc cells : Array Value) (off : Nat) : vc.zipIdx.foldl (λ cs (c, i) => cs.setIfInBounds (off + i) c) cells = ey cells off vc.toList := by
 have h := aAr vc.toList cells off 0
 rw [Nat.add_zero] at h
 rw [← h, ← Array.foldl_toList]
 simp
theorem bq {place : Nat → Option (Nat × Nat)} {cells cells' out vc : Array Value} {i off size : Nat} {v : Value} {rest : List (Nat × Value)} (hp : place i = some (off, size)) (hc : v.cells = vc)
  (hs : (vc.size == size && Nat.ble (off + vc.size) cells.size) = true) (hput : ey cells off vc.toList = cells') (h : Instr.fill place cells' rest = some out) : Instr.fill place cells ((i, v) :: rest) = some out := by
 subst hc
 rw [Bool.and_eq_true] at hs
 have h1 : v.cells.size = size := by simpa using hs.1
 have h2 : off + v.cells.size ≤ cells.size := by simpa [Nat.ble_eq] using hs.2
 simp only [Instr.fill, hp]
 rw [if_neg (by simp [h1]; omega), aAs, hput]
 exact h
theorem aW : ∀ u ∈ ([] : List Value), u.oneCell' = true := λ _ h => by cases h
theorem aq {v : Value} {l : List Value} (h : v.oneCell' = true) (t : ∀ u ∈ l, u.oneCell' = true) : ∀ u ∈ v :: l, u.oneCell' = true := λ u hu => by
 rcases List.mem_cons.1 hu with rfl | hu
 ·exact h
 ·exact t u hu
theorem cr {l m : List Value} (h : ∀ u ∈ l, u.oneCell' = true) (t : ∀ u ∈ m, u.oneCell' = true) : ∀ u ∈ l ++ m, u.oneCell' = true := λ u hu => (List.mem_append.1 hu).elim (h u) (t u)
theorem ew {α : Type} {f : α → Value} {xs : List α} (h : ∀ x, (f x).oneCell' = true) : ∀ u ∈ xs.map f, u.oneCell' = true := λ u hu => by
 obtain ⟨x, _, rfl⟩ := List.mem_map.1 hu
 exact h x
theorem aS.part {R : aA} {H : ak} {b o j n : Nat} {L vs : List Value} (h : aS R H b o L) (hv : (L.drop j).take n = vs) : aS R H b (o + j) vs := by
 intro i v hi
 subst hv
 rw [List.getElem?_take] at hi
 split at hi
 ·rw [List.getElem?_drop] at hi
  have := h _ _ hi
  simpa [Nat.add_assoc] using this
 ·cases hi
theorem aS.arr {α : Type} {R : aA} {H : ak} {b o k : Nat} {f : α → Value} {pre post : List Value} {xs : List α} {i : Int} {x : α} (h : aS R H b o (pre ++ (xs.map f ++ post))) (hi : idx xs i = some x) (hk : pre.length = k) : Cell R H ⟨b, o + k + i.toNat * 1, none⟩ (f x) := by
 obtain ⟨_, _, h3⟩ := wV hi
 have hlt := (List.getElem?_eq_some_iff.1 h3).1
 have := h (k + i.toNat) (f x) (by
  rw [List.getElem?_append_right (by omega), ← hk, Nat.add_sub_cancel_left, List.getElem?_append_left (by simpa using hlt)]
  simp [h3])
 simpa [Nat.add_assoc] using this
theorem aS.sub {R : aA} {H H' : ak} {b o : Nat} {L : List Value} (h : aS R H b o L) (hs : ∀ p ∈ H, p ∈ H') : aS R H' b o L := λ j v hj => by
 obtain ⟨h1, cs, e, fz, h2, h3⟩ := h j v hj
 exact ⟨h1, cs, e, fz, h2.imp id (hs _), h3⟩
theorem aS.le {R R' : aA} {H : ak} {b o : Nat} {L : List Value} (h : aS R H b o L) (hs : aO R R') : aS R' H b o L := λ j v hj => by
 obtain ⟨h1, cs, e, fz, h2, h3⟩ := h j v hj
 exact ⟨h1, cs, e, fz, h2.imp (hs _ _) id, h3⟩
theorem M7 {α : Type} {f : α → Value} {pre post : List Value} {xs : List α} {i : Int} {x y : α} {k : Nat} (hi : idx xs i = some y) (hk : pre.length = k) : ((pre ++ (xs.map f ++ post)).toArray).setIfInBounds (k + i.toNat * 1) (f x) = (pre ++ ((xs.set i.toNat x).map f ++ post)).toArray := by
 obtain ⟨_, _, h3⟩ := wV hi
 have hlt := (List.getElem?_eq_some_iff.1 h3).1
 subst hk
 simp only [Nat.mul_one, List.setIfInBounds_toArray, List.map_set]
 congr 1
 rw [List.set_append_right _ _ (by omega), Nat.add_sub_cancel_left, List.set_append_left _ _ (by simpa using hlt)]
theorem M6 {α : Type} {f : α → Value} {pre post : List Value} {xs : List α} {i : Int} {y : α} {k : Nat} (hi : idx xs i = some y) (hk : pre.length = k) : Nat.blt (k + i.toNat * 1) ((pre ++ (xs.map f ++ post)).toArray).size = true := by
 obtain ⟨_, _, h3⟩ := wV hi
 have hlt := (List.getElem?_eq_some_iff.1 h3).1
 rw [Nat.blt_eq]
 simp
 omega
theorem ee {L : List Value} {n : Nat} (h : L.length = n) : (L.drop 0).take n = L := by subst h; simp
theorem sL {P : Program} {α : Type} {t e len k b m : Nat} {i : Int} {xs : List α} {x : α} (ht : vG P t len e k) (hl : xs.length = len) (hi : idx xs i = some x) : BF P t (.pointer (some ⟨b, m, none⟩)) i b (m + i.toNat * k) := by
 obtain ⟨h1, h2, _⟩ := wV hi
 exact awh ht ⟨h1, by omega⟩
theorem az.one {α : Type} {C : cn α} {k : Nat} {R : aA} {v : Value} {xs : List α} (h : az C k R v xs) : v.oneCell' = true := by
 obtain ⟨A, cap, es, rfl, _⟩ := h; rfl
theorem az.cells {α : Type} {C : cn α} {k : Nat} {R : aA} {v : Value} {xs : List α} (h : az C k R v xs) : v.cells = #[v] := by
 obtain ⟨A, cap, es, rfl, _⟩ := h; rfl
theorem bg.cells {α : Type} {C : cn α} {k e : Nat} {R : aA} {v : Value} {xs : List α} {Hs : ak} (h : bg C k e R v xs Hs) : v.cells = #[v] := by
 rcases h with ⟨A, rfl, _⟩ | ⟨b, cap, cs, es, rfl, _⟩ <;> rfl
theorem bg.one {α : Type} {C : cn α} {k e : Nat} {R : aA} {v : Value} {xs : List α} {Hs : ak} (h : bg C k e R v xs Hs) : v.oneCell' = true := by
 rcases h with ⟨A, rfl, _⟩ | ⟨b, cap, cs, es, rfl, _⟩ <;> rfl
theorem aK.cons {α : Type} {C : cn α} {k : Nat} {R : aA} {x : α} {xs : List α} {e1 es : List Value} (h : C R x e1) (hk : e1.length = k) (g : aK C k R xs es) : aK C k R (x :: xs) (e1 ++ es) := (aK.single h hk).append g
theorem aK.le {α : Type} {C : cn α} {k : Nat} {R : aA} {xs : List α} {es fs : List Value} (h : aK C k R xs es) (e : es = fs) : aK C k R xs fs := by subst e; exact h
section
variable {P : Program} {B : Base} {main : Bool} {ah : Jd P B main} {c : Ctx} {R : aA} {H H' : ak} {st st' : St} {o : Oper} {k : List Item}
theorem aC.ghost {α : Type} {s : Sem α} {K : α → aA → ak → Prop} {R' : aA} (hg : ∀ w, Fits B R H w → di B R H w R' H' w) (h : aC P B R' H' s K) : aC P B R H s K := by
 intro w hw
 have h0 := hg w hw
 obtain ⟨a, w', bX, cx, h1, h2, h3, h4⟩ := h w h0.fits
 exact ⟨a, w', bX, cx, h1, λ e he => (h2 e he).up h0, h0.trans h3, h4⟩
theorem aB.ghost {f : FuncId} {args : Array Value} {Post : Value → aA → ak → Prop} {R' : aA} (hg : ∀ w, Fits B R H w → di B R H w R' H' w) (h : aB ah f args R' H' Post) : aB ah f args R H Post :=
 λ fr cs hk => ah.ghost hg (h fr cs hk)
inductive l9 (P : Program) (R : aA) (H : ak) (st : St) : List ResultVar → List Value → Prop
 | nil : l9 P R H st [] []
 | tmp {t : Tmp} {v : Value} {r : List ResultVar} {vs : List Value} : st.lookup t = some v → l9 P R H st r vs → l9 P R H st (.tmp t :: r) (v :: vs)
 | one {a : Tmp} {t : TypeId} {b o : Nat} {v : Value} {r : List ResultVar} {vs : List Value} : st.lookup a = some (.pointer (some ⟨b, o, none⟩)) → gr P t → Cell R H ⟨b, o, none⟩ v → l9 P R H st r vs → l9 P R H st (.cell a t :: r) (v :: vs)
 | agg {a : Tmp} {t : TypeId} {b o n : Nat} {us : List Value} {r : List ResultVar} {vs : List Value} : st.lookup a = some (.pointer (some ⟨b, o, none⟩)) → j4 P t n → us.length = n → aS R H b o us → l9 P R H st r vs → l9 P R H st (.cell a t :: r) (.agg us.toArray :: vs)
theorem aA1 {tmps : Array Value} {n : Nat} (ht : e6 n st tmps) : ∀ {l : List ResultVar} {vs : List Value}, l9 P R H st l vs → ∀ {K : List Value → aA → ak → Prop}, K vs R H →
  aC P B R H (l.mapM (m := Sem) λ
   | .tmp t => pure (tmps.getD t undef)
   | .cell a t => do loadVar t (← asAddr (tmps.getD a undef))) K := by
 intro l vs h
 induction h with
 | nil => intro K hk; exact aC.pure hk
 | @tmp t v r vs hl _ ih =>
  intro K hk
  rw [List.mapM_cons]
  have : tmps.getD t undef = v := by simp [Array.getD_eq_getD_getElem?, ht.2 t v hl]
  refine an.cz (a := v) (by show an P (pure (tmps.getD t undef)) v; rw [this]; exact an.pure _) (aC.bind (ih (K := λ us R' H' => K (v :: us) R' H') hk |>.mono λ us R' H' h => aC.pure h))
 | @one a t b o v r vs hl J8 hc _ ih =>
  intro K hk
  rw [List.mapM_cons]
  have : tmps.getD a undef = .pointer (some ⟨b, o, none⟩) := by simp [Array.getD_eq_getD_getElem?, ht.2 a _ hl]
  simp only [this]
  refine aC.bind (an.cz (a := ⟨b, o, none⟩) (an.pure _) ?_)
  unfold loadVar
  refine an.cz J8.1 (aC.load hc (aC.bind (ih (K := λ us R' H' => K (v :: us) R' H') hk |>.mono λ us R' H' h => aC.pure h)))
 | @agg a t b o n us r vs hl J8 hn hc _ ih =>
  intro K hk
  rw [List.mapM_cons]
  have : tmps.getD a undef = .pointer (some ⟨b, o, none⟩) := by simp [Array.getD_eq_getD_getElem?, ht.2 a _ hl]
  simp only [this]
  refine aC.bind (an.cz (a := ⟨b, o, none⟩) (an.pure _) ?_)
  unfold loadVar
  refine an.cz J8.1 ?_
  simp only [if_true]
  subst hn
  refine an.cz J8.2 (aC.bind (aC.loadCellsFrom us 0 #[] (by simpa using hc) (aC.pure ?_)))
  simp only [List.append_toArray, List.nil_append]
  exact aC.bind (ih (K := λ vs R' H' => K (.agg us.toArray :: vs) R' H') hk |>.mono λ us R' H' h => aC.pure h)
theorem La {fn : Func} {tmps : Array Value} {n : Nat} {vs : List Value} (ht : e6 n st tmps) (h : l9 P R H st fn.results.toList vs) : aC P B R H (results fn tmps) λ v R' H' => v = pG vs ∧ R' = R ∧ H' = H := by
 unfold results
 rw [← Array.toArray_toList (xs := fn.results), List.mapM_toArray]
 refine aC.bind (aC.map (aA1 ht h ?_))
 cases vs with
 | nil => exact aC.pure ⟨rfl, rfl, rfl⟩
 | cons v r => cases r with
  | nil => exact aC.pure ⟨rfl, rfl, rfl⟩
  | cons _ _ => exact aC.pure ⟨rfl, rfl, rfl⟩
theorem At.aAG {fr : Frame} {cs : List Frame} {f : FuncId} {n : Nat} {fn : Func} {vs : List Value} (hf : P.funcs[f]? = some fn) (hr : l9 P R H st fn.results.toList vs) (hj : ah.J R H (bt (fr.finish (pG vs)) cs)) :
  At ah ⟨f, .normal, none, n, [], fr :: cs⟩ R H st (.code .ret :: k) := λ tmps ht => by
 refine Jd.ctl (g' := bt { (bl ⟨f, .normal, none, n, [], fr :: cs⟩ tmps (.code .ret :: k)) with mode := .returning } (fr :: cs)) rfl (λ w => by simp [stepG, stepG.exec, bt, bl])
  (ah.step rfl λ w hw => ?_)
 obtain ⟨v, w', R', H', h1, h2, h3, rfl, rfl, rfl⟩ := La (P := P) ht hr w hw
 refine ⟨bt (fr.finish (pG vs)) cs, w', seen P f ((results fn tmps).events P w #[]), R', H', ?_, λ e he => h2 e (mem_seen he), h3, hj⟩
 simp [stepG, unwind, doReturn, bt, bl, hf, h1, GStep.after]
theorem At.oc {fr : Frame} {cs : List Frame} {f : FuncId} {n : Nat} {fn : Func} {vs : List Value} (hf : P.funcs[f]? = some fn) (hr : l9 P R H st fn.results.toList vs) (hj : ah.J R H (bt (fr.finish (pG vs)) cs)) :
  At ah ⟨f, .normal, none, n, [], fr :: cs⟩ R H st [] := λ tmps ht => by
 refine Jd.ctl (g' := bt { (bl ⟨f, .normal, none, n, [], fr :: cs⟩ tmps []) with mode := .returning } (fr :: cs)) rfl (λ w => by simp [stepG, stepG.exec, bt, bl])
  (ah.step rfl λ w hw => ?_)
 obtain ⟨v, w', R', H', h1, h2, h3, rfl, rfl, rfl⟩ := La (P := P) ht hr w hw
 refine ⟨bt (fr.finish (pG vs)) cs, w', seen P f ((results fn tmps).events P w #[]), R', H', ?_, λ e he => h2 e (mem_seen he), h3, hj⟩
 simp [stepG, unwind, doReturn, bt, bl, hf, h1, GStep.after]
end
section
variable {P : Program} {B : Base} {main : Bool}
abbrev j6 (α : Type) := aA → α → Value → Prop
def nZ (ah : Jd P B main) (R : aA) (H : ak) {α β : Type} (A : j6 α) (D : j6 β) (v : Value) (f : α → Option β) : Prop :=
 ∃ fid first captured, v = .func (.func fid) first captured ∧ aZ P fid ∧ ∀ R' H', aO R R' → (∀ p ∈ H, p ∈ H') → ∀ x r va, A R' x va → f x = some r → aB ah fid (first ++ #[va] ++ captured) R' H' λ v bX cx => aO R' bX ∧ cx = H' ∧ D bX r v
def VI (kd : IntKind) : j6 Int := λ _ x v => v = .int kd x
def VB : j6 Bool := λ _ x v => v = .bool x
def Ej {α : Type} (C : cn α) (k : Nat) : j6 (List α) := λ R xs v => az C k R v xs
def j5 {α : Type} (C : cn α) : j6 α := λ R x v => ∃ es, v = .agg (List.toArray es) ∧ C R x es
theorem nZ.up {ah : Jd P B main} {R R' : aA} {H H' : ak} {α β : Type} {A : j6 α} {D : j6 β} {v : Value} {f : α → Option β} (h : nZ ah R H A D v f) (hR : aO R R') (hH : ∀ p ∈ H, p ∈ H') : nZ ah R' H' A D v f := by
 obtain ⟨fid, first, captured, h1, h2, h3⟩ := h
 exact ⟨fid, first, captured, h1, h2, λ bX cx qe hH' => h3 bX cx (hR.trans qe) (λ p hp => hH' p (hH p hp))⟩
end
end Go.Lg
namespace Go.Lg
open Go.Conc
theorem gV {h l1 l2 : ak} (p : List.Sublist l1 l2) : List.Sublist (h ++ l1) (h ++ l2) := List.Sublist.append (List.Sublist.refl _) p
theorem aH {h l1 l2 : ak} (p : List.Sublist l1 l2) : List.Sublist l1 (h ++ l2) := by
 induction h with
 | nil => exact p
 | cons a h ih => exact ih.cons a
def H7 {α : Type} (f : α → Value) (n : Nat) : cn (List α) := λ _ xs es => xs.length = n ∧ es = [] ++ (xs.map f ++ [])
theorem dZ {vs : List Value} {cs : Array Value} (h : vs.length = cs.size) : ey cs 0 vs = vs.toArray := by
 have hs : (ey cs 0 vs).size = cs.size := G8 _ _ _
 apply Array.ext_getElem?
 intro j
 rw [AJ vs cs 0 j (by omega)]
 by_cases hj : j < vs.length
 ·rw [if_pos (by omega)]; simp
 ·rw [if_neg (by omega)]
  rw [Array.getElem?_eq_none (by omega)]
  simp [Nat.not_lt.1 hj]
section
variable {P : Program} {B : Base} {main : Bool} {ah : Jd P B main} {c : Ctx} {R : aA} {H : ak} {st : St} {k : List Item} {o : Oper} {C : aA → ak → St → Prop}
theorem At.axk {S Q ρ : Type} {body : S → Option (S ⊕ Q)} {s0 : S} {code : Code} {g : Q → Option ρ} {r : ρ} (hM : (Go.Lg.br body s0).bind g = some r) (I : S → aA → ak → St → Prop) (h0 : I s0 R H st) (hb : ∀ s R H st, I s R H st → ∀ x, body s = some x → (∀ s', x = Sum.inl s' → ∀ R' H' st', I s' R' H' st' → At ah c R' H' st' (.inLoop code :: k)) → (∀ p, x = (Sum.inr p) → g p = some r) → At ah c R H st (.code code :: .inLoop code :: k)) : At ah c R H st (.code (.loop code) :: k) := At.br hM I (λ s R H st hI x hx again out => hb s R H st hI x hx again (λ _ hp => out _ hp)) h0
theorem At.eI {S P0 ρ : Type} {body : S → Option (S ⊕ P0)} {s0 : S} {code : Code} {f0 : P0 → Option ρ} {r : ρ} {k0 : List Item} (hM : (Go.Lg.br body s0).bind f0 = some r) (I : S → aA → ak → St → Prop) (E0 : P0 → aA → ak → St → Prop) (SV : Nat) (_ : exitTo SV k = some k0) (h0 : I s0 R H st) (ha0 : ∀ p R H st, E0 p R H st → f0 p = some r → At ah c R H st k0) (hb : ∀ s R H st, I s R H st → ∀ x, body s = some x → (∀ s', x = Sum.inl s' → ∀ R' H' st', I s' R' H' st' → At ah c R' H' st' (.inLoop code :: k)) → (∀ p, x = (Sum.inr p) → ∀ R' H' st', E0 p R' H' st' → At ah c R' H' st' k0) → At ah c R H st (.code code :: .inLoop code :: k)) : At ah c R H st (.code (.loop code) :: k) := At.br hM I (λ s R H st hI x hx again out => hb s R H st hI x hx again (λ p hp R' H' st' hE => ha0 p R' H' st' hE (out _ hp))) h0
theorem At.eR {S P0 Q ρ : Type} {body : S → Option (S ⊕ (P0 ⊕ Q))} {s0 : S} {code : Code} {f0 : P0 → Option ρ} {g : Q → Option ρ} {r : ρ} {k0 : List Item} (hM : (Go.Lg.br body s0).bind (Sum.elim f0 g) = some r) (I : S → aA → ak → St → Prop) (E0 : P0 → aA → ak → St → Prop) (SV : Nat) (_ : exitTo SV k = some k0) (h0 : I s0 R H st) (ha0 : ∀ p R H st, E0 p R H st → f0 p = some r → At ah c R H st k0) (hb : ∀ s R H st, I s R H st → ∀ x, body s = some x → (∀ s', x = Sum.inl s' → ∀ R' H' st', I s' R' H' st' → At ah c R' H' st' (.inLoop code :: k)) → (∀ p, x = (Sum.inr (Sum.inl p)) → ∀ R' H' st', E0 p R' H' st' → At ah c R' H' st' k0) → (∀ p, x = (Sum.inr (Sum.inr p)) → g p = some r) → At ah c R H st (.code code :: .inLoop code :: k)) : At ah c R H st (.code (.loop code) :: k) := At.br hM I (λ s R H st hI x hx again out => hb s R H st hI x hx again (λ p hp R' H' st' hE => ha0 p R' H' st' hE (out _ hp)) (λ _ hp => out _ hp)) h0
theorem At.eZ {P0 ρ : Type} {A : Option P0} {it : Item} {f0 : P0 → Option ρ} {r : ρ} (hM : A.bind f0 = some r) (E0 : P0 → aA → ak → St → Prop) (ha0 : ∀ p R H st, E0 p R H st → f0 p = some r → At ah c R H st k) (hb : ∀ x, A = some x → (∀ p, x = p → ∀ R' H' st', E0 p R' H' st' → At ah c R' H' st' k) → At ah c R H st (it :: k)) : At ah c R H st (it :: k) := by
 obtain ⟨x, h1, h2⟩ := aj hM
 exact hb x h1 (λ p hp R' H' st' hE => ha0 p R' H' st' hE (by subst hp; exact h2))
theorem At.awn {P0 Q ρ : Type} {A : Option (P0 ⊕ Q)} {it : Item} {f0 : P0 → Option ρ} {g : Q → Option ρ} {r : ρ} (hM : A.bind (Sum.elim f0 g) = some r) (E0 : P0 → aA → ak → St → Prop) (ha0 : ∀ p R H st, E0 p R H st → f0 p = some r → At ah c R H st k) (hb : ∀ x, A = some x → (∀ p, x = (Sum.inl p) → ∀ R' H' st', E0 p R' H' st' → At ah c R' H' st' k) → (∀ p, x = (Sum.inr p) → g p = some r) → At ah c R H st (it :: k)) : At ah c R H st (it :: k) := by
 obtain ⟨x, h1, h2⟩ := aj hM
 exact hb x h1 (λ p hp R' H' st' hE => ha0 p R' H' st' hE (by subst hp; exact h2)) (λ p hp => by subst hp; exact h2)
theorem Ox.BN {α β : Type} {A : j6 α} {D : j6 β} {f : α → Option β} {x y : Operand} {ts : Array TypeId} {v va : Value} {a : α} {r : β} {H0 : ak} (h : nZ ah R H0 A D v f)
  (hop : o.op = .call ⟨.value x, #[y], ts⟩) (hx : bh st x = some v) (hy : bh st y = some va) (hA : A R a va) (hf : f a = some r) (hd : cg o.dst c.n) (hH : ∀ p ∈ H0, p ∈ H)
  (hC : ∀ w R', aO R R' → D R' r w → ∃ st', aF (bS o.dst w st) st' ∧ C R' H st') : l7 ah c o R H st C := by
 obtain ⟨fid, first, captured, rfl, he, hk⟩ := h
 refine Ox.cD (vs := [va]) hop rfl hx (by simp [pY, hy]) he rfl hd ((hk R H (aO.refl _) hH a r va hA hf).mono λ w R' H' h => ?_)
 obtain ⟨h1, rfl, h3⟩ := h
 exact hC w R' h1 h3
end
end Go.Lg
namespace Go.Lg
open Go.Conc
def bV {α : Type} (C : cn α) (k : Nat) (R : aA) (H : ak) (v : Value) (xs : List α) : Prop :=
 ∃ A cap es, v = .slice A xs.length cap ∧ aK C k R xs es ∧ xs.length ≤ cap ∧ (xs ≠ [] → ∃ b o, A = some ⟨b, o, none⟩ ∧ aS R H b o es)
theorem bV.le {α : Type} {C : cn α} [CM C] {k : Nat} {R R' : aA} {H : ak} {v : Value} {xs : List α} (h : bV C k R H v xs) (hR : aO R R') : bV C k R' H v xs := by
 obtain ⟨A, cap, es, h1, h2, h3, h4⟩ := h
 refine ⟨A, cap, es, h1, h2.mono hR, h3, λ hx => ?_⟩
 obtain ⟨b, o, g1, g2⟩ := h4 hx
 exact ⟨b, o, g1, g2.le hR⟩
theorem bV.sub {α : Type} {C : cn α} {k : Nat} {R : aA} {H H' : ak} {v : Value} {xs : List α} (h : bV C k R H v xs) (hs : ∀ p ∈ H, p ∈ H') : bV C k R H' v xs := by
 obtain ⟨A, cap, es, h1, h2, h3, h4⟩ := h
 refine ⟨A, cap, es, h1, h2, h3, λ hx => ?_⟩
 obtain ⟨b, o, g1, g2⟩ := h4 hx
 exact ⟨b, o, g1, g2.sub hs⟩
theorem az.rd {α : Type} {C : cn α} {k : Nat} {R : aA} {H : ak} {v : Value} {xs : List α} (h : az C k R v xs) : bV C k R H v xs := by
 obtain ⟨A, cap, es, h1, h2, hc, h3⟩ := h
 refine ⟨A, cap, es, h1, h2, hc, λ hx => ?_⟩
 obtain ⟨b, o, arr, e, fz, g1, g2, g3⟩ := h3 hx
 exact ⟨b, o, g1, λ j w hj => ⟨rfl, arr, e, fz, .inl g2, g3 j w hj⟩⟩
theorem bg.rd {α : Type} {C : cn α} {k e : Nat} {R : aA} {H : ak} {v : Value} {xs : List α} {Hs : ak} (h : bg C k e R v xs Hs) (hs : ∀ p ∈ Hs, p ∈ H) : bV C k R H v xs := by
 rcases h with ⟨A, rfl, rfl, rfl⟩ | ⟨b, cap, cs, es, rfl, rfl, h3, h4, h5, h6⟩
 ·exact ⟨A, 0, [], rfl, .nil, Nat.le_refl _, λ h => absurd rfl h⟩
 ·exact ⟨_, cap, es, rfl, h5, h4, λ _ => ⟨b, 0, rfl, λ j w hj => ⟨rfl, cs, e, (0, 0), .inr (hs _ (by simp)), by simpa using h6 j w hj⟩⟩⟩
theorem bV.lit {α : Type} {C : cn α} {k e n b : Nat} {R : aA} {H : ak} {ys : List α} {cs : Array Value} {fz : Nat × Nat} (hm : (b, Obj.cells cs e fz) ∈ H) (hE : aK C k R ys cs.toList) (hn : ys.length = n) : bV C k R H (.slice (some ⟨b, 0, none⟩) n n) ys := by
 subst hn
 exact ⟨_, ys.length, cs.toList, rfl, hE, Nat.le_refl _, λ _ => ⟨b, 0, rfl, λ j w hj => ⟨rfl, cs, e, fz, .inr hm, by simpa using hj⟩⟩⟩
theorem bV.arg {α : Type} {C : cn α} {k : Nat} {R : aA} {H : ak} {v : Value} {xs : List α} (h : bV C k R H v xs) : dR C k R H v xs := by
 obtain ⟨A, cap, es, h1, h2, _, h3⟩ := h
 exact ⟨A, cap, es, h1, h2, h3⟩
theorem bV.elem {P : Program} {α : Type} {K : cn α} {k t e : Nat} {R : aA} {H : ak} {v : Value} {xs : List α} {i : Int} {x : α} (h : bV K k R H v xs) (ht : lp P t e k) (hi : idx xs i = some x) :
  ∃ b n es, K R x es ∧ aS R H b n es ∧ BF P t v i b n := by
 obtain ⟨h1, h2, h3⟩ := wV hi
 obtain ⟨A, cap, es, rfl, hE, _, hc⟩ := h
 obtain ⟨b, o, rfl, g2⟩ := hc (by rintro rfl; simp at h3)
 obtain ⟨e1, f1, f2, f3⟩ := hE.at_ _ _ h3
 refine ⟨b, o + i.toNat * k, e1, f1, λ j w hj => ?_, λ kd => ?_⟩
 ·have := g2 _ _ (f3 j w hj)
  simpa [Nat.add_assoc] using this
 ·have := Ur (P := P) (b := b) (m := o) (cap := cap) (kd := kd) ht (j := i.toNat) (len := xs.length) (by omega)
  rwa [Int.toNat_of_nonneg h1] at this
theorem aBE (a b : Nat × Obj) (l : ak) : List.Perm (a :: b :: l) (b :: a :: l) := List.Perm.swap _ _ _
theorem Lh (a : Nat × Obj) (B l : ak) : List.Perm (a :: (B ++ l)) (B ++ (a :: l)) := List.perm_middle.symm
section
variable {P : Program} {B : Base} {main : Bool} {ah : Jd P B main} {c : Ctx} {R : aA} {H H' : ak} {st st' : St} {o : Oper} {C : aA → ak → St → Prop} {k : List Item}
theorem Ox.S2 {α : Type} {K : cn α} {k : Nat} {x : Operand} {t e : TypeId} {v : Value} {xs : List α} {H0 : ak} (hop : o.op = .call ⟨.builtin .len, #[x], #[t]⟩) (hx : bh st x = some v) (hl : bV K k R H0 v xs) (ht : P.underlying t = some (.slice e))
  (hd : cg o.dst c.n) (hs : aF (bS o.dst (.int .i64 (xs.length : Int)) st) st') (h : C R H st') : aP P B c o R H st C := by
 obtain ⟨A, cap, es, rfl, _⟩ := hl
 exact Ox.len hop hx ht hd hs h
theorem At.cut {it : Item} (E : aA → ak → St → Prop) (h1 : ∀ R' H' st', E R' H' st' → At ah c R' H' st' k) (h2 : (∀ R' H' st', E R' H' st' → At ah c R' H' st' k) → At ah c R H st (it :: k)) : At ah c R H st (it :: k) := h2 h1
theorem Any.aBL {S : Nat → ak} {ops : Array Oper} {n : Nat} {rem ra rb : List Nat} {i j : Nat} {a b : Oper} (ha : ops[i]? = some a) (hb : ops[j]? = some b) (hrd : rem.filter (kU ops rem) = [i, j]) (F1 : dG ops st a = some true) (F2 : dG ops st b = some true) (cE : rem.Nodup) (Qd : rem.erase i = ra) (hrb : rem.erase j = rb)
  (h1 : l7 ah c a R H st λ R' H' st' => aO R R' ∧ (∀ p ∈ S i, p ∈ H → p ∈ H') ∧ Any ah c S ops k n ra R' H' st')
  (h2 : l7 ah c b R H st λ R' H' st' => aO R R' ∧ (∀ p ∈ S j, p ∈ H → p ∈ H') ∧ Any ah c S ops k n rb R' H' st') : Any ah c S ops k (n + 1) rem R H st := by
 subst Qd hrb
 refine ⟨cE, λ tmps ht => .inr ⟨(λ e => by rw [e] at hrd; cases hrd), λ _ x hx SO => ?_⟩⟩
 have : x ∈ rem.filter (kU ops rem) := List.mem_filter.2 ⟨hx, SO⟩
 rw [hrd] at this
 simp only [List.mem_cons, List.not_mem_nil, or_false] at this
 rcases this with rfl | rfl
 ·exact h1.CW ha (lU ht F1) ht
 ·exact h2.CW hb (lU ht F2) ht
theorem Any.ab8 {S : Nat → ak} {ops : Array Oper} {n : Nat} {rem ra rb rc : List Nat} {i j l : Nat} {a b d : Oper} (ha : ops[i]? = some a) (hb : ops[j]? = some b) (hd : ops[l]? = some d) (hrd : rem.filter (kU ops rem) = [i, j, l]) (F1 : dG ops st a = some true) (F2 : dG ops st b = some true) (hwd : dG ops st d = some true) (cE : rem.Nodup) (Qd : rem.erase i = ra) (hrb : rem.erase j = rb) (hrc : rem.erase l = rc)
  (h1 : l7 ah c a R H st λ R' H' st' => aO R R' ∧ (∀ p ∈ S i, p ∈ H → p ∈ H') ∧ Any ah c S ops k n ra R' H' st')
  (h2 : l7 ah c b R H st λ R' H' st' => aO R R' ∧ (∀ p ∈ S j, p ∈ H → p ∈ H') ∧ Any ah c S ops k n rb R' H' st')
  (h3 : l7 ah c d R H st λ R' H' st' => aO R R' ∧ (∀ p ∈ S l, p ∈ H → p ∈ H') ∧ Any ah c S ops k n rc R' H' st') : Any ah c S ops k (n + 1) rem R H st := by
 subst Qd hrb hrc
 refine ⟨cE, λ tmps ht => .inr ⟨(λ e => by rw [e] at hrd; cases hrd), λ _ x hx SO => ?_⟩⟩
 have : x ∈ rem.filter (kU ops rem) := List.mem_filter.2 ⟨hx, SO⟩
 rw [hrd] at this
 simp only [List.mem_cons, List.not_mem_nil, or_false] at this
 rcases this with rfl | rfl | rfl
 ·exact h1.CW ha (lU ht F1) ht
 ·exact h2.CW hb (lU ht F2) ht
 ·exact h3.CW hd (lU ht hwd) ht
end
end Go.Lg
namespace Go.Lg
open Go.Conc
section
variable {P : Program} {d : Nat} {xs ys : Array Value}
inductive D2 (P : Program) (d : Nat) (xs ys : Array Value) : List Field → Bool → Prop
 | nil : D2 P d xs ys [] true
 | cons {f : Field} {rest : List Field} {a b : Value} {r r' : Bool} : (f.name == "_") = false → an P (part f.type xs f.offset) a → an P (part f.type ys f.offset) b → an P (Op.equalIn d f.type a b) r → D2 P d xs ys rest r' → D2 P d xs ys (f :: rest) (r && r')
def abl (r : Bool) : Option Bool × Unit := (if r then none else some false, ())
theorem aBS {fs : List Field} {r : Bool} (h : D2 P d xs ys fs r) :
  an P (forIn fs ((none : Option Bool), ()) λ f (_ : Option Bool × Unit) =>
      if f.name ≠ "_" then do
       let a ← part f.type xs f.offset
       let b ← part f.type ys f.offset
       let q ← Op.equalIn d f.type a b
       if (!q) = true then pure (ForInStep.done (some false, ())) else pure (ForInStep.yield (none, ()))
      else pure (ForInStep.yield (none, ()))) (abl r) := by
 induction h with
 | nil => rw [List.forIn_nil]; exact an.pure _
 | @cons f rest a b r r' hn ha hb hq _ ih =>
  have hn' : f.name ≠ "_" := by simpa using hn
  rw [List.forIn_cons]
  simp only [hn', ne_eq, not_false_iff, if_true, bind_assoc]
  refine an.bind ha (an.bind hb (an.bind hq ?_))
  cases r with
  | false => simp only [Bool.not_false, if_true, pure_bind, Bool.false_and]; exact an.pure _
  | true =>
   simp only [Bool.not_true, Bool.false_eq_true, if_false, pure_bind, Bool.true_and]
   simpa only [ne_eq] using ih
theorem Uq {t : TypeId} {fields : Array Field} {r : Bool} (hu : P.underlying t = some (.struct fields)) (hst : P.stoodInHeld t = false) (h : D2 P d xs ys fields.toList r) : an P (Op.equalIn (d+1) t (.agg xs) (.agg ys)) r := by
 rw [Op.equalIn]
 refine an.bind (an.underlying hu) ?_
 dsimp only
 refine an.bind an.program ?_
 simp only [hst, Bool.false_eq_true, if_false]
 rw [← Array.forIn_toList]
 refine an.bind (aBS h) ?_
 cases r <;> exact an.pure _
theorem Dg {t : TypeId} {kd : IntKind} {a b : Int} (hu : P.underlying t = some (.int kd)) : an P (Op.equalIn (d+1) t (.int kd a) (.int kd b)) (a == b) := by
 rw [Op.equalIn]
 refine an.bind (an.underlying hu) ?_
 simp only [if_true]
 exact an.pure _
theorem Ht {t : TypeId} {a b : Bool} (hu : P.underlying t = some .bool) : an P (Op.equalIn (d+1) t (.bool a) (.bool b)) (a == b) := by
 rw [Op.equalIn]
 exact an.bind (an.underlying hu) (an.pure _)
inductive D1 (P : Program) (d : Nat) (elem : TypeId) (n : Nat) (xs ys : Array Value) : List Nat → Bool → Prop
 | nil : D1 P d elem n xs ys [] true
 | cons {i : Nat} {rest : List Nat} {a b : Value} {r r' : Bool} : an P (part elem xs (i * n)) a → an P (part elem ys (i * n)) b → an P (Op.equalIn d elem a b) r → D1 P d elem n xs ys rest r' → D1 P d elem n xs ys (i :: rest) (r && r')
theorem aBR {elem : TypeId} {n : Nat} {is : List Nat} {r : Bool} (h : D1 P d elem n xs ys is r) :
  an P (forIn is ((none : Option Bool), ()) λ i (_ : Option Bool × Unit) => do
      let a ← part elem xs (i * n)
      let b ← part elem ys (i * n)
      let q ← Op.equalIn d elem a b
      if (!q) = true then pure (ForInStep.done (some false, ())) else pure (ForInStep.yield (none, ()))) (abl r) := by
 induction h with
 | nil => rw [List.forIn_nil]; exact an.pure _
 | @cons i rest a b r r' ha hb hq _ ih =>
  rw [List.forIn_cons]
  simp only [bind_assoc]
  refine an.bind ha (an.bind hb (an.bind hq ?_))
  cases r with
  | false => simp only [Bool.not_false, if_true, pure_bind, Bool.false_and]; exact an.pure _
  | true =>
   simp only [Bool.not_true, Bool.false_eq_true, if_false, pure_bind, Bool.true_and]
   exact ih
theorem aBP {n len : Nat} {t elem : TypeId} {r : Bool} (hu : P.underlying t = some (.array len elem)) (hs : an P (sizeOf elem) n) (h : D1 P d elem n xs ys (List.range len) r) : an P (Op.equalIn (d+1) t (.agg xs) (.agg ys)) r := by
 rw [Op.equalIn]
 refine an.bind (an.underlying hu) ?_
 dsimp only
 refine an.bind hs ?_
 rw [Std.Legacy.Range.forIn_eq_forIn_range']
 simp only [Std.Legacy.Range.size, Nat.sub_zero, Nat.add_sub_cancel, Nat.div_one]
 rw [← List.range_eq_range']
 refine an.bind (aBR h) ?_
 cases r <;> exact an.pure _
end
end Go.Lg
namespace Go.Lg
open Go.Conc
def eO (s : ByteArray) : List Int := s.data.toList.map λ b => (b.toNat : Int)
def qX (s : ByteArray) (i : Int) : Option Int := idx (eO s) i
section
variable {P : Program} {B : Base} {main : Bool} {ah : Jd P B main} {c : Ctx} {R : aA} {H H' : ak} {st st' : St} {o : Oper} {C : aA → ak → St → Prop} {k : List Item}
theorem Ox.Kp {x y : Operand} {t : TypeId} {s : ByteArray} {kd : IntKind} {i z : Int} (hop : o.op = .index t x y) (hx : bh st x = some (.string s)) (hy : bh st y = some (.int kd i)) (ht : P.underlying t = some .string) (hz : qX s i = some z)
  (hd : cg o.dst c.n) (hs : aF (bS o.dst (.int .u8 z) st) st') (h : C R H st') : aP P B c o R H st C :=
 Ox.val' (s := λ ρ => Instr.index t (ρ x) (ρ y)) (by rw [hop]; rfl) hd (λ ρ => by simp only [execOp, hop]) (λ ρ hρ => by
  rw [hρ x _ hx, hρ y _ hy]
  obtain ⟨h1, h2, h3⟩ := wV hz
  unfold eO at h3
  rw [List.getElem?_map] at h3
  obtain ⟨b, hb, rfl⟩ := Option.map_eq_some_iff.1 h3
  unfold Instr.index
  refine an.bind (a := (kd, i)) (an.pure _) (an.bind (an.underlying ht) ?_)
  have e : (if 0 ≤ i then s[i.toNat]? else none) = some b := by
   rw [if_pos h1]
   have hb' : s.data[i.toNat]? = some b := by simpa using hb
   rw [← hb']
   rfl
  simp only [e]
  exact an.pure _) hs h
def Vy (P : Program) (t : TypeId) (z : Array Value) : Prop := gv P t z ∧ ∃ n e m, P.underlying t = some (.array n e) ∧ an P (sizeOf e) m
theorem Ox.p9 {t : TypeId} {z : Array Value} (hop : o.op = .build t #[]) (ht : Vy P t z)
  (hd : cg o.dst c.n) (hs : aF (bS o.dst (.agg z) st) st') (h : C R H st') : aP P B c o R H st C :=
 Ox.val' (s := λ _ => Instr.build t #[]) (by rw [hop]; rfl) hd (λ ρ => by simp [execOp, hop]) (λ ρ hρ => by
  obtain ⟨⟨z0, hz, rfl⟩, n, e, m, h1, h2⟩ := ht
  unfold Instr.build
  exact an.bind hz (an.bind (an.underlying h1) (an.bind h2 (an.pure _)))) hs h
def Bx (P : Program) (t _ : Nat) (v : Value) (len l h : Int) (v' : Value) : Prop :=
 ∀ (ρ : Operand → Value) (st : St) (x : Operand) (lo hi : Option Operand), Knows st ρ → ρ x = v → Gy st lo = some l → E6 st len.toNat hi = some h → an P (Instr.sliceAt t (ρ x) (lo.map ρ) (hi.map ρ) none) v'
theorem bV.cut {α : Type} {K : cn α} {k t e : Nat} {xs ys : List α} {v : Value} {l h : Int} {H0 : ak} (hS : bV K k R H0 v xs) (ht : lp P t e k) (hc : jN xs l h = some ys) : ∃ v', bV K k R H0 v' ys ∧ Bx P t k v (xs.length : Int) l h v' := by
 obtain ⟨h1, h2, h3, rfl⟩ := EA hc
 obtain ⟨A, cap, es, rfl, hE, hcap, hm⟩ := hS
 refine ⟨(.slice (if cap = l.toNat then A else A.map (·.add (l.toNat * k))) (h.toNat - l.toNat) (cap - l.toNat)), ?_, ?_⟩
 ·have r5 : ((xs.take h.toNat).drop l.toNat).length = h.toNat - l.toNat := by
   simp only [List.length_drop, List.length_take]
   omega
  refine ⟨(if cap = l.toNat then A else A.map (·.add (l.toNat * k))), cap - l.toNat, (es.take (h.toNat * k)).drop (l.toNat * k), by rw [r5], hE.take.drop, by rw [r5]; omega, λ hne => ?_⟩
  have hlt : l.toNat < h.toNat := by
   apply Classical.byContradiction
   intro hn
   apply hne
   apply List.eq_nil_of_length_eq_zero
   simp only [List.length_drop, List.length_take]
   omega
  obtain ⟨b, o', rfl, g2⟩ := hm (by rintro rfl; simp at h3; omega)
  refine ⟨b, o' + l.toNat * k, ?_, λ j w hj => ?_⟩
  ·rw [if_neg (by omega)]; simp [n6]
  ·rw [List.getElem?_drop, List.getElem?_take] at hj
   split at hj
   ·have := g2 _ _ hj
    simpa [Nat.add_assoc] using this
   ·cases hj
 ·intro ρ st x lo hi hρ hx hl hh
  rw [Int.toNat_natCast] at hh
  rw [hx]
  unfold Instr.sliceAt
  refine an.bind (an.underlying ht.1) ?_
  unfold Instr.slice
  refine an.bind (an.underlying ht.1) (an.bind (Ls hρ hl hh ⟨h1, h2, h3⟩ hcap) (an.bind ht.2 (an.pure _)))
theorem az.cut {α : Type} {K : cn α} {k t e : Nat} {xs ys : List α} {v : Value} {l h : Int} (hS : az K k R v xs) (ht : lp P t e k) (hc : jN xs l h = some ys) : ∃ v', az K k R v' ys ∧ Bx P t k v (xs.length : Int) l h v' := by
 obtain ⟨h1, h2, h3, rfl⟩ := EA hc
 obtain ⟨A, cap, es, rfl, hE, hcap, hm⟩ := hS
 refine ⟨(.slice (if cap = l.toNat then A else A.map (·.add (l.toNat * k))) (h.toNat - l.toNat) (cap - l.toNat)), ?_, ?_⟩
 ·have r5 : ((xs.take h.toNat).drop l.toNat).length = h.toNat - l.toNat := by
   simp only [List.length_drop, List.length_take]
   omega
  refine ⟨(if cap = l.toNat then A else A.map (·.add (l.toNat * k))), cap - l.toNat, (es.take (h.toNat * k)).drop (l.toNat * k), by rw [r5], hE.take.drop, by rw [r5]; omega, λ hne => ?_⟩
  have hlt : l.toNat < h.toNat := by
   apply Classical.byContradiction
   intro hn
   apply hne
   apply List.eq_nil_of_length_eq_zero
   simp only [List.length_drop, List.length_take]
   omega
  obtain ⟨b, o', arr, e', fz, rfl, g2, g3⟩ := hm (by rintro rfl; simp at h3; omega)
  refine ⟨b, o' + l.toNat * k, arr, e', fz, ?_, g2, λ j w hj => ?_⟩
  ·rw [if_neg (by omega)]; simp [n6]
  ·rw [List.getElem?_drop, List.getElem?_take] at hj
   split at hj
   ·have := g3 _ _ hj
    simpa [Nat.add_assoc] using this
   ·cases hj
 ·intro ρ st x lo hi hρ hx hl hh
  rw [Int.toNat_natCast] at hh
  rw [hx]
  unfold Instr.sliceAt
  refine an.bind (an.underlying ht.1) ?_
  unfold Instr.slice
  refine an.bind (an.underlying ht.1) (an.bind (Ls hρ hl hh ⟨h1, h2, h3⟩ hcap) (an.bind ht.2 (an.pure _)))
theorem Ox.EB {x : Operand} {t k : Nat} {lo hi : Option Operand} {v v' : Value} {len l h : Int} (hop : o.op = .slice t x lo hi none) (hx : bh st x = some v) (hl : Gy st lo = some l) (hh : E6 st len.toNat hi = some h) (hc : Bx P t k v len l h v') (hd : cg o.dst c.n)
  (hs : aF (bS o.dst v' st) st') (hC : C R H st') : aP P B c o R H st C :=
 Ox.val' (s := λ ρ => Instr.sliceAt t (ρ x) (lo.map ρ) (hi.map ρ) none) (by rw [hop]; rfl) hd (λ ρ => by simp only [execOp, hop]; rfl) (λ ρ hρ => hc ρ st x lo hi hρ (hρ x _ hx) hl hh) hs hC
theorem bg.eu {α : Type} {K : cn α} {k t e : Nat} {v : Value} {xs : List α} {Hs : ak} {i : Int} {x : α} (h : bg K k e R v xs Hs) (ht : lp P t e k) (hi : idx xs i = some x) :
  ∃ b cs es, K R x es ∧ Hs = [(b, .cells cs e (0, 0))] ∧ aS R Hs b (i.toNat * k) es ∧ (∀ (j : Nat) (w : Value), es[j]? = some w → cs[i.toNat * k + j]? = some w) ∧ BF P t v i b (i.toNat * k) ∧ es.length = k ∧ i.toNat * k + k ≤ cs.size ∧
   ∀ x' es', K R x' es' → es'.length = k → bg K k e R v (xs.set i.toNat x') [(b, .cells (ey cs (i.toNat * k) es') e (0, 0))] := by
 obtain ⟨h1, h2, h3⟩ := wV hi
 rcases h with ⟨A, rfl, rfl, rfl⟩ | ⟨b, cap, cs, es, rfl, rfl, g3, g4, g5, g6⟩
 ·simp at h3
 obtain ⟨e1, f1, f2, f3⟩ := g5.at_ _ _ h3
 have hlt : i.toNat < xs.length := (List.getElem?_eq_some_iff.1 h3).1
 have hsz : i.toNat * k + k ≤ xs.length * k := by
  calc i.toNat * k + k = (i.toNat + 1) * k := by rw [Nat.add_mul, Nat.one_mul]
   _ ≤ xs.length * k := Nat.mul_le_mul_right k hlt
 have hcs : xs.length * k ≤ cs.size := by rw [g3]; exact Nat.mul_le_mul_right k g4
 refine ⟨b, cs, e1, f1, rfl, λ j w hj => ⟨rfl, cs, e, (0, 0), .inr (by simp), g6 _ _ (f3 j w hj)⟩, λ j w hj => g6 _ _ (f3 j w hj), λ kd => ?_, f2, by omega, λ x' es' hx' hl' => ?_⟩
 ·have := Ur (P := P) (b := b) (m := 0) (cap := cap) (kd := kd) ht (j := i.toNat) (len := xs.length) hlt
  rw [Int.toNat_of_nonneg h1] at this
  simpa using this
 ·refine .inr ⟨b, cap, _, (es.take (i.toNat * k)) ++ (es' ++ es.drop (i.toNat * k + k)), by rw [List.length_set], rfl, by rw [G8]; exact g3, by rw [List.length_set]; exact g4, ?_, ?_⟩
  ·have jT := g5.len
   refine ⟨?_, λ j y hy => ?_⟩
   ·simp only [List.length_append, List.length_take, List.length_drop, List.length_set, hl', jT]
    omega
   ·rw [List.getElem?_set] at hy
    split at hy
    ·rename_i hji
     subst hji
     cases hy
     refine ⟨es', hx', hl', λ a w hw => ?_⟩
     have ha := (List.getElem?_eq_some_iff.1 hw).1
     rw [List.getElem?_append_right (by simp only [List.length_take]; omega)]
     simp only [List.length_take, jT]
     rw [show i.toNat * k + a - min (i.toNat * k) (xs.length * k) = a by omega, List.getElem?_append_left ha]
     exact hw
    ·rename_i hji
     obtain ⟨e2, q1, q2, q3⟩ := g5.at_ _ _ hy
     refine ⟨e2, q1, q2, λ a w hw => ?_⟩
     have ha := (List.getElem?_eq_some_iff.1 hw).1
     rw [q2] at ha
     have hold := q3 a w hw
     rcases Nat.lt_or_ge j i.toNat with hlt' | hge
     ·have : j * k + k ≤ i.toNat * k := by
       calc j * k + k = (j + 1) * k := by rw [Nat.add_mul, Nat.one_mul]
        _ ≤ i.toNat * k := Nat.mul_le_mul_right k hlt'
      rw [List.getElem?_append_left (by simp only [List.length_take, jT]; omega), List.getElem?_take, if_pos (by omega)]
      exact hold
     ·have : i.toNat * k + k ≤ j * k := by
       calc i.toNat * k + k = (i.toNat + 1) * k := by rw [Nat.add_mul, Nat.one_mul]
        _ ≤ j * k := Nat.mul_le_mul_right k (by omega)
      rw [List.getElem?_append_right (by simp only [List.length_take]; omega), List.getElem?_append_right (by simp only [List.length_take, jT, hl']; omega), List.getElem?_drop]
      simp only [List.length_take, jT, hl']
      rw [show i.toNat * k + k + (j * k + a - min (i.toNat * k) (xs.length * k) - k) = j * k + a by omega]
      exact hold
  ·intro j w hj
   have jT := g5.len
   rw [AJ es' cs (i.toNat * k) j (by rw [hl']; omega)]
   rw [List.getElem?_append] at hj
   simp only [List.length_take, jT] at hj
   split at hj
   ·rename_i hlt'
    rw [List.getElem?_take] at hj
    split at hj
    ·rw [if_neg (by omega)]
     exact g6 _ _ hj
    ·cases hj
   ·rw [List.getElem?_append] at hj
    split at hj
    ·rename_i h5 h6
     rw [if_pos (by omega), ← hj]
     congr 1
     omega
    ·rename_i h5 h6
     rw [hl'] at h6
     rw [if_neg (by rw [hl']; omega)]
     rw [List.getElem?_drop, hl'] at hj
     have := g6 _ _ hj
     rwa [show i.toNat * k + k + (j - min (i.toNat * k) (xs.length * k) - k) = j by omega] at this
theorem TW : ∀ (vs ws : List Value) (cs : Array Value) (o : Nat), ey cs o (vs ++ ws) = ey (ey cs o vs) (o + vs.length) ws
 | [], ws, cs, o => by simp [ey]
 | v :: vs, ws, cs, o => by
  simp only [List.cons_append, ey, List.length_cons]
  rw [TW vs ws]
  congr 1
  omega
theorem TX : ∀ (vs : List Value) (cs : Array Value) (o : Nat), (∀ j w, vs[j]? = some w → cs[o + j]? = some w) → ey cs o vs = cs
 | [], cs, o, _ => rfl
 | v :: vs, cs, o, h => by
  have h0 : cs[o]? = some v := h 0 v rfl
  have hlt := (Array.getElem?_eq_some_iff.1 h0).1
  have e : cs.setIfInBounds o v = cs := by
   apply Array.ext_getElem?
   intro j
   by_cases hj : o = j
   ·subst hj; rw [Array.getElem?_setIfInBounds_self_of_lt hlt, h0]
   ·rw [Array.getElem?_setIfInBounds_ne hj]
  simp only [ey, e]
  exact TX vs cs (o + 1) λ j w hj => by
   have := h (j + 1) w (by simpa using hj)
   rwa [show o + (j + 1) = o + 1 + j by omega] at this
theorem Ox.eC {α : Type} {K : cn α} {k e t b j n : Nat} {x y : Operand} {G : ak → ak} {v w : Value} {xs : List α} {i : Int} {x' : α} {cs : Array Value} {pre mid post vs : List Value} (hG : fN G)
  (hop : o.op = .store t x y) (hx : bh st x = some (.pointer (some ⟨b, i.toNat * k + j, none⟩))) (hy : bh st y = some w) (hw : w.cells.toList = vs) (ht : an P (sizeOf t) n) (hn : vs.length = n) (h1 : ∀ u ∈ vs, u.oneCell' = true)
  (hc : ∀ (j : Nat) (w : Value), (pre ++ (mid ++ post))[j]? = some w → cs[i.toNat * k + j]? = some w) (hj : pre.length = j) (hm : mid.length = n) (hk : (pre ++ (mid ++ post)).length = k) (hsz : i.toNat * k + k ≤ cs.size)
  (hO : ∀ x' es', K R x' es' → es'.length = k → bg K k e R v (xs.set i.toNat x') [(b, .cells (ey cs (i.toNat * k) es') e (0, 0))]) (hK : K R x' (pre ++ (vs ++ post)))
  (hd : o.dst = none) (hsub : aF st st') (h : ∀ bF, bg K k e R v (xs.set i.toNat x') bF → C R (G bF) st') : aP P B c o R (G [(b, .cells cs e (0, 0))]) st C := by
 have hput : ey cs (i.toNat * k + j) vs = ey cs (i.toNat * k) (pre ++ (vs ++ post)) := by
  rw [TW, TX pre cs _ (λ a u ha => hc a u (by rw [List.getElem?_append_left (List.getElem?_eq_some_iff.1 ha).1]; exact ha)), TW, hj, hn]
  rw [TX post]
  intro a u ha
  have h2 := hc (j + n + a) u (by
   rw [List.getElem?_append_right (by omega), List.getElem?_append_right (by omega)]
   rw [show j + n + a - pre.length - mid.length = a by omega]
   exact ha)
  have hlt := (Array.getElem?_eq_some_iff.1 h2).1
  rw [AJ vs cs (i.toNat * k + j) _ (by rw [hn]; have := hk; simp only [List.length_append] at this; omega), if_neg (by omega)]
  rwa [show i.toNat * k + (j + n + a) = i.toNat * k + j + n + a by omega] at h2
 have hlen : (pre ++ (vs ++ post)).length = k := by
  simp only [List.length_append] at hk ⊢
  omega
 have Jv := hO x' _ hK hlen
 rw [← hput] at Jv
 refine Ox.G1 (s := λ ρ => Instr.storeAt t (ρ x) (ρ y)) (by rw [hop]; rfl) hd (λ ρ => by simp only [execOp, hop]) hsub (λ ρ hρ => ?_)
 rw [hρ x _ hx, hρ y _ hy]
 simp only [Instr.storeAt, Instr.sureAddr]
 refine an.cz (an.pure _) ?_
 have aqU : w.cells.size = n := by rw [← hn, ← hw]; simp
 refine aC.storeVar (cs := cs) (e := e) ht aqU (by rw [hw]; exact h1) (by simp only [List.length_append] at hk; omega) ?_ (h _ Jv)
 rw [hw]
 exact hG.set
theorem aC.aiD {b n off : Nat} {cs : Array Value} {e : TypeId} {fz : Nat × Nat} {K : Unit → aA → ak → Prop} (hk : ∀ v8, K () R ((b, .cells cs e v8) :: H)) : aC P B R ((b, .cells cs e fz) :: H) (Go.freeze ⟨b, off, none⟩ n) K := by
 intro w hw
 have hb : w.heap[b]? = some (.cells cs e fz) := hw.h _ _ (by simp)
 have hrun : (Go.freeze ⟨b, off, none⟩ n).run P w = .ok () (w.freeze ⟨b, off, none⟩ n) := rfl
 have hev : (Go.freeze ⟨b, off, none⟩ n).events P w #[] = #[] := rfl
 by_cases hn : n = 0
 ·refine ⟨(), w, R, (b, .cells cs e fz) :: H, by rw [hrun]; simp [World.freeze, hn], by rw [hev]; simp, di.refl hw, hk fz⟩
 ·obtain ⟨lo, hi⟩ := fz
  have hw' : w.freeze ⟨b, off, none⟩ n = { w with heap := w.heap.setIfInBounds b (.cells cs e (if lo == hi then (off, off + n) else (min lo off, max hi (off + n)))) } := by
   simp only [World.freeze, hn, if_false]
   congr 1
   apply Array.ext_getElem?
   intro i
   rw [Array.getElem?_modify]
   by_cases hi' : b = i
   ·subst hi'
    rw [Array.getElem?_setIfInBounds_self_of_lt (gD hb), hb]
    simp
   ·simp [hi', Array.getElem?_setIfInBounds_ne hi']
  refine ⟨(), _, R, _, hrun, by rw [hev]; simp, ?_, hk (if lo == hi then (off, off + n) else (min lo off, max hi (off + n)))⟩
  rw [hw']
  exact hw.zu .here
theorem Ox.aBz {x : Operand} {t u e : TypeId} {s : ByteArray} (hop : o.op = .convert t u x) (hx : bh st x = some (.string s)) (ht : P.underlying t = some .string) (hu : P.underlying u = some (.slice e)) (he : P.underlying e = some (.int .u8))
  (hd : cg o.dst c.n) (hC : ∀ v Hs, bV (CI .u8) 1 R (Hs ++ H) v (eO s) → ∃ st', aF (bS o.dst v st) st' ∧ C R (Hs ++ H) st') : aP P B c o R H st C :=
 Ox.mem (s := λ ρ => convert t u (ρ x)) (by rw [hop]; rfl) hd (λ ρ => by simp only [execOp, hop]) (λ ρ hρ => by
  rw [hρ x _ hx]
  unfold convert
  refine an.cz (an.underlying ht) (an.cz (an.underlying hu) ?_)
  dsimp only
  refine an.cz (an.underlying he) ?_
  dsimp only
  unfold Conv.stringToBytes
  refine aC.bind (aC.choose λ t' => ?_)
  generalize hcap : (if (Question.appendCap s.size 0 e).forced then 0 else (Question.appendCap s.size 0 e).cut t') = cap
  have hge : s.size ≤ cap := by
   rw [← hcap]
   simp [Question.forced, Question.cut]
  refine aC.bind ?_
  simp only [newRow]
  refine aC.bind (aC.new λ b h1 h2 => aC.pure ?_)
  refine aC.bind ?_
  unfold markStringish
  have fin : ∀ v8, ∃ st', aF (bS o.dst (.slice (some ⟨b, 0, none⟩) s.size cap) st) st' ∧ C R ((b, .cells ((s.data.map λ b => Value.int .u8 b.toNat) ++ Array.replicate (cap - s.size) (.int .u8 0)) e v8) :: H) st' := λ v8 => by
   refine hC (.slice (some ⟨b, 0, none⟩) s.size cap) [(b, .cells ((s.data.map λ b => Value.int .u8 b.toNat) ++ Array.replicate (cap - s.size) (.int .u8 0)) e v8)] ⟨some ⟨b, 0, none⟩, cap, (eO s).map (Value.int .u8), by simp [eO], ?_, by simpa [eO] using hge, λ _ => ⟨b, 0, rfl, λ j w hj => ⟨rfl, _, e, v8, .inr (List.mem_cons_self ..), ?_⟩⟩⟩
   ·refine ⟨by simp, λ i y hy => ⟨[.int .u8 y], rfl, rfl, λ j w hj => ?_⟩⟩
    cases j with
    | zero => cases hj; simp [hy]
    | succ j => simp at hj
   ·have hlt := (List.getElem?_eq_some_iff.1 hj).1
    simp only [List.length_map, eO, Array.length_toList] at hlt
    simp only [Nat.zero_add]
    rw [Array.getElem?_append_left (by simpa using hlt)]
    rw [List.getElem?_map] at hj
    obtain ⟨z, hz, rfl⟩ := Option.map_eq_some_iff.1 hj
    unfold eO at hz
    rw [List.getElem?_map] at hz
    obtain ⟨q, hq, rfl⟩ := Option.map_eq_some_iff.1 hz
    rw [Array.getElem?_map]
    rw [Array.getElem?_toList] at hq
    rw [hq]
    rfl
  refine aC.bind (aC.shape λ y => ?_)
  cases y with
  | none => exact aC.pure (aC.pure (fin _))
  | some y =>
   obtain ⟨y1, y2⟩ := y
   exact aC.aiD λ v8 => aC.pure (fin v8))
def eY {α : Type} (xs ys : List α) : List α := ys.take xs.length ++ xs.drop ys.length
theorem BR {α : Type} {xs ys : List α} {n : Nat} (h : xs.length = n) : (eY xs ys).length = n := by
 simp only [eY, List.length_append, List.length_take, List.length_drop]; omega
theorem Ox.aA8 {x : Operand} {t len e n b off : Nat} (hop : o.op = .slice t x none none none) (hx : bh st x = some (.pointer (some ⟨b, off, none⟩))) (ht : vG P t len e n)
  (hd : cg o.dst c.n) (hs : aF (bS o.dst (.slice (some ⟨b, off, none⟩) len len) st) st') (h : C R H st') : aP P B c o R H st C :=
 Ox.val' (s := λ ρ => Instr.sliceAt t (ρ x) none none none) (by rw [hop]; rfl) hd (λ ρ => by simp only [execOp, hop]; rfl) (λ ρ hρ => by
  rw [hρ x _ hx]
  unfold Instr.sliceAt
  refine an.bind (an.underlying ht.1) ?_
  dsimp only
  unfold Instr.sliceBounds
  refine an.bind (a := (⟨b, off, none⟩ : Addr)) (an.pure _) (an.bind (a := ((0 : Nat), len, len)) (an.bind (a := len) (an.pure _) (an.bind (a := len) (an.pure _) (an.bind (a := (0 : Nat)) (an.pure _) (an.pure _)))) (an.bind ht.2 ?_))
  dsimp only
  rw [Nat.zero_mul, n6]
  simp only [Nat.add_zero, ite_self, Nat.sub_zero]
  exact an.pure _) hs h
theorem Ox.agk {x y : Operand} {t e t2 b off n T : Nat} {dx : TypeDesc} {v : Value} {xs ys : List Int} {pre post : List Value} (hop : o.op = .call ⟨.builtin .copy, #[x, y], #[t, t2]⟩) (hx : bh st x = some (.slice (some ⟨b, off, none⟩) n n)) (hy : bh st y = some v) (ht : lp P t e 1) (_ : P.underlying t2 = some dx)
  (hR : bV (CI .i64) 1 R H v ys) (hl : xs.length = n) (hs : dD H b (.cells ((pre ++ (xs.map (Value.int .i64) ++ post)).toArray) T (0, 0)) (.cells ((pre ++ ((eY xs ys).map (Value.int .i64) ++ post)).toArray) T (0, 0)) H') (hpre : pre.length = off)
  (hd : cg o.dst c.n) (hsub : aF (bS o.dst (goInt (Nat.min ys.length n)) st) st') (h : C R H' st') : aP P B c o R H st C := by
 refine ⟨by rw [hop]; rfl, hd, λ ρ hρ => ?_⟩
 simp only [execOp, hop]
 refine an.cz (a := ⟨.builtin .copy #[t, t2] o.type (#[x, y].map λ | .const _ => true | _ => false), #[x, y].map ρ⟩) (an.pure _) ?_
 simp only [invoke, builtin]
 have e1 : (#[x, y].map ρ) = #[.slice (some ⟨b, off, none⟩) n n, v] := by simp [hρ x _ hx, hρ y _ hy]
 rw [e1]
 obtain ⟨A, cap, es, rfl, hE, hcap, hm⟩ := hR
 have hes : es = ys.map (Value.int .i64) := by
  apply List.ext_getElem?
  intro j
  rw [List.getElem?_map]
  rcases Nat.lt_or_ge j ys.length with hj | hj
  ·obtain ⟨q, hq1, Fj, hq3⟩ := hE.at_ j _ (List.getElem?_eq_getElem hj)
   have aoR : q = [.int .i64 ys[j]] := hq1
   subst aoR
   have := hq3 0 _ rfl
   rw [Nat.mul_one, Nat.add_zero] at this
   rw [this, List.getElem?_eq_getElem hj]
   rfl
  ·rw [List.getElem?_eq_none (by rw [hE.len]; omega), List.getElem?_eq_none hj]
   rfl
 subst hes
 have hput : ey ((pre ++ (xs.map (Value.int .i64) ++ post)).toArray) off ((ys.map (Value.int .i64)).take n) = (pre ++ ((eY xs ys).map (Value.int .i64) ++ post)).toArray := by
  subst hpre
  apply Array.ext_getElem?
  intro j
  rw [AJ _ _ _ _ (by simp; omega)]
  simp only [List.length_take, List.length_map, eY, List.map_append, List.map_take, List.map_drop, List.getElem?_toArray, hl]
  by_cases h1 : pre.length ≤ j ∧ j < pre.length + Min.min n ys.length
  ·rw [if_pos h1, List.getElem?_append_right h1.1, List.getElem?_append_left (by simp; omega), List.getElem?_append_left (by simp; omega)]
  ·rw [if_neg h1]
   rcases Nat.lt_or_ge j pre.length with h2 | h2
   ·rw [List.getElem?_append_left h2, List.getElem?_append_left h2]
   ·rw [List.getElem?_append_right h2, List.getElem?_append_right h2]
    rcases Nat.lt_or_ge (j - pre.length) n with h3 | h3
    ·rw [List.getElem?_append_left (by simp; omega), List.getElem?_append_left (by simp; omega), List.getElem?_append_right (by simp; omega), List.getElem?_drop]
     simp only [List.length_take, List.length_map]
     congr 1
     omega
    ·rw [List.getElem?_append_right (by simp; omega), List.getElem?_append_right (by simp; omega)]
     simp only [List.length_append, List.length_take, List.length_map, List.length_drop]
     congr 1
     omega
 have fin : ∀ K : Unit → aA → ak → Prop, K () R H' → aC P B R H (storeCells ⟨b, off, none⟩ ((ys.map (Value.int .i64)).take n)) K := λ K hK => by
  refine aC.given λ cE => aC.Hg _ ((pre ++ (xs.map (Value.int .i64) ++ post)).toArray) off 0 H H' (λ u hu => ?_) (by subst hpre; simp; omega) (by rw [Nat.add_zero, hput]; exact hs) cE hK
  obtain ⟨z, _, rfl⟩ := List.mem_map.1 (List.mem_of_mem_take hu)
  rfl
 refine aC.bind ?_
 unfold Builtin.copy_
 refine an.cz (an.underlying ht.1) ?_
 dsimp only
 refine an.cz (a := ys.length) (an.pure _) (an.cz ht.2 ?_)
 have last : aC P B R H (do storeCells ⟨b, off, none⟩ ((ys.map (Value.int .i64)).take n); pure (goInt (Nat.min ys.length n))) λ a R' H' => aC P B R' H' (pure (Next.value a)) λ nx R' H' => ∃ v, (nx = .value v ∨ (nx = .skip ∧ v = undef)) ∧ ∃ st', aF (bS o.dst v st) st' ∧ C R' H' st' :=
  aC.bind (fin _ (aC.pure (aC.pure ⟨_, .inl rfl, st', hsub, h⟩)))
 have ase : (ys.map (Value.int .i64)).take n = (ys.map (Value.int .i64)).take (Nat.min ys.length n * 1) := by
  rw [Nat.mul_one]
  rcases Nat.le_total ys.length n with h1 | h1
  ·rw [show Nat.min ys.length n = ys.length from Nat.min_eq_left h1, List.take_of_length_le (by simpa using h1), List.take_of_length_le (by simp)]
  ·rw [show Nat.min ys.length n = n from Nat.min_eq_right h1]
 cases A with
 | none =>
  have qA : ys = [] := by
   apply Classical.byContradiction
   intro hn
   obtain ⟨b', o', h1, _⟩ := hm hn
   cases h1
  subst qA
  simp only [Builtin.firstCells]
  refine an.cz (a := #[]) (an.pure _) ?_
  simpa using last
 | some A =>
  have hcells : aS R H A.block A.off ((ys.map (Value.int .i64)).take n) ∧ (ys ≠ [] → A = ⟨A.block, A.off, none⟩) := by
   by_cases hn : ys = []
   ·subst hn; exact ⟨λ j u hj => by simp at hj, λ h => absurd rfl h⟩
   ·obtain ⟨b', o', h1, h2⟩ := hm hn
    cases h1
    refine ⟨λ j u hj => ?_, λ _ => rfl⟩
    rw [List.getElem?_take] at hj
    split at hj
    ·exact h2 j u hj
    ·cases hj
  simp only [Builtin.firstCells, loadCells]
  by_cases hn : ys = []
  ·subst hn
   simp only [List.length_nil, Nat.zero_mul, show Nat.min 0 n = 0 from Nat.zero_min n]
   refine an.cz (a := #[]) (an.pure _) ?_
   simpa using last
  ·rw [hcells.2 hn]
   have r5 : ((ys.map (Value.int .i64)).take n).length = Nat.min ys.length n * 1 := by rw [ase]; simp [Nat.min_le_left]
   refine aC.bind ?_
   rw [← r5]
   refine aC.loadCellsFrom _ 0 #[] (by simpa using hcells.1) ?_
   simpa using last
end
end Go.Lg
namespace Go.Lg
open Go.Conc
section
variable {P : Program} {B : Base} {main : Bool} {ah : Jd P B main} {c : Ctx} {R : aA} {H : ak} {st : St} {k : List Item}
theorem aC.getLoop {l : Nat} {r : Loop} {K : Loop → aA → ak → Prop} (h : (l, Obj.loop r) ∈ H) (hk : K r R H) : aC P B R H (Instr.getLoop l) K := by
 unfold Instr.getLoop
 exact aC.bind (aC.getObj rfl (.inr h) (aC.pure hk))
theorem dD.at_ {b : Nat} {o o' : Obj} {T : ak} : ∀ {Hs : ak}, dD (Hs ++ (b, o) :: T) b o o' (Hs ++ (b, o') :: T)
 | [] => .here
 | _ :: _ => .there dD.at_
def Ek (ah : Jd P B main) (v : Value) (args : Array Value) (R : aA) (H : ak) (Post : Value → aA → ak → Prop) : Prop :=
 ∃ l r, v = .func (.yield l) #[] #[] ∧ (l, Obj.loop r) ∈ H ∧ r.params.size = args.size ∧
  ∀ fr cs, (∀ w R' H', Post w R' H' → ah.J R' H' (bt (fr.finish w) cs)) →
   ah.J R H (bt (Frame.round l r.fn ((r.params.zip args).foldl (λ tmps (t, a) => tmps.setIfInBounds t a) r.tmps) r.assign r.body .normal) (fr :: cs))
theorem Ek.mono {v : Value} {args : Array Value} {Post Post' : Value → aA → ak → Prop} (h : Ek ah v args R H Post) (hp : ∀ w R' H', Post w R' H' → Post' w R' H') : Ek ah v args R H Post' := by
 obtain ⟨l, r, h1, h2, h3, h4⟩ := h
 exact ⟨l, r, h1, h2, h3, λ fr cs hk => h4 fr cs λ w R' H' hw => hk w R' H' (hp _ _ _ hw)⟩
theorem afH {fr : Frame} {cs : List Frame} {s : Sem Next} {w w' : World} {l : Nat} {f : FuncId} {tmps : Array Value} {assign body : Code} (hk : fr.kind ≠ .early) (hr : s.run P w = .ok (.round l f tmps assign body) w') :
  stepG.apply P true fr cs none s w = .go (bt (Frame.round l f tmps assign body .normal) (fr :: cs)) w' (seen P fr.fn (s.events P w #[])) := by
 have hk' : (fr.kind == CallKind.early) = false := by simpa using hk
 simp [stepG.apply, hr, bt, hk', GStep.after]
theorem At.Uf {ops : Array Oper} {i : Nat} {rest : List Nat} {o : Oper} {ca : Call} {x : Operand} {v : Value} {vs : List Value} (ho : ops[i]? = some o) (hw : dG ops st o = some true) (hk : (c.kind == CallKind.early) = false)
  (hop : o.op = .call ca) (hc : ca.callee = .value x) (hx : bh st x = some v) (ha : pY st ca.args.toList = some vs) (kN : cg o.dst c.n)
  (h : Ek ah v vs.toArray R H λ w R' H' => ∃ st', aF (bS o.dst w st) st' ∧ At ah c R' H' st' (.inRegion ops rest :: k)) :
  At ah c R H st (.inRegion ops (i :: rest) :: k) := by
 intro tmps ht
 obtain ⟨l, r, rfl, hl, hsz, hj⟩ := h
 have hkn := ht.knows c (.inRegion ops (i :: rest) :: k)
 have hd : lI o.op = false := by rw [hop]; rfl
 have hs : aC P B R H (execOp (bl c tmps (.inRegion ops (i :: rest) :: k)).eval o) λ nx R' H' => nx = .round l r.fn ((r.params.zip vs.toArray).foldl (λ tmps (t, a) => tmps.setIfInBounds t a) r.tmps) r.assign r.body ∧ R' = R ∧ H' = H := by
  simp only [execOp, hop, resolve, hc, hkn x _ hx, Deferred.ofValue]
  have e : ca.args.map (bl c tmps (.inRegion ops (i :: rest) :: k)).eval = vs.toArray := by apply Array.ext'; simpa using Ep hkn _ _ ha
  refine an.cz (a := ⟨.fn (.yield l) #[], #[] ++ vs.toArray⟩) (by rw [e]; exact an.pure _) ?_
  simp only [invoke, Instr.yield]
  refine aC.bind (aC.getLoop hl ?_)
  simp only [Array.empty_append, hsz, ne_eq, not_true_eq_false, if_false]
  exact aC.pure ⟨rfl, rfl, rfl⟩
 refine ah.step rfl λ w hwf => ?_
 obtain ⟨nx, w', R', H', h1, h2, h3, rfl, rfl, rfl⟩ := hs w hwf
 refine ⟨_, w', seen P c.fn ((execOp (bl c tmps (.inRegion ops (i :: rest) :: k)).eval o).events P w #[]), R', H', ?_, λ e he => h2 e (mem_seen he), h3, hj (bl c tmps (.inRegion ops (i :: rest) :: k)) c.cs λ u bX cx hp => ?_⟩
 ·rw [u9 ho (lU ht hw) hd]
  exact afH (by simpa [bl] using hk) h1
 ·obtain ⟨st', hs', hat⟩ := hp
  rw [rT ho]
  exact hat _ ((ht.put u kN).sub hs')
structure iH (ah : Jd P B main) (R : aA) {α S : Type} (A : j6 α) (v : Value) (y : α → S → Option (S × Bool)) (Inv : S → aA → ak → Prop) : Prop where
 fn : ∃ l, v = .func (.yield l) #[] #[]
 mono : ∀ {s : S} {R1 R2 : aA} {Hy : ak}, aO R R1 → aO R1 R2 → Inv s R1 Hy → Inv s R2 Hy
 call : ∀ (Hf : ak) {R' : aA} {Hy : ak} {s : S} {x : α} {va : Value} {z : S × Bool}, aO R R' → Inv s R' Hy → A R' x va → y x s = some z →
  Ek ah v #[va] R' (Hf ++ Hy) λ w bX cx => aO R' bX ∧ w = .bool z.2 ∧ ∃ Ed, Inv z.1 bX Ed ∧ cx = Hf ++ Ed
theorem iH.up {R' : aA} {α S : Type} {A : j6 α} {v : Value} {y : α → S → Option (S × Bool)} {Inv : S → aA → ak → Prop} (h : iH ah R A v y Inv) (hR : aO R R') : iH ah R' A v y Inv :=
 ⟨h.fn, λ h1 h2 => h.mono (hR.trans h1) h2, λ Hf => λ h1 => h.call Hf (hR.trans h1)⟩
theorem iH.cells {α S : Type} {A : j6 α} {v : Value} {y : α → S → Option (S × Bool)} {Inv : S → aA → ak → Prop} (h : iH ah R A v y Inv) : v.cells = #[v] := by
 obtain ⟨l, rfl⟩ := h.fn; rfl
def dh {α S O : Type} (body : α → S → Option (S ⊕ O)) (x : α) : S ⊕ O → Option ((S ⊕ O) × Bool)
 | .inl s => (body x s).map λ z => (z, z.isLeft)
 | .inr _ => none
def Shape (I : aA → ak → ak → Prop) : Prop := ∀ R T H, I R T H → ∃ Hs, H = Hs ++ T ∧ ∀ R' T', aO R R' → I R' T' (Hs ++ T')
theorem aAY {l : Nat} {jump : Option Code} {r : Loop} {Hs T : ak} : aC P B R (Hs ++ (l, .loop r) :: T) (Instr.endRound l jump) λ v R' H' => v = .bool jump.isNone ∧ R' = R ∧ H' = Hs ++ (l, .loop { r with state := if jump.isNone then .ready else .done, pending := jump }) :: T := by
 unfold Instr.endRound
 exact aC.bind (aC.getLoop (by simp) (aC.bind (aC.setObj rfl rfl dD.at_ (aC.pure ⟨rfl, rfl, rfl⟩))))
theorem aAX {l : Nat} {r : Loop} {Hs T : ak} (hb : (r.state == .busy) = false) : aC P B R (Hs ++ (l, .loop r) :: T) (Instr.endLoop l) λ v R' H' => v = r.pending ∧ R' = R ∧ H' = Hs ++ (l, .loop { r with state := .exhausted }) :: T := by
 unfold Instr.endLoop
 refine aC.bind (aC.getLoop (r := r) (by simp) ?_)
 simp only [hb]
 exact aC.bind (aC.setObj rfl rfl dD.at_ (aC.pure ⟨rfl, rfl, rfl⟩))
theorem aAW {l : Nat} {r : Loop} {H' : ak} (hs : dD H l (.loop r) (.loop { r with state := .busy }) H') (hr : r.state = .ready) : aC P B R H (do Instr.beginRound l; pure Next.skip) λ v bX cx => v = .skip ∧ bX = R ∧ cx = H' := by
 unfold Instr.beginRound
 refine aC.bind (aC.bind (aC.getLoop hs.mem (aC.bind (aC.setObj rfl rfl hs ?_))))
 simp only [hr]
 exact aC.pure (aC.pure ⟨rfl, rfl, rfl⟩)
theorem At.beginRound {l : Nat} {r : Loop} {H' : ak} (hro : c.ro = some l) (hk : (c.kind == CallKind.early) = false) (hs : dD H l (.loop r) (.loop { r with state := .busy }) H') (hr : r.state = .ready) (h : At ah c R H' st k) : At ah c R H st (.beginRound :: k) := λ tmps ht => by
 refine ah.step rfl λ w hw => ?_
 obtain ⟨v, w', R', cx, h1, h2, h3, rfl, rfl, rfl⟩ := aAW (P := P) hs hr w hw
 refine ⟨bt (bl c tmps k) c.cs, w', seen P c.fn ((do Instr.beginRound l; pure Next.skip : Sem Next).events P w #[]), R', cx, ?_, λ e he => h2 e (mem_seen he), h3, h tmps ht⟩
 have e := M3 (P := P) (fr := bl c tmps (.beginRound :: k)) (cs := c.cs) (by simpa [bl] using hk) h1
 simpa [stepG, stepG.exec, bt, bl, hro, Frame.finish] using e
def Leaves (todo : List Item) (jump : Option Code) : Prop :=
 (todo = [] ∧ jump = none) ∨ (∃ k', todo = .code .ret :: k' ∧ jump = some .ret) ∨ (∃ id k', todo = .code (.exit id) :: k' ∧ exitTo id k' = none ∧ jump = some (.exit id))
theorem aaA {l f : Nat} {n : Nat} {cs : List Frame} {fr : Frame} {tmps : Array Value} {todo : List Item} {jump : Option Code} {r : Loop} {Hs T : ak} (hl : Leaves todo jump)
  (h : ah.J R (Hs ++ (l, .loop { r with state := if jump.isNone then .ready else .done, pending := jump }) :: T) (bt (fr.finish (.bool jump.isNone)) cs)) :
  ah.J R (Hs ++ (l, .loop r) :: T) (bt (bl ⟨f, .normal, some l, n, [], fr :: cs⟩ tmps todo) (fr :: cs)) := by
 refine ah.step rfl λ w hw => ?_
 obtain ⟨v, w', R', H', h1, h2, h3, rfl, rfl, rfl⟩ := aAY (P := P) (jump := jump) w hw
 refine ⟨bt (fr.finish (.bool jump.isNone)) cs, w', seen P f ((Instr.endRound l jump).events P w #[]), R', _, ?_, λ e he => h2 e (mem_seen he), h3, h⟩
 rcases hl with ⟨rfl, rfl⟩ | ⟨k', rfl, rfl⟩ | ⟨id, k', rfl, hk', rfl⟩
 ·simp at h1; simp [stepG, stepG.exec, bl, h1, doReturn, GStep.after, bt]
 ·simp at h1; simp [stepG, stepG.exec, bl, h1, doReturn, GStep.after, bt]
 ·simp at h1; simp [stepG, stepG.exec, bl, h1, hk', doReturn, GStep.after, bt]
def oG (fn : FuncId) (tmps : Array Value) (t : Tmp) (assign body : Code) (d : Nat) : Loop := { state := .ready, pending := none, fn, tmps, params := #[t], assign, body, defers := d }
theorem TU {p : Nat × Obj} {Hf Hs D : ak} : List.Perm (Hs ++ p :: (Hf ++ D)) (Hf ++ (Hs ++ p :: D)) := by
 have h1 : List.Perm (Hs ++ p :: (Hf ++ D)) (p :: (Hs ++ (Hf ++ D))) := List.perm_middle
 have h2 : List.Perm (Hf ++ (Hs ++ p :: D)) (p :: (Hf ++ (Hs ++ D))) := by
  rw [← List.append_assoc, ← List.append_assoc]
  exact List.perm_middle
 refine h1.trans (List.Perm.trans (List.Perm.cons _ ?_) h2.symm)
 rw [← List.append_assoc, ← List.append_assoc]
 exact List.perm_append_comm.append_right D
section
variable {α S O : Type} {A : j6 α} {body : α → S → Option (S ⊕ O)} {t : Tmp} {assign eo : Code}
 (I : S → aA → ak → ak → Prop) (E : O → aA → ak → ak → Prop) (jc : O → Code)
def MO (R : aA) (l : Nat) (r : Loop) (D : ak) : S ⊕ O → aA → ak → Prop
 | .inl s, R', Hy => aO R R' ∧ I s R' ((l, .loop r) :: D) Hy
 | .inr o, R', Hy => aO R R' ∧ E o R' ((l, .loop { r with state := .done, pending := some (jc o) }) :: D) Hy
def MN (ah : Jd P B main) (c : Ctx) (R : aA) (H : ak) (st : St) (A : j6 α) (body : α → S → Option (S ⊕ O)) (t : Tmp) (assign eo : Code) : Prop :=
 ∀ (va : Value) (x : α) (s : S) (z : S ⊕ O) (R' : aA) (T H' : ak) (l : Nat) (ld : Loop) (cs : List Frame), aO R R' → List.Sublist H T → A R' x va → I s R' ((l, .loop ld) :: T) H' → ld.state = .ready → body x s = some z →
  (∀ s' bX cx gH, z = .inl s' → aO R' bX → I s' bX ((l, .loop { ld with state := .busy }) :: T) cx → At ah ⟨c.fn, .normal, some l, c.n, [], cs⟩ bX cx gH []) →
  (∀ o bX cx gH k'', z = .inr o → aO R' bX → E o bX ((l, .loop { ld with state := .busy }) :: T) cx → Leaves (.code (jc o) :: k'') (some (jc o)) → At ah ⟨c.fn, .normal, some l, c.n, [], cs⟩ bX cx gH (.code (jc o) :: k'')) →
  At ah ⟨c.fn, .normal, some l, c.n, [], cs⟩ R' H' ((t, va) :: st) [.code assign, .beginRound, .code eo]
variable {I E jc}
theorem YY {D : ak} {l : Nat} {d : Nat} {tmps : Array Value} (kJ : ∀ s, Shape (I s)) (o6 : ∀ o, Shape (E o)) (ht : e6 c.n st tmps) (hd : Nat.blt t c.n = true) (hH : List.Sublist H D)
  (hb : MN I E jc ah c R H st A body t assign eo) :
  iH ah R A (.func (.yield l) #[] #[]) (dh body) (MO I E jc R l (oG c.fn tmps t assign eo d) D) where
 fn := ⟨l, rfl⟩
 mono := by
  intro s R1 R2 Hy h1 h2 hI
  cases s with
  | inl s =>
   obtain ⟨hr, hI⟩ := hI
   obtain ⟨Hs, rfl, h⟩ := kJ s _ _ _ hI
   exact ⟨hr.trans h2, h _ _ h2⟩
  | inr o =>
   obtain ⟨hr, hI⟩ := hI
   obtain ⟨Hs, rfl, h⟩ := o6 o _ _ _ hI
   exact ⟨hr.trans h2, h _ _ h2⟩
 call := by
  intro Hf R' Hy s x va z hR hI hA hy
  cases s with
  | inr o => cases hy
  | inl s =>
   simp only [dh, Option.map_eq_some_iff] at hy
   obtain ⟨z', hz, rfl⟩ := hy
   obtain ⟨hr, hI⟩ := hI
   obtain ⟨Hs, rfl, hsh⟩ := kJ s _ _ _ hI
   refine ⟨l, oG c.fn tmps t assign eo d, rfl, by simp, rfl, λ fr cs hk => ?_⟩
   refine J.perm (H' := Hs ++ (l, .loop (oG c.fn tmps t assign eo d)) :: (Hf ++ D)) TU ?_
   have Qe : e6 c.n ((t, va) :: st) (((oG c.fn tmps t assign eo d).params.zip #[va]).foldl (λ tmps (t, a) => tmps.setIfInBounds t a) (oG c.fn tmps t assign eo d).tmps) := by
    have := ht.put (dst := some t) va hd
    simpa [oG, bS, ez] using this
   refine hb va x s z' R' (Hf ++ D) _ l (oG c.fn tmps t assign eo d) (fr :: cs) hR (hH.trans (List.sublist_append_right _ _)) hA (hsh R' _ (aO.refl _)) rfl hz (λ s' bX cx gH SQ yW aiO => ?_) (λ o bX cx gH k'' SQ yW aiN hl => ?_) _ Qe
   ·subst SQ
    obtain ⟨bF, rfl, qt⟩ := kJ s' _ _ _ aiO
    intro tmps' _
    refine aaA (jump := none) (.inl ⟨rfl, rfl⟩) ?_
    refine J.perm TU.symm ?_
    exact hk _ _ _ ⟨yW, rfl, _, ⟨hR.trans yW, qt bX _ (aO.refl _)⟩, rfl⟩
   ·subst SQ
    obtain ⟨bF, rfl, qt⟩ := o6 o _ _ _ aiN
    intro tmps' _
    refine aaA (jump := some (jc o)) hl ?_
    refine J.perm TU.symm ?_
    exact hk _ _ _ ⟨yW, rfl, _, ⟨hR.trans yW, qt bX _ (aO.refl _)⟩, rfl⟩
theorem aA0 {fn : FuncId} {tmps : Array Value} {ps : Array Tmp} {assign eo : Code} : aC P B R H (Instr.enterLoop fn tmps ps assign eo none) λ q R' H' => R' = R ∧ ∃ r, q.2 = [⟨.collected r, #[]⟩] ∧ H' = (q.1, .loop ⟨.ready, none, fn, tmps, ps, assign, eo, r⟩) :: (r, .deferred (some [])) :: H := by
 unfold Instr.enterLoop
 refine aC.bind (aC.new λ r _ _ => aC.bind (aC.pure ?_))
 refine aC.bind (aC.new λ l _ _ => aC.pure ?_)
 exact ⟨rfl, r, rfl, rfl⟩
theorem aAZ {fn : FuncId} {tmps : Array Value} {ps : Array Tmp} {assign eo : Code} {l0 : Nat} {r0 : Loop} (h0 : (l0, Obj.loop r0) ∈ H) : aC P B R H (Instr.enterLoop fn tmps ps assign eo (some l0)) λ q R' H' => R' = R ∧ q.2 = [] ∧ H' = (q.1, .loop ⟨.ready, none, fn, tmps, ps, assign, eo, r0.defers⟩) :: H := by
 unfold Instr.enterLoop
 refine aC.bind (aC.getLoop h0 (aC.bind (aC.pure ?_)))
 refine aC.bind (aC.new λ l _ _ => aC.pure ?_)
 exact ⟨rfl, rfl, rfl⟩
theorem At.XO {x : Operand} {fid : FuncId} {first cap : Array Value} (hx : bh st x = some (.func (.func fid) first cap)) (he : aZ P fid) (hk : (c.kind == CallKind.early) = false) {K : Nat × List Deferred → aA → ak → Prop}
  (hent : ∀ tmps, aC P B R H (Instr.enterLoop c.fn tmps #[t] assign eo c.ro) λ q R' H' => R' = R ∧ ∃ d Hm, H' = (q.1, .loop (oG c.fn tmps t assign eo d)) :: Hm ∧ K q R Hm)
  (h : ∀ l mark d Hm tmps, e6 c.n st tmps → K (l, mark) R Hm → ah.J R ((l, .loop (oG c.fn tmps t assign eo d)) :: Hm) (bt (Frame.enter P fid (first ++ #[.func (.yield l) #[] #[]] ++ cap) .normal) (bl ⟨c.fn, c.kind, c.ro, c.n, mark ++ c.defers, c.cs⟩ tmps (.inRangeFunc l :: k) :: c.cs))) :
  At ah c R H st (.code (.rangeFunc x #[t] assign eo) :: k) := by
 intro tmps ht
 refine ah.step rfl λ w hw => ?_
 obtain ⟨⟨l, mark⟩, w', R', H', h1, h2, h3, rfl, d, Hm, rfl, hK⟩ := hent tmps w hw
 have hkn := ht.knows ⟨c.fn, c.kind, c.ro, c.n, mark ++ c.defers, c.cs⟩ (.inRangeFunc l :: k)
 have hv : an P (do let d ← resolve (bl ⟨c.fn, c.kind, c.ro, c.n, mark ++ c.defers, c.cs⟩ tmps (.inRangeFunc l :: k)).eval { callee := .value x, args := #[.const (.func (.yield l) #[] #[])], argTypes := #[] } 0; invoke d.target d.args) (.enter fid (first ++ #[.func (.yield l) #[] #[]] ++ cap)) := by
  obtain ⟨fn, e1, e2, e3⟩ := he.ex
  simp only [resolve, hkn x _ hx, Deferred.ofValue]
  refine an.bind (a := ⟨.fn (.func fid) cap, first ++ #[.func (.yield l) #[] #[]]⟩) (by simpa [Frame.eval] using an.pure _) ?_
  simp only [invoke]
  exact Up e1 e2 e3
 have hj := h l mark d Hm tmps ht hK
 refine ⟨_, w', seen P c.fn ((Instr.enterLoop c.fn tmps #[t] assign eo c.ro).events P w #[]), R', _, ?_, λ e hee => h2 e (mem_seen hee), h3, hj⟩
 have F0 := hv w'
 simp only [bl] at F0
 have hk' : (c.kind == CallKind.early) = false := hk
 simp [stepG, stepG.exec, stepG.apply, bt, bl, h1, F0.1, F0.2, GStep.after, hk', seen]
theorem At.Jg {l : Nat} {r : Loop} {Hs T : ak} {abv : Option Code} (hb : (r.state == .busy) = false) (hp : r.pending = abv) (h : At ah c R (Hs ++ T) st ((abv.map Item.code).toList ++ k)) : At ah c R (Hs ++ (l, .loop r) :: T) st (.endRangeFunc l :: k) := λ tmps ht => by
 subst hp
 refine ah.step rfl λ w hw => ?_
 obtain ⟨v, w', R', H', h1, h2, h3, rfl, rfl, rfl⟩ := aAX (P := P) hb w hw
 refine ⟨bt (bl c tmps ((r.pending.map Item.code).toList ++ k)) c.cs, w', seen P c.fn ((Instr.endLoop l).events P w #[]), R', _, ?_, λ e he => h2 e (mem_seen he), h3, J.drop ?_ (h tmps ht)⟩
 ·simp [stepG, stepG.exec, bt, bl, h1, GStep.after]
 ·exact (List.sublist_cons_self _ _).append_left _
theorem Yo {tmps : Array Value} {l : Nat} {w : Value} : (bl c tmps (.inRangeFunc l :: k)).finish w = bl c tmps (.endRangeFunc l :: k) := rfl
theorem At.abF {ρ : Type} {jy : (α → (S ⊕ O) → Option ((S ⊕ O) × Bool)) → (S ⊕ O) → Option (S ⊕ O)} {cont : S ⊕ O → Option ρ} {s0 : S} {rr : ρ} {x : Operand} {fid : FuncId} {first cap : Array Value} {H1 : ak}
  (hM : (jy (dh body) (.inl s0)).bind cont = some rr) (hx : bh st x = some (.func (.func fid) first cap)) (he : aZ P fid) (hk : (c.kind == CallKind.early) = false) (hro : c.ro = none) (hd : Nat.blt t c.n = true)
  (I : S → aA → ak → ak → Prop) (E : O → aA → ak → ak → Prop) (jc : O → Code) (kJ : ∀ s, Shape (I s)) (o6 : ∀ o, Shape (E o))
  (uw : ∀ v Inv Hy z, iH ah R A v (dh body) Inv → Inv (.inl s0) R Hy → jy (dh body) (.inl s0) = some z → aB ah fid (first ++ #[v] ++ cap) R Hy λ _ R' H' => aO R R' ∧ Inv z R' H')
  (h0 : I s0 R H H1)
  (ha : ∀ r s R' H', aO R R' → I s R' ((r, .deferred (some [])) :: H) H' → cont (.inl s) = some rr → At ah ⟨c.fn, c.kind, none, c.n, ⟨.collected r, #[]⟩ :: c.defers, c.cs⟩ R' H' st k)
  (hz : ∀ r o R' H', aO R R' → E o R' ((r, .deferred (some [])) :: H) H' → cont (.inr o) = some rr → At ah ⟨c.fn, c.kind, none, c.n, ⟨.collected r, #[]⟩ :: c.defers, c.cs⟩ R' H' st (.code (jc o) :: k))
  (hb : MN I E jc ah c R H st A body t assign eo) :
  At ah c R H1 st (.code (.rangeFunc x #[t] assign eo) :: k) := by
 obtain ⟨z, hm, hc⟩ := aj hM
 refine At.XO hx he hk (K := λ q R' Hm => ∃ r, q.2 = [⟨.collected r, #[]⟩] ∧ Hm = (r, .deferred (some [])) :: H1) (λ tmps => ?_) ?_
 ·rw [hro]
  exact aA0.mono λ q R' H' ⟨h1, r, h2, h3⟩ => ⟨h1, r, _, h3, r, h2, rfl⟩
 rintro l mark d Hm tmps ht ⟨r, hmk, rfl⟩
 have hmk : mark = [⟨.collected r, #[]⟩] := hmk
 subst hmk
 obtain ⟨Hs, rfl, hsh⟩ := kJ s0 _ _ _ h0
 have Po : iH ah R A (.func (.yield l) #[] #[]) (dh body) (MO I E jc R l (oG c.fn tmps t assign eo d) ((r, .deferred (some [])) :: H)) := YY kJ o6 ht hd (List.sublist_cons_self _ _) hb
 refine J.perm (H' := Hs ++ (l, .loop (oG c.fn tmps t assign eo d)) :: (r, .deferred (some [])) :: H) ?_ ?_
 ·exact List.perm_middle.trans (List.Perm.cons _ List.perm_middle)
 refine uw _ _ _ z Po ⟨aO.refl R, hsh R _ (aO.refl R)⟩ hm _ _ λ v R' H' hv => ?_
 rw [Yo]
 obtain ⟨hR, hI⟩ := hv
 cases z with
 | inl s =>
  obtain ⟨_, hI⟩ := hI
  obtain ⟨bF, rfl, qt⟩ := kJ s _ _ _ hI
  rw [hro]
  exact At.Jg (c := ⟨c.fn, c.kind, none, c.n, ⟨.collected r, #[]⟩ :: c.defers, c.cs⟩) rfl rfl (ha r s R' _ hR (qt R' _ (aO.refl R')) hc) tmps ht
 | inr o =>
  obtain ⟨_, hI⟩ := hI
  obtain ⟨bF, rfl, qt⟩ := o6 o _ _ _ hI
  rw [hro]
  exact At.Jg (c := ⟨c.fn, c.kind, none, c.n, ⟨.collected r, #[]⟩ :: c.defers, c.cs⟩) rfl rfl (hz r o R' _ hR (qt R' _ (aO.refl R')) hc) tmps ht
theorem At.aAt {ρ : Type} {jy : (α → (S ⊕ O) → Option ((S ⊕ O) × Bool)) → (S ⊕ O) → Option (S ⊕ O)} {cont : S ⊕ O → Option ρ} {s0 : S} {rr : ρ} {x : Operand} {fid : FuncId} {first cap : Array Value} {H1 : ak} {l0 : Nat} {r0 : Loop}
  (hM : (jy (dh body) (.inl s0)).bind cont = some rr) (hx : bh st x = some (.func (.func fid) first cap)) (he : aZ P fid) (hk : (c.kind == CallKind.early) = false) (hro : c.ro = some l0) (PL : (l0, Obj.loop r0) ∈ H1) (hd : Nat.blt t c.n = true)
  (I : S → aA → ak → ak → Prop) (E : O → aA → ak → ak → Prop) (jc : O → Code) (kJ : ∀ s, Shape (I s)) (o6 : ∀ o, Shape (E o))
  (uw : ∀ v Inv Hy z, iH ah R A v (dh body) Inv → Inv (.inl s0) R Hy → jy (dh body) (.inl s0) = some z → aB ah fid (first ++ #[v] ++ cap) R Hy λ _ R' H' => aO R R' ∧ Inv z R' H')
  (h0 : I s0 R H H1)
  (ha : ∀ s R' H', aO R R' → I s R' H H' → cont (.inl s) = some rr → At ah c R' H' st k)
  (hz : ∀ o R' H', aO R R' → E o R' H H' → cont (.inr o) = some rr → At ah c R' H' st (.code (jc o) :: k))
  (hb : MN I E jc ah c R H st A body t assign eo) :
  At ah c R H1 st (.code (.rangeFunc x #[t] assign eo) :: k) := by
 obtain ⟨z, hm, hc⟩ := aj hM
 refine At.XO hx he hk (K := λ q R' Hm => q.2 = [] ∧ Hm = H1) (λ tmps => ?_) ?_
 ·rw [hro]
  exact (aAZ PL).mono λ q R' H' ⟨h1, h2, h3⟩ => ⟨h1, _, _, h3, h2, rfl⟩
 rintro l mark d Hm tmps ht ⟨hmk, rfl⟩
 have hmk : mark = [] := hmk
 subst hmk
 obtain ⟨Hs, rfl, hsh⟩ := kJ s0 _ _ _ h0
 have Po : iH ah R A (.func (.yield l) #[] #[]) (dh body) (MO I E jc R l (oG c.fn tmps t assign eo d) H) := YY kJ o6 ht hd (List.Sublist.refl _) hb
 refine J.perm (H' := Hs ++ (l, .loop (oG c.fn tmps t assign eo d)) :: H) List.perm_middle ?_
 refine uw _ _ _ z Po ⟨aO.refl R, hsh R _ (aO.refl R)⟩ hm _ _ λ v R' H' hv => ?_
 rw [Yo]
 obtain ⟨hR, hI⟩ := hv
 cases z with
 | inl s =>
  obtain ⟨_, hI⟩ := hI
  obtain ⟨bF, rfl, qt⟩ := kJ s _ _ _ hI
  exact At.Jg (c := c) rfl rfl (ha s R' _ hR (qt R' _ (aO.refl R')) hc) tmps ht
 | inr o =>
  obtain ⟨_, hI⟩ := hI
  obtain ⟨bF, rfl, qt⟩ := o6 o _ _ _ hI
  exact At.Jg (c := c) rfl rfl (hz o R' _ hR (qt R' _ (aO.refl R')) hc) tmps ht
theorem At.G9 {ρ : Type} {body : α → S → Option (S ⊕ Empty)} (jy : (α → (S ⊕ Empty) → Option ((S ⊕ Empty) × Bool)) → (S ⊕ Empty) → Option (S ⊕ Empty)) {f : S → Option ρ} {g : Empty → Option ρ} {s0 : S} {rr : ρ} {x : Operand} {fid : FuncId} {first cap : Array Value} {H1 : ak}
  (hM : (jy (dh body) (.inl s0)).bind (Sum.elim f g) = some rr) (hx : bh st x = some (.func (.func fid) first cap)) (he : aZ P fid) (hk : (c.kind == CallKind.early) = false) (hro : c.ro = none) (hd : Nat.blt t c.n = true)
  (I : S → aA → ak → ak → Prop) (kJ : ∀ s, Shape (I s))
  (uw : ∀ v Inv Hy z, iH ah R A v (dh body) Inv → Inv (.inl s0) R Hy → jy (dh body) (.inl s0) = some z → aB ah fid (first ++ #[v] ++ cap) R Hy λ _ R' H' => aO R R' ∧ Inv z R' H')
  (h0 : I s0 R H H1)
  (ha : ∀ r s R' H', aO R R' → I s R' ((r, .deferred (some [])) :: H) H' → f s = some rr → At ah ⟨c.fn, c.kind, none, c.n, ⟨.collected r, #[]⟩ :: c.defers, c.cs⟩ R' H' st k)
  (hb : ∀ (va : Value) (x : α) (s : S) (R' : aA) (T H' : ak) (l : Nat) (ld : Loop) (cs : List Frame), aO R R' → List.Sublist H T → A R' x va → I s R' ((l, .loop ld) :: T) H' → ld.state = .ready → ∀ z, body x s = some z →
   (∀ s', z = .inl s' → ∀ bX cx gH, aO R' bX → I s' bX ((l, .loop { ld with state := .busy }) :: T) cx → At ah ⟨c.fn, .normal, some l, c.n, [], cs⟩ bX cx gH []) →
   At ah ⟨c.fn, .normal, some l, c.n, [], cs⟩ R' H' ((t, va) :: st) [.code assign, .beginRound, .code eo]) :
  At ah c R H1 st (.code (.rangeFunc x #[t] assign eo) :: k) :=
 At.abF (jy := jy) hM hx he hk hro hd I (λ o => o.elim) (λ o => o.elim) kJ (λ o => o.elim) uw h0 ha (λ _ o => o.elim)
  (λ va x s z R' T H' l ld cs h1 h2 h3 h4 h5 h6 h7 _ => hb va x s R' T H' l ld cs h1 h2 h3 h4 h5 z h6 λ s' hz bX cx gH => h7 s' bX cx gH hz)
theorem At.T3 {ρ : Type} (jy : (α → (S ⊕ O) → Option ((S ⊕ O) × Bool)) → (S ⊕ O) → Option (S ⊕ O)) {f : S → Option ρ} {g : O → Option ρ} {s0 : S} {rr : ρ} {x : Operand} {fid : FuncId} {first cap : Array Value} {H1 : ak} (jc : Code)
  (hM : (jy (dh body) (.inl s0)).bind (Sum.elim f g) = some rr) (hx : bh st x = some (.func (.func fid) first cap)) (he : aZ P fid) (hk : (c.kind == CallKind.early) = false) (hro : c.ro = none) (hd : Nat.blt t c.n = true)
  (I : S → aA → ak → ak → Prop) (E : O → aA → ak → ak → Prop) (kJ : ∀ s, Shape (I s)) (o6 : ∀ s, Shape (E s))
  (uw : ∀ v Inv Hy z, iH ah R A v (dh body) Inv → Inv (.inl s0) R Hy → jy (dh body) (.inl s0) = some z → aB ah fid (first ++ #[v] ++ cap) R Hy λ _ R' H' => aO R R' ∧ Inv z R' H')
  (h0 : I s0 R H H1)
  (ha : ∀ r s R' H', aO R R' → I s R' ((r, .deferred (some [])) :: H) H' → f s = some rr → At ah ⟨c.fn, c.kind, none, c.n, ⟨.collected r, #[]⟩ :: c.defers, c.cs⟩ R' H' st k)
  (hz : ∀ r o R' H', aO R R' → E o R' ((r, .deferred (some [])) :: H) H' → g o = some rr → At ah ⟨c.fn, c.kind, none, c.n, ⟨.collected r, #[]⟩ :: c.defers, c.cs⟩ R' H' st (.code jc :: k))
  (hb : ∀ (va : Value) (x : α) (s : S) (R' : aA) (T H' : ak) (l : Nat) (ld : Loop) (cs : List Frame), aO R R' → List.Sublist H T → A R' x va → I s R' ((l, .loop ld) :: T) H' → ld.state = .ready → ∀ z, body x s = some z →
   (∀ s', z = .inl s' → ∀ bX cx gH, aO R' bX → I s' bX ((l, .loop { ld with state := .busy }) :: T) cx → At ah ⟨c.fn, .normal, some l, c.n, [], cs⟩ bX cx gH []) →
   (∀ o, z = .inr o → ∀ bX cx gH k'', aO R' bX → E o bX ((l, .loop { ld with state := .busy }) :: T) cx → Leaves (.code jc :: k'') (some jc) → At ah ⟨c.fn, .normal, some l, c.n, [], cs⟩ bX cx gH (.code jc :: k'')) →
   At ah ⟨c.fn, .normal, some l, c.n, [], cs⟩ R' H' ((t, va) :: st) [.code assign, .beginRound, .code eo]) :
  At ah c R H1 st (.code (.rangeFunc x #[t] assign eo) :: k) :=
 At.abF (jy := jy) hM hx he hk hro hd I E (λ _ => jc) kJ o6 uw h0 ha hz
  (λ va x s z R' T H' l ld cs h1 h2 h3 h4 h5 h6 h7 h8 => hb va x s R' T H' l ld cs h1 h2 h3 h4 h5 z h6 (λ s' hz bX cx gH => h7 s' bX cx gH hz) (λ o hz bX cx gH k'' => h8 o bX cx gH k'' hz))
theorem At.aAu {ρ : Type} (jy : (α → (S ⊕ O) → Option ((S ⊕ O) × Bool)) → (S ⊕ O) → Option (S ⊕ O)) {f : S → Option ρ} {g : O → Option ρ} {s0 : S} {rr : ρ} {x : Operand} {fid : FuncId} {first cap : Array Value} {H1 : ak} {l0 : Nat} {r0 : Loop} (jc : Code)
  (hM : (jy (dh body) (.inl s0)).bind (Sum.elim f g) = some rr) (hx : bh st x = some (.func (.func fid) first cap)) (he : aZ P fid) (hk : (c.kind == CallKind.early) = false) (hro : c.ro = some l0) (PL : (l0, Obj.loop r0) ∈ H1) (hd : Nat.blt t c.n = true)
  (I : S → aA → ak → ak → Prop) (E : O → aA → ak → ak → Prop) (kJ : ∀ s, Shape (I s)) (o6 : ∀ s, Shape (E s))
  (uw : ∀ v Inv Hy z, iH ah R A v (dh body) Inv → Inv (.inl s0) R Hy → jy (dh body) (.inl s0) = some z → aB ah fid (first ++ #[v] ++ cap) R Hy λ _ R' H' => aO R R' ∧ Inv z R' H')
  (h0 : I s0 R H H1)
  (ha : ∀ s R' H', aO R R' → I s R' H H' → f s = some rr → At ah c R' H' st k)
  (hz : ∀ o R' H', aO R R' → E o R' H H' → g o = some rr → At ah c R' H' st (.code jc :: k))
  (hb : ∀ (va : Value) (x : α) (s : S) (R' : aA) (T H' : ak) (l : Nat) (ld : Loop) (cs : List Frame), aO R R' → List.Sublist H T → A R' x va → I s R' ((l, .loop ld) :: T) H' → ld.state = .ready → ∀ z, body x s = some z →
   (∀ s', z = .inl s' → ∀ bX cx gH, aO R' bX → I s' bX ((l, .loop { ld with state := .busy }) :: T) cx → At ah ⟨c.fn, .normal, some l, c.n, [], cs⟩ bX cx gH []) →
   (∀ o, z = .inr o → ∀ bX cx gH k'', aO R' bX → E o bX ((l, .loop { ld with state := .busy }) :: T) cx → Leaves (.code jc :: k'') (some jc) → At ah ⟨c.fn, .normal, some l, c.n, [], cs⟩ bX cx gH (.code jc :: k'')) →
   At ah ⟨c.fn, .normal, some l, c.n, [], cs⟩ R' H' ((t, va) :: st) [.code assign, .beginRound, .code eo]) :
  At ah c R H1 st (.code (.rangeFunc x #[t] assign eo) :: k) :=
 At.aAt (jy := jy) hM hx he hk hro PL hd I E (λ _ => jc) kJ o6 uw h0 ha hz
  (λ va x s z R' T H' l ld cs h1 h2 h3 h4 h5 h6 h7 h8 => hb va x s R' T H' l ld cs h1 h2 h3 h4 h5 z h6 (λ s' hz bX cx gH => h7 s' bX cx gH hz) (λ o hz bX cx gH k'' => h8 o bX cx gH k'' hz))
theorem aA2 {r : Nat} {H' : ak} (hs : dD H r (.deferred (some [])) (.deferred none) H') : aC P B R H (Instr.takeDeferred r) λ v bX cx => v = [] ∧ bX = R ∧ cx = H' := by
 unfold Instr.takeDeferred
 exact aC.bind (aC.getObj rfl (.inr hs.mem) (aC.bind (aC.setObj rfl rfl hs (aC.pure ⟨rfl, rfl, rfl⟩))))
theorem aAI {fr : Frame} {cs : List Frame} {f : FuncId} {n r : Nat} {H' : ak} {tmps : Array Value} {todo : List Item} (hs : dD H r (.deferred (some [])) (.deferred none) H')
  (h : ah.J R H' (bt { (bl ⟨f, .normal, none, n, [], fr :: cs⟩ tmps todo) with mode := .returning } (fr :: cs))) :
  ah.J R H (bt { (bl ⟨f, .normal, none, n, [⟨.collected r, #[]⟩], fr :: cs⟩ tmps todo) with mode := .returning } (fr :: cs)) := by
 refine ah.step rfl λ w hw => ?_
 obtain ⟨v, w', R', H', h1, h2, h3, rfl, rfl, rfl⟩ := aA2 (P := P) hs w hw
 refine ⟨_, w', seen P f ((Instr.takeDeferred r).events P w #[]), R', _, ?_, λ e he => h2 e (mem_seen he), h3, h⟩
 simp [stepG, unwind, bt, bl, h1, GStep.after]
theorem aAH {fr : Frame} {cs : List Frame} {f : FuncId} {n : Nat} {fn : Func} {vs : List Value} {tmps : Array Value} {todo : List Item} (hf : P.funcs[f]? = some fn) (ht : e6 n st tmps) (hr : l9 P R H st fn.results.toList vs) (hj : ah.J R H (bt (fr.finish (pG vs)) cs)) :
  ah.J R H (bt { (bl ⟨f, .normal, none, n, [], fr :: cs⟩ tmps todo) with mode := .returning } (fr :: cs)) := by
 refine ah.step rfl λ w hw => ?_
 obtain ⟨v, w', R', H', h1, h2, h3, rfl, rfl, rfl⟩ := La (P := P) ht hr w hw
 refine ⟨bt (fr.finish (pG vs)) cs, w', seen P f ((results fn tmps).events P w #[]), R', H', ?_, λ e he => h2 e (mem_seen he), h3, hj⟩
 simp [stepG, unwind, doReturn, bt, bl, hf, h1, GStep.after]
theorem At.qQ {fr : Frame} {cs : List Frame} {f : FuncId} {n r : Nat} {H' : ak} {fn : Func} {vs : List Value} (hs : dD H r (.deferred (some [])) (.deferred none) H') (hf : P.funcs[f]? = some fn) (hr : l9 P R H' st fn.results.toList vs) (hj : ah.J R H' (bt (fr.finish (pG vs)) cs)) :
  At ah ⟨f, .normal, none, n, [⟨.collected r, #[]⟩], fr :: cs⟩ R H st (.code .ret :: k) := λ tmps ht => by
 refine Jd.ctl (g' := bt { (bl ⟨f, .normal, none, n, [⟨.collected r, #[]⟩], fr :: cs⟩ tmps (.code .ret :: k)) with mode := .returning } (fr :: cs)) rfl (λ w => by simp [stepG, stepG.exec, bt, bl]) ?_
 exact aAI hs (aAH hf ht hr hj)
end
theorem aB.hole {f : FuncId} {args : Array Value} {G : ak → ak} {Hs : ak} (hG : fN G) {Q : Value → aA → ak → Prop} (h : aB ah f args R (Hs ++ G []) λ v R' H' => ∃ bF, Q v R' bF ∧ H' = bF ++ G []) :
  aB ah f args R (G Hs) λ v R' H' => ∃ bF, Q v R' bF ∧ H' = G bF := by
 obtain ⟨A, D, hG⟩ := hG
 have key : ∀ X : ak, List.Perm (X ++ G []) (G X) := λ X => by
  rw [hG, hG, List.nil_append, ← List.append_assoc, ← List.append_assoc]
  exact List.perm_append_comm.append_right D
 intro fr cs hk
 refine J.perm (key Hs) (h fr cs λ v R' H' hv => ?_)
 obtain ⟨bF, hq, rfl⟩ := hv
 exact J.perm (key bF).symm (hk v R' _ ⟨bF, hq, rfl⟩)
theorem Ox.BV {x y : Operand} {t u e : TypeId} {o : Oper} {C : aA → ak → St → Prop} {A : Option Addr} {n cap : Nat} {b : Bool} {st' : St} (hop : o.op = .binOp .eql t x y u) (hx : bh st x = some (.slice A n cap)) (hy : bh st y = some (.slice none 0 0)) (ht : P.underlying t = some (.slice e)) (hb : A.isNone = b)
  (hd : cg o.dst c.n) (hs : aF (bS o.dst (.bool b) st) st') (h : C R H st') : aP P B c o R H st C :=
 Ox.val' (s := λ ρ => do eqGuard .eql t x y (ρ x) (ρ y); binOp .eql t (ρ x) (ρ y)) (by rw [hop]; rfl) hd (λ ρ => by simp only [execOp, hop]) (λ ρ hρ => by
  rw [hρ x _ hx, hρ y _ hy]
  refine an.bind (a := ()) (an.pure _) ?_
  simp only [binOp]
  refine an.bind (a := b) ?_ (an.pure _)
  unfold Op.equal Op.maxDepth Op.equalIn
  refine an.bind (an.underlying ht) ?_
  cases A with
  | none => subst hb; exact an.pure _
  | some a => subst hb; exact an.pure _) hs h
theorem bV.TH {α : Type} {K : cn α} {k : Nat} {v : Value} {xs : List α} (h : bV K k R H v xs) : (∃ cap, v = .slice none 0 cap ∧ xs = []) ∨ ∃ a n cap, v = .slice (some a) n cap := by
 obtain ⟨A, cap, es, rfl, h2, h3, h4⟩ := h
 cases A with
 | some a => exact .inr ⟨a, _, cap, rfl⟩
 | none =>
  cases xs with
  | nil => exact .inl ⟨cap, rfl, rfl⟩
  | cons x xs =>
   obtain ⟨b, o, g, _⟩ := h4 (by simp)
   cases g
theorem Ox.Ko {x y : Operand} {t e len : Nat} {cs : Array Value} {v : Value} {kd : IntKind} {i : Int} {o : Oper} {C : aA → ak → St → Prop} {st' : St} (hop : o.op = .index t x y) (hx : bh st x = some (.agg cs)) (hy : bh st y = some (.int kd i)) (ht : vG P t len e 1) (he : an P (isAgg e) false) (hi : 0 ≤ i ∧ i < len) (hv : cs[i.toNat * 1]? = some v)
  (hd : cg o.dst c.n) (hs : aF (bS o.dst v st) st') (h : C R H st') : aP P B c o R H st C :=
 Ox.val' (s := λ ρ => Instr.index t (ρ x) (ρ y)) (by rw [hop]; rfl) hd (λ ρ => by simp only [execOp, hop]) (λ ρ hρ => by
  rw [hρ x _ hx, hρ y _ hy]
  unfold Instr.index
  refine an.bind (a := (kd, i)) (an.pure _) (an.bind (an.underlying ht.1) ?_)
  simp only [hi, and_self, if_true]
  refine an.bind ht.2 ?_
  unfold part
  refine an.bind he ?_
  simp only [hv]
  exact an.pure _) hs h
theorem At.nv {todo : List Item} {b : Nat} {cs : Array Value} {e : TypeId} {fz : Nat × Nat} (G : ak → ak) (hG : fN G) {H2 : ak} (h2 : G [] = H2) (h : ∀ R', aO R R' → aS R' [] b 0 cs.toList → At ah c R' H2 st todo) : At ah c R (G [(b, .cells cs e fz)]) st todo := by
 obtain ⟨A, D, hG⟩ := hG
 refine At.perm (H' := (b, .cells cs e fz) :: (A ++ D)) ?_ (At.freeze λ R' hR hb => ?_)
 ·rw [hG]; exact List.perm_middle.symm
 ·have e2 : A ++ D = H2 := by rw [← h2, hG]; rfl
  rw [e2]
  exact h R' hR (aS.known (n := cs.toList.length) hb (by rw [List.drop_zero, List.take_length]))
def Eg (ah : Jd P B main) (R : aA) {α S : Type} (A : j6 α) (v : Value) (q : (α → S → Option (S × Bool)) → S → Option S) : Prop :=
 ∃ fid first cap, v = .func (.func fid) first cap ∧ aZ P fid ∧ ∀ R', aO R R' → ∀ (w : Value) (y : α → S → Option (S × Bool)) (Inv : S → aA → ak → Prop) (Hy : ak) (s z : S), iH ah R' A w y Inv → Inv s R' Hy → q y s = some z →
  aB ah fid (first ++ #[w] ++ cap) R' Hy λ _ bX H' => aO R' bX ∧ Inv z bX H'
theorem Eg.mono {R' : aA} {α S : Type} {A : j6 α} {v : Value} {q : (α → S → Option (S × Bool)) → S → Option S} (h : Eg ah R A v q) (hR : aO R R') : Eg ah R' A v q := by
 obtain ⟨fid, first, cap, h1, h2, h3⟩ := h
 exact ⟨fid, first, cap, h1, h2, λ bX qe => h3 bX (hR.trans qe)⟩
theorem iH.frame {α S : Type} {A : j6 α} {v : Value} {y : α → S → Option (S × Bool)} {Inv : S → aA → ak → Prop} (h : iH ah R A v y Inv) (Hf : ak) : iH ah R A v y λ s R' H' => ∃ Hy, Inv s R' Hy ∧ H' = Hf ++ Hy where
 fn := h.fn
 mono := λ h1 h2 ⟨Hy, hi, e⟩ => ⟨Hy, h.mono h1 h2 hi, e⟩
 call := by
  intro H2 R' Hy s x va z hR hI hA hy
  obtain ⟨Hy, hI, rfl⟩ := hI
  have := h.call (H2 ++ Hf) hR hI hA hy
  rw [List.append_assoc] at this
  refine this.mono λ w bX cx ⟨h1, h2, Ed, h3, h4⟩ => ⟨h1, h2, Hf ++ Ed, ⟨Ed, h3, rfl⟩, by rw [h4, List.append_assoc]⟩
section
variable {S : Nat → ak} {ops : Array Oper} {n : Nat} {rem : List Nat} {H2 : ak}
theorem Wu {Q : Array Value → aA → ak → Prop} {R' : aA} {H' : ak} (hg : ∀ w, Fits B R H w → di B R H w R' H' w) (hR : aO R R') (hS : ∀ j, ∀ p ∈ S j, p ∈ H → p ∈ H') (hQ : ∀ t, Q t R' H' → Q t R H) :
  ∀ (n : Nat) (rem : List Nat) (t : Array Value), vQ ah c S ops Q n rem t R' H' → vQ ah c S ops Q n rem t R H
 | 0, rem, t, h => ⟨h.1, hQ t h.2⟩
 | n + 1, rem, t, h => by
  rcases h with ⟨h1, h2⟩ | ⟨h1, h2⟩
  ·exact .inl ⟨h1, hQ t h2⟩
  ·refine .inr ⟨h1, λ ⟨w, hw⟩ i hi hr => ?_⟩
   obtain ⟨o, ho, hd, h⟩ := h2 ⟨w, (hg w hw).fits⟩ i hi hr
   refine ⟨o, ho, hd, ?_⟩
   rcases h with ⟨a, b⟩ | ⟨a, b | ⟨f, args, b, b'⟩⟩
   ·exact .inl ⟨a, Wu hg hR hS hQ n _ _ b⟩
   ·exact .inr ⟨a, .inl ((aC.ghost hg b).mono λ nx bX cx ⟨v, x, y, z, hk⟩ => ⟨v, x, hR.trans y, λ p hp P8 => z p hp (hS i p hp P8), hk⟩)⟩
   ·exact .inr ⟨a, .inr ⟨f, args, b, (aB.ghost hg b').mono λ v bX cx ⟨y, z, hk⟩ => ⟨hR.trans y, λ p hp P8 => z p hp (hS i p hp P8), hk⟩⟩⟩
theorem Any.ghost {R' : aA} {H' : ak} (hg : ∀ w, Fits B R H w → di B R H w R' H' w) (hR : aO R R') (hS : ∀ j, ∀ p ∈ S j, p ∈ H → p ∈ H') (h : Any ah c S ops k n rem R' H' st) : Any ah c S ops k n rem R H st :=
 ⟨h.1, λ tmps ht => Wu hg hR hS (λ _ hq => ah.ghost hg hq) n rem tmps (h.2 tmps ht)⟩
theorem Any.given (cE : rem.Nodup) (hn : rem.length ≤ n) (h : (∃ w, Fits B R H w) → Any ah c S ops k n rem R H st) : Any ah c S ops k n rem R H st := by
 by_cases hw : ∃ w, Fits B R H w
 ·exact h hw
 ·refine ⟨cE, λ tmps ht => ?_⟩
  cases n with
  | zero =>
   have : rem = [] := List.length_eq_zero_iff.1 (by omega)
   exact ⟨this, J.given ah rfl λ h => absurd h hw⟩
  | succ n =>
   cases rem with
   | nil => exact .inl ⟨rfl, J.given ah rfl λ h => absurd h hw⟩
   | cons i rem => exact .inr ⟨by simp, λ h => absurd h hw⟩
theorem Any.freeze {b : Nat} {o : Obj} {A D : ak} (cE : rem.Nodup) (hn : rem.length ≤ n) (hS : ∀ j, ∀ p ∈ S j, p ∈ A ++ D) (h : ∀ R', aO R R' → R' b = some o → Any ah c S ops k n rem R' (A ++ D) st) : Any ah c S ops k n rem R (A ++ (b, o) :: D) st := by
 refine Any.given cE hn λ ⟨w, hw⟩ => ?_
 have hb : R b = none := hw.dj b o (by simp)
 refine Any.ghost (R' := R.ins b o) (H' := A ++ D) (λ w hw => ?_) (aA.Kq hb) (λ j p hp _ => hS j p hp) (h _ (aA.Kq hb) (aA.aap R b o))
 exact (Hj List.perm_middle.symm hw).trans (acf (Hj List.perm_middle.symm hw).fits)
theorem Any.fY {α : Type} {K : cn α} [CM K] {kk e : Nat} (G : ak → ak) (hG : fN G) {v : Value} {xs : List α} {Hs : ak} (h2 : G [] = H2) (hO : bg K kk e R v xs Hs) (cE : rem.Nodup) (hn : rem.length ≤ n) (hS : ∀ j, ∀ p ∈ S j, p ∈ H2) (h : ∀ R', aO R R' → az K kk R' v xs → Any ah c S ops k n rem R' H2 st) : Any ah c S ops k n rem R (G Hs) st := by
 subst h2
 rcases hO with ⟨A, rfl, rfl, rfl⟩ | ⟨b, cap, cs, es, rfl, rfl, h3, h4, h5, h6⟩
 ·exact h R (aO.refl R) .nil
 ·obtain ⟨A, D, ny⟩ := hG
  rw [ny] at h hS ⊢
  refine Any.freeze cE hn (λ j p hp => hS j p hp) (λ R' hR hb => h R' hR ?_)
  exact ⟨_, cap, es, rfl, h5.mono hR, h4, λ _ => ⟨b, 0, cs, e, (0, 0), rfl, hb, λ j w hj => by simpa using h6 j w hj⟩⟩
theorem Any.qd {α : Type} {K : cn α} [CM K] {kk e b m : Nat} (G : ak → ak) (hG : fN G) (h2 : G [] = H2) {ys : List α} {cs : Array Value} (hE : aK K kk R ys cs.toList) (hm : ys.length = m) (cE : rem.Nodup) (hn : rem.length ≤ n) (hS : ∀ j, ∀ p ∈ S j, p ∈ H2) (h : ∀ R', aO R R' → az K kk R' (.slice (some ⟨b, 0, none⟩) m m) ys → Any ah c S ops k n rem R' H2 st) : Any ah c S ops k n rem R (G [(b, .cells cs e (0, 0))]) st := by
 subst hm h2
 obtain ⟨A, D, ny⟩ := hG
 rw [ny] at h hS ⊢
 refine Any.freeze cE hn (λ j p hp => hS j p hp) (λ R' hR hb => h R' hR ?_)
 exact ⟨_, ys.length, cs.toList, rfl, hE.mono hR, Nat.le_refl _, λ _ => ⟨b, 0, cs, e, (0, 0), rfl, hb, λ j w hj => by simpa using hj⟩⟩
end
theorem Ox.nilCheck {x : Operand} {a : Addr} {o : Oper} {C : aA → ak → St → Prop} {st' : St} (hop : o.op = .nilCheck x) (hx : bh st x = some (.pointer (some a))) (hd : cg o.dst c.n)
  (hs : aF (bS o.dst (.pointer (some a)) st) st') (h : C R H st') : aP P B c o R H st C :=
 Ox.val (by rw [hop]; rfl) hd (λ ρ hρ => by simp only [execOp, hop, hρ x _ hx]; exact an.pure _) hs h
def many (a : ak) : List (Nat × ak) → Nat → ak
 | [], _ => a
 | (q, l) :: r, j => if j = q then l else many a r j
section
variable {a N : ak} {ex : List (Nat × ak)} {rem D : List Nat} {i q : Nat} {l H' : ak}
theorem bf (ha : ∀ p ∈ N, p ∈ a) : ∀ j ∈ rem, j ≠ i → j ∉ D → ∀ p ∈ N, p ∈ many a [] j := λ _ _ _ _ p hp => ha p hp
theorem aN (hd : (D.contains q || q == i || !rem.contains q) = true) (h : ∀ j ∈ rem, j ≠ i → j ∉ D → ∀ p ∈ N, p ∈ many a ex j) : ∀ j ∈ rem, j ≠ i → j ∉ D → ∀ p ∈ N, p ∈ many a ((q, l) :: ex) j := by
 intro j hj hji oh p hp
 unfold many
 split
 ·subst_vars
  simp only [Bool.or_eq_true, Bool.not_eq_true', List.contains_iff_mem, beq_iff_eq] at hd
  rcases hd with (x | x) | x
  ·exact absurd x oh
  ·exact absurd x hji
  ·have : rem.contains j = true := List.contains_iff_mem.2 hj
   rw [this] at x; cases x
 ·exact h j hj hji oh p hp
theorem GZ (hl : ∀ p ∈ N, p ∈ l) (h : ∀ j ∈ rem, j ≠ i → j ∉ D → ∀ p ∈ N, p ∈ many a ex j) : ∀ j ∈ rem, j ≠ i → j ∉ D → ∀ p ∈ N, p ∈ many a ((q, l) :: ex) j := by
 intro j hj hji oh p hp
 unfold many
 split
 ·exact hl p hp
 ·exact h j hj hji oh p hp
theorem bL (he : many a ex i = l) (h : ∀ p ∈ l, p ∈ H') : ∀ p ∈ many a ex i, p ∈ H → p ∈ H' := by
 rw [he]; exact λ p hp _ => h p hp
theorem azh (ha : ∀ p ∈ a, p ∈ H') : ∀ j, ∀ p ∈ many a [] j, p ∈ H' := λ _ p hp => ha p hp
theorem azi (hl : ∀ p ∈ l, p ∈ H') (h : ∀ j, ∀ p ∈ many a ex j, p ∈ H') : ∀ j, ∀ p ∈ many a ((q, l) :: ex) j, p ∈ H' := by
 intro j p hp
 unfold many at hp
 split at hp
 ·exact hl p hp
 ·exact h j p hp
end
end
end Go.Lg
namespace Go.Lg
open Go.Conc
abbrev fO := List (List Bool × Int)
def lJ (k : List Bool) : Value := .agg (List.toArray ([] ++ (k.map Value.bool ++ [])))
def oV : List MapEntry → fO → Prop
 | [], m => m = []
 | e :: es, m => ∃ k z r, m = (k, z) :: r ∧ e.key = lJ k ∧ e.val = .int .i64 z ∧ k.length = 5 ∧ oV es r
def kS : fO := [([], 0)]
def nG (m : fO) (k : List Bool) : Int := (m.lookup k).getD 0
theorem oV.push {e : MapEntry} {k : List Bool} {z : Int} (h1 : e.key = lJ k) (h2 : e.val = .int .i64 z) (h3 : k.length = 5) : ∀ {es : List MapEntry} {m : fO}, oV es m → oV (es ++ [e]) (m ++ [(k, z)])
 | [], m, h => by cases h; exact ⟨k, z, [], rfl, h1, h2, h3, rfl⟩
 | _ :: es, m, h => by
  obtain ⟨k', z', r, rfl, a, b, c, d⟩ := h
  exact ⟨k', z', r ++ [(k, z)], rfl, a, b, c, oV.push h1 h2 h3 d⟩
def l8 (v : Value) (m : fO) (Hs : ak) : Prop := (v = .map none ∧ m = kS ∧ Hs = []) ∨ ∃ b es clock, v = .map (some b) ∧ Hs = [(b, .map es clock)] ∧ oV es.toList m ∧ (m.map (·.1)).Nodup
def m8 (R : aA) (v : Value) (m : fO) : Prop := (v = .map none ∧ m = kS) ∨ ∃ b es clock m', v = .map (some b) ∧ R b = some (.map es clock) ∧ oV es.toList m' ∧ (m'.map (·.1)).Nodup ∧ List.Perm m' m
theorem m8.mono {R R' : aA} {v : Value} {m : fO} (h : m8 R v m) (hR : aO R R') : m8 R' v m := by
 rcases h with h | ⟨b, es, cl, m', h1, h2, h3, h4, h5⟩
 ·exact .inl h
 ·exact .inr ⟨b, es, cl, m', h1, hR _ _ h2, h3, h4, h5⟩
theorem l8.one {v : Value} {m : fO} {Hs : ak} (h : l8 v m Hs) : v.oneCell' = true := by
 rcases h with ⟨rfl, _⟩ | ⟨b, es, cl, rfl, _⟩ <;> rfl
theorem l8.cells {v : Value} {m : fO} {Hs : ak} (h : l8 v m Hs) : v.cells = #[v] := by
 rcases h with ⟨rfl, _⟩ | ⟨b, es, cl, rfl, _⟩ <;> rfl
theorem l8.none : l8 (.map none) kS [] := .inl ⟨rfl, rfl, rfl⟩
theorem azl {k : List Bool} (hk : k.length = 5) : nG kS k = nG [] k := by
 unfold nG kS
 rw [List.lookup_cons]
 cases k with
 | nil => cases hk
 | cons a k => rfl
theorem m8.none {R : aA} : m8 R (.map none) kS := .inl ⟨rfl, rfl⟩
theorem aaF {m : fO} (hn : (m.map (·.1)).Nodup) {k : List Bool} {z : Int} (h : (k, z) ∈ m) : m.lookup k = some z := by
 induction m with
 | nil => cases h
 | cons p m ih =>
  obtain ⟨k', z'⟩ := p
  rw [List.map_cons, List.nodup_cons] at hn
  rw [List.lookup_cons]
  rcases List.mem_cons.1 h with h | h
  ·cases h; simp
  ·have hne : k ≠ k' := λ e => hn.1 (List.mem_map.2 ⟨_, h, e⟩)
   have : (k == k') = false := by simpa using hne
   rw [this]
   exact ih hn.2 h
theorem aaG {m : fO} {k : List Bool} (h : k ∉ m.map (·.1)) : m.lookup k = none := by
 induction m with
 | nil => rfl
 | cons p m ih =>
  obtain ⟨k', z'⟩ := p
  rw [List.map_cons, List.mem_cons, not_or] at h
  rw [List.lookup_cons]
  have : (k == k') = false := by simpa using h.1
  rw [this]
  exact ih h.2
theorem azm {m m' : fO} (hn : (m'.map (·.1)).Nodup) (hp : List.Perm m' m) (k : List Bool) : nG m' k = nG m k := by
 have hn2 : (m.map (·.1)).Nodup := (hp.map _).nodup_iff.1 hn
 unfold nG
 by_cases hk : k ∈ m'.map (·.1)
 ·obtain ⟨⟨k', z⟩, h1, h2⟩ := List.mem_map.1 hk
  simp only at h2
  subst h2
  rw [aaF hn h1, aaF hn2 (hp.mem_iff.1 h1)]
 ·have hk2 : k ∉ m.map (·.1) := λ h => hk ((hp.map _).mem_iff.2 h)
  rw [aaG hk, aaG hk2]
structure BG (P : Program) (t kt et : TypeId) : Prop where
 ty : P.underlying t = some (.map kt et)
 key : ∃ d, P.underlying kt = some d ∧ ∀ a b, Instr.sameNow d a b = none
 eq : ∀ a b : List Bool, a.length = 5 → b.length = 5 → an P (Op.equal kt (lJ a) (lJ b)) (a == b)
 de : ∀ (e : Bool) (a : List Bool), a.length = 5 → an P (Instr.checkKey e 10000 kt (lJ a)) ()
 zero : an P (zeroValue et) (.int .i64 0)
section
variable {P : Program} {B : Base} {main : Bool} {ah : Jd P B main} {c : Ctx} {R : aA} {H : ak} {st st' : St} {o : Oper} {C : aA → ak → St → Prop}
def ue : fO → List Bool → Nat → Option (Nat × Value)
 | [], _, _ => none
 | (k', z) :: m, k, i => if k == k' then some (i, .int .i64 z) else ue m k (i + 1)
theorem acg {t kt et : TypeId} (ht : BG P t kt et) {k : List Bool} (hk : k.length = 5) : ∀ {es : List MapEntry} {m : fO} {i : Nat}, oV es m → an P (Instr.findAsking kt (lJ k) es i) (ue m k i)
 | [], m, i, h => by cases h; exact an.pure _
 | e :: es, m, i, h => by
  obtain ⟨k', z, r, rfl, h1, h2, h3, h4⟩ := h
  unfold Instr.findAsking
  rw [h1]
  refine an.bind (ht.eq k k' hk h3) ?_
  unfold ue
  cases k == k' with
  | true => rw [h2]; exact an.pure _
  | false => exact acg ht hk h4
theorem aci {t kt et : TypeId} (ht : BG P t kt et) {k : List Bool} (hk : k.length = 5) {es : List MapEntry} {m : fO} (h : oV es m) : an P (Instr.findKey kt (lJ k) es) (ue m k 0) := by
 obtain ⟨d, h1, h2⟩ := ht.key
 unfold Instr.findKey
 refine an.bind (an.underlying h1) ?_
 cases es with
 | nil => cases h; exact an.pure _
 | cons e es =>
  simp only [Instr.findNow, h2]
  exact acg ht hk h
theorem Ym : ∀ {m : fO} {k : List Bool} {i : Nat}, (match ue m k i with | some (_, v) => v | none => .int .i64 0) = .int .i64 (nG m k)
 | [], _, _ => rfl
 | (k', z) :: m, k, i => by
  unfold ue nG
  rw [List.lookup_cons]
  cases hk : k == k' with
  | true => rfl
  | false =>
   have := Ym (m := m) (k := k) (i := i + 1)
   unfold nG at this
   exact this
theorem Yn : ∀ {m : fO} {k : List Bool} {i : Nat}, k ∉ m.map (·.1) → ue m k i = none
 | [], _, _, _ => rfl
 | (k', z) :: m, k, i, h => by
  rw [List.map_cons, List.mem_cons, not_or] at h
  have : (k == k') = false := by simpa using h.1
  unfold ue
  rw [this]
  exact Yn h.2
theorem abP {t kt et : TypeId} (ht : BG P t kt et) {k : List Bool} (hk : k.length = 5) {es : List MapEntry} {m : fO} (h : oV es m) {K : Value → aA → ak → Prop} (hK : K (.int .i64 (nG m k)) R H) :
  aC P B R H (do
   Instr.checkKey es.isEmpty 10000 kt (lJ k)
   let (v, ok) ← match ← Instr.findKey kt (lJ k) es with
    | some (_, v) => pure (v, true)
    | none => pure (← zeroValue et, false)
   pure (if false then .tuple #[v, .bool ok] else v)) K := by
 refine an.cz (ht.de _ k hk) (an.cz (aci ht hk h) ?_)
 have hg := Ym (m := m) (k := k) (i := 0)
 cases hf : ue m k 0 with
 | some q =>
  obtain ⟨i, v⟩ := q
  rw [hf] at hg
  simp only at hg
  subst hg
  exact aC.bind (aC.pure (aC.pure hK))
 | none =>
  rw [hf] at hg
  simp only at hg
  refine an.cz ht.zero (aC.bind (aC.pure (aC.pure ?_)))
  rw [hg]
  exact hK
theorem Ox.lookup {x y : Operand} {t kt et : TypeId} {v : Value} {m : fO} {k : List Bool} (hop : o.op = .lookup t x y false) (hx : bh st x = some v) (hy : bh st y = some (lJ k)) (ht : BG P t kt et) (hm : m8 R v m) (hk : k.length = 5)
  (hd : cg o.dst c.n) (hs : aF (bS o.dst (.int .i64 (nG m k)) st) st') (h : C R H st') : aP P B c o R H st C :=
 Ox.mem (s := λ ρ => Instr.lookup t (ρ x) (ρ y) false) (by rw [hop]; rfl) hd (λ ρ => by simp only [execOp, hop]) (λ ρ hρ => by
  rw [hρ x _ hx, hρ y _ hy]
  unfold Instr.lookup
  refine an.cz (an.underlying ht.ty) ?_
  rcases hm with ⟨rfl, rfl⟩ | ⟨b, es, cl, m', rfl, h1, h2, h3, h4⟩
  ·refine aC.bind (aC.pure ?_)
   rw [azl hk] at hs
   exact abP ht hk (es := []) rfl ⟨st', hs, h⟩
  ·refine aC.bind (aC.getObj rfl (.inl h1) ?_)
   rw [← azm h3 h4] at hs
   have := abP (B := B) (R := R) (H := H) (K := λ v R' H' => ∃ st', aF (bS o.dst v st) st' ∧ C R' H' st') ht hk h2 ⟨st', hs, h⟩
   have e : es.isEmpty = es.toList.isEmpty := by simp
   rw [← e] at this
   exact aC.bind (aC.pure this))
theorem Ox.makeMap {t : TypeId} (hop : o.op = .makeMap t none) (hd : cg o.dst c.n)
  (hC : ∀ v Hs, l8 v [] Hs → ∃ st', aF (bS o.dst v st) st' ∧ C R (Hs ++ H) st') : aP P B c o R H st C :=
 Ox.mem (s := λ ρ => Instr.makeMap t none) (by rw [hop]; rfl) hd (λ ρ => by simp only [execOp, hop]; rfl) (λ ρ hρ => by
  unfold Instr.makeMap
  refine aC.bind (aC.new λ b _ _ => aC.pure ?_)
  exact hC (.map (some b)) [(b, .map #[] 0)] (.inr ⟨b, #[], 0, rfl, rfl, rfl, by simp⟩))
theorem Ox.azj {x y z : Operand} {t kt et : TypeId} {b : Nat} {es : Array MapEntry} {clock : Nat} {m : fO} {k : List Bool} {w : Int} {H' : ak} (hop : o.op = .mapUpdate t x y z) (hx : bh st x = some (.map (some b))) (hy : bh st y = some (lJ k)) (hz : bh st z = some (.int .i64 w)) (ht : BG P t kt et) (hm : oV es.toList m) (hk : k.length = 5) (hn : k ∉ m.map (·.1))
  (hs : dD H b (.map es clock) (.map (es.push { key := lJ k, val := .int .i64 w, born := clock }) (clock + 1)) H') (hd : o.dst = none) (hst : aF st st') (h : C R H' st') : aP P B c o R H st C :=
 Ox.G1 (s := λ ρ => Instr.mapUpdate t (ρ x) (ρ y) (ρ z)) (by rw [hop]; rfl) hd (λ ρ => by simp only [execOp, hop]) hst (λ ρ hρ => by
  rw [hρ x _ hx, hρ y _ hy, hρ z _ hz]
  unfold Instr.mapUpdate
  refine an.cz (an.underlying ht.ty) ?_
  refine aC.bind (aC.getObj rfl (.inr hs.mem) ?_)
  refine an.cz (ht.de _ k hk) (an.cz (aci ht hk hm) ?_)
  rw [Yn hn]
  exact aC.setObj rfl rfl hs h)
theorem At.EM {todo : List Item} (G : ak → ak) (hG : fN G) {H2 Hs : ak} {v : Value} {m : fO} (h2 : G [] = H2) (hO : l8 v m Hs) (h : ∀ R', aO R R' → m8 R' v m → At ah c R' H2 st todo) : At ah c R (G Hs) st todo := by
 subst h2
 rcases hO with ⟨rfl, rfl, rfl⟩ | ⟨b, es, cl, rfl, rfl, h3, h4⟩
 ·exact h R (aO.refl R) .none
 ·obtain ⟨A, D, ny⟩ := hG
  rw [ny] at h ⊢
  refine At.perm (H' := (b, .map es cl) :: (A ++ ([] ++ D))) (by simpa using List.perm_middle.symm) (At.freeze λ R' hR hb => h R' hR ?_)
  exact .inr ⟨b, es, cl, m, rfl, hb, h3, h4, List.Perm.refl _⟩
end
end Go.Lg
namespace Go.Lg
open Go.Conc
def eg (p w : Int) : Value := .agg #[.int .i64 p, .int .i64 w]
theorem Hw {p w p' w' : Int} (h : eg p w = eg p' w') : p = p' ∧ w = w' := by
 simp only [eg, Value.agg.injEq, Array.mk.injEq, List.cons.injEq, Value.int.injEq] at h
 exact ⟨h.1.2, h.2.1.2⟩
def vb (m : Int → Int → Int) (p w z : Int) : Int → Int → Int := λ a b => if a = p ∧ b = w then z else m a b
structure Bz (es : List MapEntry) (m : Int → Int → Int) (clock : Nat) : Prop where
 ED : ∀ e ∈ es, ∃ p w, e.key = eg p w ∧ e.val = .int .i64 (m p w)
 zero : ∀ p w, (∀ e ∈ es, e.key ≠ eg p w) → m p w = 0
 keys : ∀ (i j : Nat) (a b : MapEntry), es[i]? = some a → es[j]? = some b → a.key = b.key → i = j
 old : ∀ e ∈ es, e.born < clock
 Nb : ∀ (i j : Nat) (a b : MapEntry), es[i]? = some a → es[j]? = some b → a.born = b.born → i = j
def tR (v : Value) (m : Int → Int → Int) (Hs : ak) : Prop := ∃ b es clock, v = .map (some b) ∧ Hs = [(b, .map es clock)] ∧ Bz es.toList m clock
def IA (v : Value) (m : Int → Int → Int) (p w g : Int) (Hs : ak) : Prop := ∃ b es clock, v = .map (some b) ∧ Hs = [(b, .map es clock)] ∧ Bz es.toList m clock ∧ ∃ (i : Nat) (e : MapEntry), es[i]? = some e ∧ e.key = eg p w ∧ g = (e.born : Int)
theorem IA.own {v : Value} {m : Int → Int → Int} {p w g : Int} {Hs : ak} (h : IA v m p w g Hs) : tR v m Hs := by
 obtain ⟨b, es, cl, h1, h2, h3, _⟩ := h
 exact ⟨b, es, cl, h1, h2, h3⟩
structure Ee (P : Program) (t kt et : TypeId) : Prop where
 ty : P.underlying t = some (.map kt et)
 key : ∃ d, P.underlying kt = some d ∧ ∀ a b, Instr.sameNow d a b = none
 eq : ∀ a b c d : Int, an P (Op.equal kt (eg a b) (eg c d)) (a == c && (b == d && true))
 de : ∀ (e : Bool) (a b : Int), an P (Instr.checkKey e 10000 kt (eg a b)) ()
 zero : an P (zeroValue et) (.int .i64 0)
section
variable {P : Program} {B : Base} {main : Bool} {ah : Jd P B main} {c : Ctx} {R : aA} {H : ak} {st st' : St} {o : Oper} {C : aA → ak → St → Prop}
def adA (es : List MapEntry) (p w : Int) (r : Option (Nat × Value)) : Prop :=
 (r = none ∧ ∀ e ∈ es, e.key ≠ eg p w) ∨ ∃ (i : Nat) (e : MapEntry), es[i]? = some e ∧ e.key = eg p w ∧ r = some (i, e.val)
theorem ach {t kt et : TypeId} (ht : Ee P t kt et) (p w : Int) : ∀ (es : List MapEntry) (i : Nat), (∀ e ∈ es, ∃ p w, e.key = eg p w) → ∃ r, an P (Instr.findAsking kt (eg p w) es i) r ∧ ((r = none ∧ ∀ e ∈ es, e.key ≠ eg p w) ∨ ∃ (j : Nat) (e : MapEntry), es[j]? = some e ∧ e.key = eg p w ∧ r = some (i + j, e.val))
 | [], i, h => ⟨none, an.pure _, .inl ⟨rfl, λ e he => (by cases he)⟩⟩
 | e :: es, i, h => by
  obtain ⟨p', w', hk⟩ := h e (by simp)
  by_cases heq : p = p' ∧ w = w'
  ·obtain ⟨rfl, rfl⟩ := heq
   refine ⟨some (i, e.val), ?_, .inr ⟨0, e, rfl, hk, rfl⟩⟩
   unfold Instr.findAsking
   rw [hk]
   refine an.bind (ht.eq p w p w) ?_
   simp only [beq_self_eq_true, Bool.and_self, if_true]
   exact an.pure _
  ·obtain ⟨r, hr, hc⟩ := ach ht p w es (i + 1) (λ e he => h e (by simp [he]))
   have hb : (p == p' && (w == w' && true)) = false := by
    simp only [Bool.and_true, Bool.and_eq_false_iff, beq_eq_false_iff_ne]
    by_cases hp : p = p'
    ·exact .inr λ hw => heq ⟨hp, hw⟩
    ·exact .inl hp
   refine ⟨r, ?_, ?_⟩
   ·unfold Instr.findAsking
    rw [hk]
    refine an.bind (ht.eq p w p' w') ?_
    rw [hb]
    exact hr
   ·rcases hc with ⟨rfl, hc⟩ | ⟨j, e', h1, h2, rfl⟩
    ·refine .inl ⟨rfl, λ x hx => ?_⟩
     rcases List.mem_cons.1 hx with rfl | hx
     ·intro e2
      obtain ⟨a, b⟩ := Hw (hk.symm.trans e2)
      exact heq ⟨a.symm, b.symm⟩
     ·exact hc x hx
    ·exact .inr ⟨j + 1, e', by simpa using h1, h2, by simp; omega⟩
theorem acj {t kt et : TypeId} (ht : Ee P t kt et) (p w : Int) {es : List MapEntry} {m : Int → Int → Int} {cl : Nat} (h : Bz es m cl) : ∃ r, an P (Instr.findKey kt (eg p w) es) r ∧ adA es p w r := by
 obtain ⟨d, h1, h2⟩ := ht.key
 obtain ⟨r, hr, hc⟩ := ach ht p w es 0 (λ e he => let ⟨p, w, hk, _⟩ := h.ED e he; ⟨p, w, hk⟩)
 cases es with
 | nil => exact ⟨none, by unfold Instr.findKey; exact an.bind (an.underlying h1) (an.pure _), .inl ⟨rfl, λ e he => by cases he⟩⟩
 | cons e es =>
  refine ⟨r, ?_, ?_⟩
  ·unfold Instr.findKey
   refine an.bind (an.underlying h1) ?_
   simp only [Instr.findNow, h2]
   exact hr
  ·rcases hc with hc | ⟨j, e', h1, h2, h3⟩
   ·exact .inl hc
   ·exact .inr ⟨j, e', h1, h2, by simpa using h3⟩
theorem Ox.azg {t : TypeId} (hop : o.op = .makeMap t none) (hd : cg o.dst c.n)
  (hC : ∀ v Hs, tR v (λ _ _ => 0) Hs → ∃ st', aF (bS o.dst v st) st' ∧ C R (Hs ++ H) st') : aP P B c o R H st C :=
 Ox.mem (s := λ ρ => Instr.makeMap t none) (by rw [hop]; rfl) hd (λ ρ => by simp only [execOp, hop]; rfl) (λ ρ hρ => by
  unfold Instr.makeMap
  refine aC.bind (aC.new λ b _ _ => aC.pure ?_)
  exact hC (.map (some b)) [(b, .map #[] 0)] ⟨b, #[], 0, rfl, rfl, ⟨λ e he => (by cases he), λ _ _ _ => rfl, λ i j a b ha => (by simp at ha), λ e he => (by cases he), λ i j a b ha => (by simp at ha)⟩⟩)
theorem Ox.S3 {x y : Operand} {t kt et : TypeId} {v : Value} {m : Int → Int → Int} {p w : Int} {Hs : ak} (hop : o.op = .lookup t x y false) (hx : bh st x = some v) (hy : bh st y = some (eg p w)) (ht : Ee P t kt et) (hm : tR v m Hs) (hH : ∀ q ∈ Hs, q ∈ H)
  (hd : cg o.dst c.n) (hs : aF (bS o.dst (.int .i64 (m p w)) st) st') (h : C R H st') : aP P B c o R H st C :=
 Ox.mem (s := λ ρ => Instr.lookup t (ρ x) (ρ y) false) (by rw [hop]; rfl) hd (λ ρ => by simp only [execOp, hop]) (λ ρ hρ => by
  rw [hρ x _ hx, hρ y _ hy]
  unfold Instr.lookup
  refine an.cz (an.underlying ht.ty) ?_
  obtain ⟨b, es, cl, rfl, rfl, he⟩ := hm
  refine aC.bind (aC.getObj rfl (.inr (hH (b, .map es cl) (by simp))) ?_)
  refine aC.bind (aC.pure ?_)
  obtain ⟨r, hr, hf⟩ := acj ht p w he
  refine an.cz (ht.de _ p w) (an.cz hr ?_)
  rcases hf with ⟨rfl, hn⟩ | ⟨i, e, h1, h2, rfl⟩
  ·refine an.cz ht.zero (aC.bind (aC.pure (aC.pure ?_)))
   rw [he.zero p w hn] at hs
   exact ⟨st', hs, h⟩
  ·obtain ⟨p', w', hk, hv⟩ := he.ED e (List.mem_of_getElem? h1)
   obtain ⟨rfl, rfl⟩ := Hw (hk.symm.trans h2)
   rw [hv]
   exact aC.bind (aC.pure (aC.pure ⟨st', hs, h⟩)))
theorem aAS (p w : Int) : Instr.sameBits 10000 (eg p w) (eg p w) = true := by
 simp [Instr.sameBits, eg]
theorem azq {es : Array MapEntry} {i : Nat} {e : MapEntry} {k : Value} (h : es[i]? = some e) (hk : e.key = k) : es.modify i (λ e => { e with key := k }) = es := by
 apply Array.ext_getElem?
 intro j
 rw [Array.getElem?_modify]
 by_cases hj : i = j
 ·subst hj; simp [h, ← hk]
 ·simp [hj]
theorem Bz.push {es : Array MapEntry} {m : Int → Int → Int} {cl : Nat} {p w : Int} (h : Bz es.toList m cl) (hn : ∀ e ∈ es.toList, e.key ≠ eg p w) :
  Bz (es.push { key := eg p w, val := .int .i64 0, born := cl }).toList m (cl + 1) := by
 rw [Array.toList_push]
 refine ⟨λ e he => ?_, λ p' w' hne => ?_, λ i j a b ha hb hab => ?_, λ e he => ?_, λ i j a b ha hb hab => ?_⟩
 ·rcases List.mem_append.1 he with he | he
  ·exact h.ED e he
  ·rcases List.mem_singleton.1 he with rfl
   exact ⟨p, w, rfl, by rw [h.zero p w hn]⟩
 ·exact h.zero p' w' λ e he => hne e (List.mem_append.2 (.inl he))
 ·rw [List.getElem?_append] at ha hb
  split at ha <;> split at hb
  ·exact h.keys i j a b ha hb hab
  ·rename_i h1 h2
   have : b = { key := eg p w, val := .int .i64 0, born := cl } := by
    have := List.mem_of_getElem? hb; simpa using this
   subst this
   exact absurd hab (hn a (List.mem_of_getElem? ha))
  ·rename_i h1 h2
   have : a = { key := eg p w, val := .int .i64 0, born := cl } := by
    have := List.mem_of_getElem? ha; simpa using this
   subst this
   exact absurd hab.symm (hn b (List.mem_of_getElem? hb))
  ·have h1 := (List.getElem?_eq_some_iff.1 ha).1
   have h2 := (List.getElem?_eq_some_iff.1 hb).1
   simp only [List.length_singleton, Array.length_toList] at *
   omega
 ·rcases List.mem_append.1 he with he | he
  ·have := h.old e he; omega
  ·rcases List.mem_singleton.1 he with rfl
   exact Nat.lt_succ_self _
 ·rw [List.getElem?_append] at ha hb
  split at ha <;> split at hb
  ·exact h.Nb i j a b ha hb hab
  ·have : b = { key := eg p w, val := .int .i64 0, born := cl } := by
    have := List.mem_of_getElem? hb; simpa using this
   subst this
   have := h.old a (List.mem_of_getElem? ha)
   simp only at hab
   omega
  ·have : a = { key := eg p w, val := .int .i64 0, born := cl } := by
    have := List.mem_of_getElem? ha; simpa using this
   subst this
   have := h.old b (List.mem_of_getElem? hb)
   simp only at hab
   omega
  ·have h1 := (List.getElem?_eq_some_iff.1 ha).1
   have h2 := (List.getElem?_eq_some_iff.1 hb).1
   simp only [List.length_singleton, Array.length_toList] at *
   omega
theorem Ox.mapEntry {x y : Operand} {t kt et : TypeId} {v : Value} {m : Int → Int → Int} {p w : Int} {Hs : ak} (G : ak → ak) (hop : o.op = .mapEntry t x y) (hx : bh st x = some v) (hy : bh st y = some (eg p w)) (ht : Ee P t kt et) (hG : fN G) (hm : tR v m Hs)
  (hd : cg o.dst c.n) (hC : ∀ g bF, IA v m p w g bF → ∃ st', aF (bS o.dst (.tuple #[.int .i64 (m p w), .int .i64 g]) st) st' ∧ C R (G bF) st') : aP P B c o R (G Hs) st C :=
 Ox.mem (s := λ ρ => Instr.mapEntry t (ρ x) (ρ y)) (by rw [hop]; rfl) hd (λ ρ => by simp only [execOp, hop]) (λ ρ hρ => by
  rw [hρ x _ hx, hρ y _ hy]
  unfold Instr.mapEntry
  refine an.cz (an.underlying ht.ty) ?_
  obtain ⟨b, es, cl, rfl, rfl, he⟩ := hm
  refine aC.bind (aC.getObj rfl (.inr (hG.set (o' := .map es cl)).mem) ?_)
  obtain ⟨r, hr, hf⟩ := acj ht p w he
  refine an.cz (ht.de _ p w) (an.cz hr ?_)
  rcases hf with ⟨rfl, hn⟩ | ⟨i, e, h1, h2, rfl⟩
  ·refine an.cz ht.zero (aC.bind (aC.setObj rfl rfl hG.set (aC.pure ?_)))
   have := hC (cl : Int) [(b, .map (es.push { key := eg p w, val := .int .i64 0, born := cl }) (cl + 1))] ⟨b, es.push { key := eg p w, val := .int .i64 0, born := cl }, cl + 1, rfl, rfl, he.push hn, es.size, { key := eg p w, val := .int .i64 0, born := cl }, by simp, rfl, rfl⟩
   rw [he.zero p w hn] at this
   exact this
  ·obtain ⟨p', w', hk, hv⟩ := he.ED e (List.mem_of_getElem? h1)
   obtain ⟨rfl, rfl⟩ := Hw (hk.symm.trans h2)
   have Jq : es[i]? = some e := by simpa using h1
   have hst : an P (Instr.keyThatStays (((es[i]?).map (·.key)).getD (eg p' w')) (eg p' w')) (eg p' w') := by
    rw [Jq]
    simp only [Option.map_some, Option.getD_some, hk, Instr.keyThatStays, aAS, if_true]
    exact an.pure _
   refine an.cz hst (aC.bind (aC.setObj rfl rfl hG.set (aC.pure ?_)))
   rw [azq Jq hk, Jq, hv]
   exact hC (e.born : Int) _ ⟨b, es, cl, rfl, rfl, he, i, e, Jq, hk, rfl⟩)
theorem gl {α : Type} {a : Array α} {j : Nat} {x : α} (h : a.toList[j]? = some x) : a[j]? = some x := by rwa [Array.getElem?_toList] at h
theorem an.asInt {k : IntKind} {z : Int} : an P (asInt (.int k z)) z := an.pure _
theorem Ox.entryStore {x y z : Operand} {t : TypeId} {v : Value} {m : Int → Int → Int} {p w g n : Int} {Hs : ak} (G : ak → ak) (hop : o.op = .entryStore t x y z) (hx : bh st x = some v) (hy : bh st y = some (.int .i64 g)) (hz : bh st z = some (.int .i64 n)) (hG : fN G) (hm : IA v m p w g Hs)
  (hd : o.dst = none) (hst : aF st st') (hC : ∀ bF, tR v (vb m p w n) bF → C R (G bF) st') : aP P B c o R (G Hs) st C :=
 Ox.G1 (s := λ ρ => Instr.entryStore t (ρ x) (ρ y) (ρ z)) (by rw [hop]; rfl) hd (λ ρ => by simp only [execOp, hop]) hst (λ ρ hρ => by
  rw [hρ x _ hx, hρ y _ hy, hρ z _ hz]
  unfold Instr.entryStore
  obtain ⟨b, es, cl, rfl, rfl, he, i, e, hi, hk, rfl⟩ := hm
  refine aC.bind (aC.getObj rfl (.inr (hG.set (o' := .map es cl)).mem) ?_)
  refine an.cz an.asInt ?_
  have hfi : es.findIdx? (λ e' => (e'.born : Int) == (e.born : Int)) = some i := by
   obtain ⟨hlt, hge⟩ := Array.getElem?_eq_some_iff.1 hi
   rw [Array.findIdx?_eq_some_iff_getElem]
   refine ⟨hlt, by simp [hge], λ j hj => ?_⟩
   have hjl : j < es.size := by omega
   simp only [Bool.not_eq_true, beq_eq_false_iff_ne]
   intro hb
   have := he.Nb j i es[j] e (by simp [hjl]) (by simpa using hi) (by exact_mod_cast hb)
   omega
  rw [hfi]
  refine aC.setObj rfl rfl hG.set (hC _ ⟨b, _, cl, rfl, rfl, ?_⟩)
  have qo : ∀ j a, (es.modify i λ e => { e with val := .int .i64 n })[j]? = some a → ∃ a0, es[j]? = some a0 ∧ a.key = a0.key ∧ a.born = a0.born ∧ a.val = if i = j then .int .i64 n else a0.val := by
   intro j a ha
   rw [Array.getElem?_modify] at ha
   by_cases hj : i = j
   ·subst hj
    rw [hi] at ha
    simp only [if_true, Option.map_some, Option.some.injEq] at ha
    subst ha
    exact ⟨e, hi, rfl, rfl, by simp⟩
   ·simp only [hj, if_false] at ha
    exact ⟨a, ha, rfl, rfl, by simp [hj]⟩
  have hmem : ∀ a ∈ (es.modify i λ e => { e with val := .int .i64 n }).toList, ∃ j, (es.modify i λ e => { e with val := .int .i64 n })[j]? = some a := λ a ha => by
   obtain ⟨j, hj⟩ := List.mem_iff_getElem?.1 ha
   exact ⟨j, gl hj⟩
  refine ⟨λ a ha => ?_, λ p' w' hne => ?_, λ j k a b' ha hb hab => ?_, λ a ha => ?_, λ j k a b' ha hb hab => ?_⟩
  ·obtain ⟨j, hj⟩ := hmem a ha
   obtain ⟨a0, h1, h2, h3, h4⟩ := qo j a hj
   obtain ⟨p', w', hk', F0⟩ := he.ED a0 (by rw [← Array.mem_def]; exact Array.mem_of_getElem? h1)
   refine ⟨p', w', h2.trans hk', ?_⟩
   rw [h4]
   by_cases hij : i = j
   ·subst hij
    rw [hi] at h1; cases h1
    obtain ⟨rfl, rfl⟩ := Hw (hk.symm.trans hk')
    simp [vb]
   ·rw [if_neg hij, F0]
    unfold vb
    rw [if_neg]
    rintro ⟨rfl, rfl⟩
    exact hij (he.keys i j e a0 (by simpa using hi) (by simpa using h1) (hk.trans hk'.symm))
  ·unfold vb
   by_cases Qa : p' = p ∧ w' = w
   ·obtain ⟨rfl, rfl⟩ := Qa
    exfalso
    obtain ⟨hlt, hge⟩ := Array.getElem?_eq_some_iff.1 hi
    refine hne { e with val := .int .i64 n } ?_ hk
    rw [← Array.mem_def]
    exact Array.mem_of_getElem? (i := i) (by rw [Array.getElem?_modify]; simp [hi])
   ·rw [if_neg Qa]
    refine he.zero p' w' λ a ha => ?_
    obtain ⟨j, hj⟩ := List.mem_iff_getElem?.1 ha
    have hj' : es[j]? = some a := by simpa using hj
    by_cases hij : i = j
    ·subst hij
     rw [hi] at hj'; cases hj'
     intro e2
     obtain ⟨rfl, rfl⟩ := Hw (hk.symm.trans e2)
     exact Qa ⟨rfl, rfl⟩
    ·exact hne a (by rw [← Array.mem_def]; exact Array.mem_of_getElem? (i := j) (by rw [Array.getElem?_modify]; simp [hij, hj']))
  ·obtain ⟨a0, h1, h2, _⟩ := qo j a (gl ha)
   obtain ⟨b0, k1, k2, _⟩ := qo k b' (gl hb)
   exact he.keys j k a0 b0 (by simpa using h1) (by simpa using k1) (h2.symm.trans (hab.trans k2))
  ·obtain ⟨j, hj⟩ := hmem a ha
   obtain ⟨a0, h1, h2, h3, h4⟩ := qo j a hj
   rw [h3]
   exact he.old a0 (by rw [← Array.mem_def]; exact Array.mem_of_getElem? h1)
  ·obtain ⟨a0, h1, _, h3, _⟩ := qo j a (gl ha)
   obtain ⟨b0, k1, _, k3, _⟩ := qo k b' (gl hb)
   exact he.Nb j k a0 b0 (by simpa using h1) (by simpa using k1) (h3.symm.trans (hab.trans k3)))
end
end Go.Lg
namespace Go.Lg
open Go.Conc
class rJ (P : Program) where
 off : Nat → Nat → Option Nat
 ok : ∀ s f n, off s f = some n → ff P s f n
def K7 (fo : Nat → Nat → Option Nat) (st : St) (o : Oper) : Option Value :=
 match o.op with
 | .move x => bh st x
 | .assign x => bh st x
 | .pick x y z => match bh st x with
  | some (.bool true) => bh st y
  | some (.bool false) => bh st z
  | _ => none
 | .extract x j => match bh st x with
  | some (.tuple vs) => vs[j]?
  | _ => none
 | .unOp .not _ x => match bh st x with
  | some (.bool a) => some (.bool (!a))
  | _ => none
 | .binOp bo _ x y _ => match bh st x, bh st y with
  | some (.int kd a), some (.int kd' b) => if kd = kd' then (match Nt bo a b with
   | some r => some (.bool r)
   | none => match M5 bo a b with
    | some z => some (.int kd (kd.wrap z))
    | none => none) else none
  | _, _ => none
 | .fieldAddr s x f => match bh st x, fo s f with
  | some (.pointer (some ⟨b, n, none⟩)), some off => some (.pointer (some ⟨b, n + off, none⟩))
  | _, _ => none
 | _ => none
section
variable {P : Program} [rJ P] {B : Base} {main : Bool} {ah : Jd P B main} {c : Ctx} {R : aA} {H : ak} {st st' : St} {o : Oper} {C : aA → ak → St → Prop} {k : List Item}
theorem abD {v : Value} (h : K7 (rJ.off P) st o = some v) (hd : cg o.dst c.n) (hs : aF (bS o.dst v st) st') (hC : C R H st') : aP P B c o R H st C := by
 unfold K7 at h
 split at h
 ·rename_i x hop; exact Ox.move hop h hd hs hC
 ·rename_i x hop; exact Ox.assign hop h hd hs hC
 ·rename_i x y z hop
  split at h
  ·rename_i hx; exact Ox.aAl hop hx h hd hs hC
  ·rename_i hx; exact Ox.aAk hop hx h hd hs hC
  ·cases h
 ·rename_i x j hop
  split at h
  ·rename_i hx; exact Ox.extract hop hx h hd hs hC
  ·cases h
 ·rename_i t x hop
  split at h
  ·rename_i hx; cases h; exact Ox.not hop hx hd hs hC
  ·cases h
 ·rename_i bo t x y u hop
  split at h
  ·rename_i kd a kd' b hx hy
   split at h
   ·rename_i e; subst e
    split at h
    ·rename_i r hr; cases h; exact Ox.cmp hop hx hy hr hd hs hC
    ·split at h
     ·rename_i z hz; cases h; exact Ox.ar hop hx hy hz hd hs hC
     ·cases h
   ·cases h
  ·cases h
 ·rename_i s x f hop
  split at h
  ·rename_i hx hf; cases h; exact Ox.fieldAddr hop hx (rJ.ok s f _ hf) hd hs hC
  ·cases h
 ·cases h
def Ue (fo : Nat → Nat → Option Nat) (ops : Array Oper) (n : Nat) (st : St) (i : Nat) : Option St :=
 match ops[i]? with
 | none => none
 | some o => match dG ops st o with
  | some true => match K7 fo st o, o.dst with
   | some v, some d => if Nat.blt d n = true then some ((d, v) :: st) else none
   | _, _ => none
  | some false => match lI o.op, o.dst with
   | false, some d => if Nat.blt d n = true then some ((d, undef) :: st) else none
   | false, none => some st
   | _, _ => none
  | none => none
def xM (fo : Nat → Nat → Option Nat) (ops : Array Oper) (n : Nat) : List Nat → St → Option St
 | [], st => some st
 | i :: is, st => match Ue fo ops n st i with
  | some st' => xM fo ops n is st'
  | none => none
theorem ab5 {ops : Array Oper} {n i : Nat} {fo : Nat → Nat → Option Nat} (h : Ue fo ops n st i = some st') : ∃ o, ops[i]? = some o ∧
  ((dG ops st o = some true ∧ ∃ v d, K7 fo st o = some v ∧ o.dst = some d ∧ cg (some d) n ∧ st' = (d, v) :: st) ∨
   (dG ops st o = some false ∧ lI o.op = false ∧ cg o.dst n ∧ st' = bS o.dst undef st)) := by
 unfold Ue at h
 split at h
 ·cases h
 ·rename_i o ho
  refine ⟨o, ho, ?_⟩
  split at h
  ·rename_i hw
   split at h
   ·rename_i v d hv hd
    split at h
    ·rename_i hl; cases h; exact .inl ⟨hw, v, d, hv, hd, hl, rfl⟩
    ·cases h
   ·cases h
  ·rename_i hw
   split at h
   ·rename_i d hdf hd
    split at h
    ·rename_i hl; cases h; exact .inr ⟨hw, hdf, by rw [hd]; exact hl, by rw [hd]; rfl⟩
    ·cases h
   ·rename_i hdf hd
    cases h; exact .inr ⟨hw, hdf, by rw [hd]; rfl, by rw [hd]; rfl⟩
   ·cases h
  ·cases h
theorem At.run {ops : Array Oper} (hk : (c.kind == CallKind.early) = false) : ∀ {is rest : List Nat} {st : St}, xM (rJ.off P) ops c.n is st = some st' → At ah c R H st' (.inRegion ops rest :: k) → At ah c R H st (.inRegion ops (is ++ rest) :: k)
 | [], rest, st, h, ha => by cases h; exact ha
 | i :: is, rest, st, h, ha => by
  unfold xM at h
  split at h
  ·rename_i xX h1
   have ih := At.run hk h ha
   obtain ⟨o, ho, ⟨hw, v, d, hv, hd, hl, rfl⟩ | ⟨hw, hdf, hl, rfl⟩⟩ := ab5 h1
   ·exact At.cP ho hw hk (abD hv (by rw [hd]; exact hl) (by rw [hd]; exact aF.refl _) ih)
   ·exact At.unwanted ho hw hl (aF.refl _) ih
  ·cases h
theorem At.vs (m : Nat) {ops : Array Oper} {is zX : List Nat} (h : xM (rJ.off P) ops c.n (is.take m) st = some st') (hr : is.drop m = zX) (ha : At ah c R H st' (.inRegion ops zX :: k)) (hk : (c.kind == CallKind.early) = false := by rfl) : At ah c R H st (.inRegion ops is :: k) := by
 subst hr
 have := At.run (rest := is.drop m) hk h ha
 rwa [List.take_append_drop] at this
def Xw (ops : Array Oper) (rem : List Nat) (i : Nat) : Nat → List Nat → List Nat
 | 0, D => D
 | n + 1, D => Xw ops rem i n (rem.filter λ j => j != i && (D.contains j || match ops[j]? with | some o => o.after.any λ e => Region.binds .any e && (e.on == i || D.contains e.on) | none => false))
def Jc (ops : Array Oper) (rem : List Nat) (i : Nat) : List Nat := Xw ops rem i rem.length []
def I9 (ops : Array Oper) : List Nat → List Nat → Bool
 | _, [] => true
 | rem, i :: is => decide rem.Nodup && nQ ops rem i (Jc ops rem i) && I9 ops (rem.erase i) is
theorem Any.vs' {S : Nat → ak} {ops : Array Oper} {n : Nat} : ∀ (is : List Nat) {rem : List Nat} {st : St}, xM (rJ.off P) ops c.n is st = some st' → I9 ops rem is = true → Any ah c S ops k n (is.foldl List.erase rem) R H st' → Any ah c S ops k (n + is.length) rem R H st
 | [], rem, st, h, _, ha => by cases h; exact ha
 | i :: is, rem, st, h, hc, ha => by
  unfold xM at h
  split at h
  ·rename_i xX h1
   simp only [I9, Bool.and_eq_true, decide_eq_true_eq] at hc
   obtain ⟨⟨cE, gA⟩, hc⟩ := hc
   have ih := Any.vs' is h hc ha
   obtain ⟨o, ho, ⟨hw, v, d, hv, hd, hl, rfl⟩ | ⟨hw, hdf, hl, rfl⟩⟩ := ab5 h1
   ·exact Any.Ui (N := []) _ ho hd hw gA (λ _ _ _ _ p hp => by cases hp) (λ p hp => by cases hp) (λ R' H' _ _ => abD hv (by rw [hd]; exact hl) (.one hd) ⟨rfl, rfl, rfl⟩) (aF.refl _) cE rfl ih
   ·exact Any.aBG _ ho gA hdf hl hw (aF.refl _) cE rfl ih
  ·cases h
theorem Any.vs {S : Nat → ak} {ops : Array Oper} {n : Nat} (m : Nat) (is : List Nat) {rem : List Nat} {st : St} (h : xM (rJ.off P) ops c.n is st = some st') (ha : Any ah c S ops k n (is.foldl List.erase rem) R H st') (hc : I9 ops rem is = true := by decide +kernel) (hm : is.length = m := by rfl) : Any ah c S ops k (n + m) rem R H st := by
 subst hm
 exact Any.vs' is h hc ha
end
section
variable {P : Program} {B : Base} {main : Bool} {ah : Jd P B main} {c : Ctx} {R : aA} {H : ak} {st st' : St} {o : Oper} {C : aA → ak → St → Prop} {k : List Item}
theorem At.rg (is : List Nat) {id : Nat} {ops : Array Oper} (h : At ah c R H st (.inRegion ops is :: k)) (hn : ops.size = is.length := by rfl) (lH : List.range is.length = is := by rfl) : At ah c R H st (.code (.region id ops false) :: k) := At.iC hn lH h
theorem At.dw (is : List Nat) {id : Nat} {ops : Array Oper} (hm : P.follows .mixedOrders = true) (h : Any ah c (λ _ => H) ops k is.length is R H st) (hk : (c.kind == CallKind.early) = false := by rfl) (hb : backward ops = true := by decide +kernel) (hn : ops.size = is.length := by rfl) (lH : List.range is.length = is := by rfl) : At ah c R H st (.code (.region id ops true) :: k) := At.agr hm hk hb hn lH h
theorem Any.tk (i : Nat) {N : ak} {ops : Array Oper} {n d : Nat} {rem : List Nat} {v : Value} (ho : ops[i]? = some o) (hS : ∀ p ∈ N, p ∈ H) (hf : ∀ R' H', aO R R' → (∀ p ∈ N, p ∈ H') → aP P B c o R' H' st λ R1 H1 xX => R1 = R' ∧ H1 = H' ∧ xX = [(d, v)])
  (h : Any ah c (λ _ => N) ops k n (rem.erase i) R H ((d, v) :: st)) (nC : o.dst = some d := by rfl) (hw : dG ops st o = some true := by rfl) (gA : nQ ops rem i (Jc ops rem i) = true := by decide +kernel) (cE : rem.Nodup := by decide) : Any ah c (λ _ => N) ops k (n + 1) rem R H st :=
 Any.Ui _ ho nC hw gA (λ _ _ _ _ _ hp => hp) hS hf (aF.refl _) cE rfl h
theorem At.cv {ops : Array Oper} {i d : Nat} {rest : List Nat} {ca : Call} {x : Operand} {f : FuncId} {first captured : Array Value} {vs : List Value} {args : Array Value} {Post : Value → aA → ak → Prop} (he : aZ P f) (hf : aB ah f args R H Post)
  (h : ∀ v R' H', Post v R' H' → At ah c R' H' ((d, v) :: st) (.inRegion ops rest :: k))
  (ho : ops[i]? = some o := by rfl) (hw : dG ops st o = some true := by rfl) (hk : (c.kind == CallKind.early) = false := by rfl) (hop : o.op = .call ca := by rfl) (hc : ca.callee = .value x := by rfl) (hx : bh st x = some (.func (.func f) first captured) := by rfl)
  (ha : pY st ca.args.toList = some vs := by rfl) (hargs : first ++ vs.toArray ++ captured = args := by rfl) (hd : o.dst = some d := by rfl) (hl : Nat.blt d c.n = true := by rfl) : At ah c R H st (.inRegion ops (i :: rest) :: k) :=
 At.step ho hw hk (Ox.cD hop hc hx ha he hargs (by rw [hd]; exact hl) (hf.mono λ v R' H' hp => ⟨_, .put hd, h v R' H' hp⟩))
theorem Any.cv (i : Nat) {S : Nat → ak} {ops : Array Oper} {n d : Nat} {rem : List Nat} {ca : Call} {x : Operand} {f : FuncId} {first captured : Array Value} {vs : List Value} {args : Array Value} {Post : Value → aA → ak → Prop} (he : aZ P f) (hf : aB ah f args R H Post)
  (h : ∀ v R' H', Post v R' H' → aO R R' ∧ (∀ p ∈ S i, p ∈ H → p ∈ H') ∧ Any ah c S ops k n (rem.erase i) R' H' ((d, v) :: st))
  (ho : ops[i]? = some o := by rfl) (hw : dG ops st o = some true := by rfl) (hop : o.op = .call ca := by rfl) (hc : ca.callee = .value x := by rfl) (hx : bh st x = some (.func (.func f) first captured) := by rfl)
  (ha : pY st ca.args.toList = some vs := by rfl) (hargs : first ++ vs.toArray ++ captured = args := by rfl) (hd : o.dst = some d := by rfl) (hl : Nat.blt d c.n = true := by rfl) (hrd : rem.filter (kU ops rem) = [i] := by decide +kernel) (cE : rem.Nodup := by decide) : Any ah c S ops k (n + 1) rem R H st :=
 Any.one ho hrd hw cE rfl (Ox.cD hop hc hx ha he hargs (by rw [hd]; exact hl) (hf.mono λ v R' H' hp => ⟨_, .put hd, h v R' H' hp⟩))
theorem Any.on (i : Nat) {S : Nat → ak} {ops : Array Oper} {n : Nat} {rem : List Nat} (ho : ops[i]? = some o) (hw : dG ops st o = some true)
  (h : l7 ah c o R H st λ R' H' st' => aO R R' ∧ (∀ p ∈ S i, p ∈ H → p ∈ H') ∧ Any ah c S ops k n (rem.erase i) R' H' st') (hrd : rem.filter (kU ops rem) = [i] := by decide +kernel) (cE : rem.Nodup := by decide) : Any ah c S ops k (n + 1) rem R H st := Any.one ho hrd hw cE rfl h
theorem At.ld {ops : Array Oper} {i d : Nat} {rest : List Nat} {x : Operand} {t : TypeId} {b off : Nat} {v : Value} (ht : gr P t) (hc : Cell R H ⟨b, off, none⟩ v) (h : At ah c R H ((d, v) :: st) (.inRegion ops rest :: k))
  (ho : ops[i]? = some o := by rfl) (hw : dG ops st o = some true := by rfl) (hk : (c.kind == CallKind.early) = false := by rfl) (hop : o.op = .load t x := by rfl) (hx : bh st x = some (.pointer (some ⟨b, off, none⟩)) := by rfl) (hd : o.dst = some d := by rfl) (hl : Nat.blt d c.n = true := by rfl) : At ah c R H st (.inRegion ops (i :: rest) :: k) :=
 At.cP ho hw hk (Ox.bu hop hx ht hc (by rw [hd]; exact hl) (.put hd) h)
theorem At.kn (t : Nat) {x b : Bool} {todo : List Item} (hb : x = b) (h : At ah c R H ((t, .bool b) :: st) todo) (hx : st.lookup t = some (.bool x) := by rfl) : At ah c R H st todo := At.known hx hb h
theorem At.s {ops : Array Oper} {i : Nat} {rest : List Nat} (ho : ops[i]? = some o) (hw : dG ops st o = some true) (h : aP P B c o R H st λ R' H' st' => At ah c R' H' st' (.inRegion ops rest :: k)) (hk : (c.kind == CallKind.early) = false := by rfl) : At ah c R H st (.inRegion ops (i :: rest) :: k) := At.cP ho hw hk h
end
abbrev aQ : List Nat := [0]
abbrev aR : List Nat := [0, 1]
abbrev aT : List Nat := [0, 1, 2]
abbrev bw : List Nat := [0, 1, 2, 3]
abbrev cB : List Nat := [0, 1, 2, 3, 4]
abbrev c6 : List Nat := [0, 1, 2, 3, 4, 5]
abbrev fe : List Nat := [0, 1, 2, 3, 4, 5, 6]
abbrev eK : List Nat := [0, 1, 2, 3, 4, 5, 6, 7]
abbrev iG : List Nat := [0, 1, 2, 3, 4, 5, 6, 7, 8]
abbrev mS : List Nat := [0, 1, 2, 3, 4, 5, 6, 7, 8, 9]
abbrev xK : List Nat := [0, 1, 2, 3, 4, 5, 6, 7, 8, 9, 10]
abbrev AL : List Nat := [0, 1, 2, 3, 4, 5, 6, 7, 8, 9, 10, 11]
abbrev K8 : List Nat := [0, 1, 2, 3, 4, 5, 6, 7, 8, 9, 10, 11, 12]
abbrev qR : List Nat := [0, 1, 2, 3, 4, 5, 6, 7, 8, 9, 10, 11, 12, 13]
abbrev xL : List Nat := [0, 1, 2, 3, 4, 5, 6, 7, 8, 9, 10, 11, 12, 13, 14]
abbrev abJ : List Nat := [0, 1, 2, 3, 4, 5, 6, 7, 8, 9, 10, 11, 12, 13, 14, 15]
abbrev abK : List Nat := [0, 1, 2, 3, 4, 5, 6, 7, 8, 9, 10, 11, 12, 13, 14, 15, 16, 17]
abbrev aAJ : List Nat := [0, 1, 2, 3, 4, 5, 6, 7, 8, 9, 10, 11, 12, 13, 14, 15, 16, 17, 18]
abbrev Mm : List Nat := [0, 1, 2, 3, 4, 5, 6, 7, 8, 9, 10, 11, 12, 13, 14, 15, 16, 17, 18, 19]
abbrev aDg : List Nat := [0, 1, 2, 3, 4, 5, 6, 7, 8, 9, 10, 11, 12, 13, 14, 15, 16, 17, 18, 19, 20]
abbrev aDh : List Nat := [0, 1, 2, 3, 4, 5, 6, 7, 8, 9, 10, 11, 12, 13, 14, 15, 16, 17, 18, 19, 20, 21]
abbrev aAK : List Nat := [0, 1, 2, 3, 4, 5, 6, 7, 8, 9, 10, 11, 12, 13, 14, 15, 16, 17, 18, 19, 20, 21, 22, 23, 24, 25]
abbrev abL : List Nat := [0, 1, 2, 3, 4, 5, 6, 7, 8, 9, 10, 11, 12, 13, 14, 15, 16, 17, 18, 19, 20, 21, 22, 23, 24, 25, 26]
abbrev aDi : List Nat := [0, 1, 2, 3, 4, 5, 6, 7, 8, 9, 10, 11, 12, 13, 14, 15, 16, 17, 18, 19, 20, 21, 22, 23, 24, 25, 26, 27, 28, 29, 30]
abbrev abM : List Nat := [0, 1, 2, 3, 4, 5, 6, 7, 8, 9, 10, 11, 12, 13, 14, 15, 16, 17, 18, 19, 20, 21, 22, 23, 24, 25, 26, 27, 28, 29, 30, 31, 32, 33]
abbrev aAL : List Nat := [0, 1, 2, 3, 4, 5, 6, 7, 8, 9, 10, 11, 12, 13, 14, 15, 16, 17, 18, 19, 20, 21, 22, 23, 24, 25, 26, 27, 28, 29, 30, 31, 32, 33, 34, 35, 36, 37]
abbrev aAM : List Nat := [0, 1, 2, 3, 4, 5, 6, 7, 8, 9, 10, 11, 12, 13, 14, 15, 16, 17, 18, 19, 20, 21, 22, 23, 24, 25, 26, 27, 28, 29, 30, 31, 32, 33, 34, 35, 36, 37, 38, 39, 40]
abbrev aAN : List Nat := [0, 1, 2, 3, 4, 5, 6, 7, 8, 9, 10, 11, 12, 13, 14, 15, 16, 17, 18, 19, 20, 21, 22, 23, 24, 25, 26, 27, 28, 29, 30, 31, 32, 33, 34, 35, 36, 37, 38, 39, 40, 41, 42, 43]
end Go.Lg
namespace Go.Lg
section
variable {α : Type} {a b₁ b₂ b₃ b₄ WM aga aJ8 aJ9 x : α} {l l₁ l₂ : List α}
theorem so (h : List.Sublist l₁ l₂) : List.Sublist l₁ (a :: l₂) := h.cons a
theorem sk (h : List.Sublist l₁ l₂) : List.Sublist (a :: l₁) (a :: l₂) := List.Sublist.cons_cons a h
theorem sr : List.Sublist l l := .refl _
theorem sn : List.Sublist [] l := List.nil_sublist _
theorem su (h : List.Sublist l₁ l₂) : ∀ p ∈ l₁, p ∈ l₂ := λ _ hp => h.subset hp
theorem pp : ∀ p ∈ l, p ∈ l := λ _ h => h
theorem z0 : x ∈ x :: l := .head _
theorem z1 : x ∈ a :: x :: l := .tail _ z0
theorem z2 : x ∈ a :: b₁ :: x :: l := .tail _ z1
theorem z3 : x ∈ a :: b₁ :: b₂ :: x :: l := .tail _ z2
theorem z4 : x ∈ a :: b₁ :: b₂ :: b₃ :: x :: l := .tail _ z3
theorem z5 : x ∈ a :: b₁ :: b₂ :: b₃ :: b₄ :: x :: l := .tail _ z4
theorem z6 : x ∈ a :: b₁ :: b₂ :: b₃ :: b₄ :: WM :: x :: l := .tail _ z5
theorem z7 : x ∈ a :: b₁ :: b₂ :: b₃ :: b₄ :: WM :: aga :: x :: l := .tail _ z6
end
section
variable {P : Program} {B : Base} {main : Bool} {ah : Jd P B main} {c : Ctx} {R : aA} {H : ak} {st st' : St} {o : Oper} {k : List Item}
theorem sq {x y : Code} (h : At ah c R H st (.code x :: .code y :: k)) : At ah c R H st (.code (.seq x y) :: k) := At.seq h
theorem er {ops : Array Oper} (h : At ah c R H st k) : At ah c R H st (.inRegion ops [] :: k) := At.dK h
theorem es {ops : Array Oper} {x y : Code} (h : At ah c R H st (.code x :: .code y :: k)) : At ah c R H st (.inRegion ops [] :: .code (.seq x y) :: k) := At.dK (At.seq h)
theorem sg (is : List Nat) {id : Nat} {ops : Array Oper} {y : Code} (h : At ah c R H st (.inRegion ops is :: .code y :: k)) (hn : ops.size = is.length := by rfl) (lH : List.range is.length = is := by rfl) : At ah c R H st (.code (.seq (.region id ops false) y) :: k) := At.seq (At.rg is h hn lH)
theorem nx (is : List Nat) {id : Nat} {os ops : Array Oper} {y : Code} (h : At ah c R H st (.inRegion ops is :: .code y :: k)) (hn : ops.size = is.length := by rfl) (lH : List.range is.length = is := by rfl) : At ah c R H st (.inRegion os [] :: .code (.seq (.region id ops false) y) :: k) := At.dK (sg is h hn lH)
theorem sp (h : At ah c R H st k) : At ah c R H st (.code .skip :: k) := At.skip h
theorem vs [rJ P] (m : Nat) {ops : Array Oper} {is zX : List Nat} (ha : At ah c R H st' (.inRegion ops zX :: k)) (h : xM (rJ.off P) ops c.n (is.take m) st = some st' := by rfl) (hr : is.drop m = zX := by rfl) (hk : (c.kind == CallKind.early) = false := by rfl) : At ah c R H st (.inRegion ops is :: k) := At.vs m h hr ha hk
theorem ld (j : Nat) {ops : Array Oper} {i d : Nat} {rest : List Nat} {x : Operand} {t e : TypeId} {b : Nat} {fz : Nat × Nat} {L : List Value} {v : Value} (ht : gr P t) (hm : (b, Obj.cells L.toArray e fz) ∈ H) (h : At ah c R H ((d, v) :: st) (.inRegion ops rest :: k)) (hj : L[j]? = some v := by rfl)
  (ho : ops[i]? = some o := by rfl) (hw : dG ops st o = some true := by rfl) (hk : (c.kind == CallKind.early) = false := by rfl) (hop : o.op = .load t x := by rfl) (hx : bh st x = some (.pointer (some ⟨b, 0 + j, none⟩)) := by rfl) (hd : o.dst = some d := by rfl) (hl : Nat.blt d c.n = true := by rfl) : At ah c R H st (.inRegion ops (i :: rest) :: k) :=
 At.ld ht ((aS.box hm).one hj) h ho hw hk hop hx hd hl
theorem lN (vs : List Value) (j n : Nat) {ops : Array Oper} {i d : Nat} {rest : List Nat} {x : Operand} {t e : TypeId} {b : Nat} {fz : Nat × Nat} {L : List Value} {m : Nat} (ht : j4 P t m) (hm : (b, Obj.cells L.toArray e fz) ∈ H) (h : At ah c R H ((d, .agg vs.toArray) :: st) (.inRegion ops rest :: k)) (hv : (L.drop j).take n = vs := by rfl)
  (ho : ops[i]? = some o := by rfl) (hw : dG ops st o = some true := by rfl) (hk : (c.kind == CallKind.early) = false := by rfl) (hop : o.op = .load t x := by rfl) (hx : bh st x = some (.pointer (some ⟨b, 0 + j, none⟩)) := by rfl) (hn : vs.length = m := by rfl) (hd : o.dst = some d := by rfl) (hl : Nat.blt d c.n = true := by rfl) : At ah c R H st (.inRegion ops (i :: rest) :: k) :=
 At.s ho hw (Ox.ck hop hx ht hn ((aS.box hm).part hv) (by rw [hd]; exact hl) (.put hd) h) hk
theorem bx {ops : Array Oper} {i d : Nat} {rest : List Nat} {x : Operand} {t : TypeId} {vs : Array Value} (h : ∀ b, At ah c R ((b, .cells vs t) :: H) ((d, .pointer (some ⟨b, 0, none⟩)) :: st) (.inRegion ops rest :: k))
  (ho : ops[i]? = some o := by rfl) (hw : dG ops st o = some true := by rfl) (hk : (c.kind == CallKind.early) = false := by rfl) (hop : o.op = .box t x := by rfl) (hx : bh st x = some (.agg vs) := by rfl) (hd : o.dst = some d := by rfl) (hl : Nat.blt d c.n = true := by rfl) : At ah c R H st (.inRegion ops (i :: rest) :: k) :=
 At.s ho hw (Ox.WH hop hx (by rw [hd]; exact hl) λ b _ _ => ⟨_, .put hd, h b⟩) hk
theorem sc {α : Type} {t : Bool} {a b : Option α} {r : α} {x : Operand} {th el : Code} (hM : ai t a b = some r) (h1 : t = true → a = some r → At ah c R H st (.code th :: k)) (h2 : t = false → b = some r → At ah c R H st (.code el :: k)) (hx : bh st x = some (.bool t) := by rfl) : At ah c R H st (.code (.cond x th el) :: k) :=
 bA hM (λ h hM => At.BQ hx h (h1 h hM)) (λ h hM => At.BP hx h (h2 h hM))
theorem ls {α : Type} {K : cn α} {n : Nat} {ops : Array Oper} {i d : Nat} {rest : List Nat} {x : Operand} {t e : TypeId} {v : Value} {xs : List α} (hl : az K n R v xs) (ht : P.underlying t = some (.slice e)) (h : At ah c R H ((d, .int .i64 (xs.length : Int)) :: st) (.inRegion ops rest :: k))
  (ho : ops[i]? = some o := by rfl) (hw : dG ops st o = some true := by rfl) (hk : (c.kind == CallKind.early) = false := by rfl) (hop : o.op = .call ⟨.builtin .len, #[x], #[t]⟩ := by rfl) (hx : bh st x = some v := by rfl) (hd : o.dst = some d := by rfl) (hn : Nat.blt d c.n = true := by rfl) : At ah c R H st (.inRegion ops (i :: rest) :: k) :=
 At.s ho hw (Ox.wW hop hx hl ht (by rw [hd]; exact hn) (.put hd) h) hk
theorem lr {α : Type} {K : cn α} {n : Nat} {ops : Array Oper} {i d : Nat} {rest : List Nat} {x : Operand} {t e : TypeId} {v : Value} {xs : List α} {H0 : ak} (hl : bV K n R H0 v xs) (ht : P.underlying t = some (.slice e)) (h : At ah c R H ((d, .int .i64 (xs.length : Int)) :: st) (.inRegion ops rest :: k))
  (ho : ops[i]? = some o := by rfl) (hw : dG ops st o = some true := by rfl) (hk : (c.kind == CallKind.early) = false := by rfl) (hop : o.op = .call ⟨.builtin .len, #[x], #[t]⟩ := by rfl) (hx : bh st x = some v := by rfl) (hd : o.dst = some d := by rfl) (hn : Nat.blt d c.n = true := by rfl) : At ah c R H st (.inRegion ops (i :: rest) :: k) :=
 At.s ho hw (Ox.S2 hop hx hl ht (by rw [hd]; exact hn) (.put hd) h) hk
theorem rt {fr : Frame} {cs : List Frame} {f : FuncId} {n : Nat} {fn : Func} {vs : List Value} {H' : ak} (hf : P.funcs[f]? = some fn) (hr : l9 P R H st fn.results.toList vs) (hs : List.Sublist H' H) (hj : ah.J R H' (bt (fr.finish (pG vs)) cs)) : At ah ⟨f, .normal, none, n, [], fr :: cs⟩ R H st (.code .ret :: k) :=
 At.aAG hf hr (J.drop hs hj)
theorem ts (i : Nat) {ops : Array Oper} {n d : Nat} {rem : List Nat} {S : Nat → ak} {v : Value} {N : ak} (D : List Nat) (ho : ops[i]? = some o) (uq : ∀ j ∈ rem, j ≠ i → j ∉ D → ∀ p ∈ N, p ∈ S j) (hS : ∀ p ∈ N, p ∈ H)
  (hf : ∀ R' H', aO R R' → (∀ p ∈ N, p ∈ H') → aP P B c o R' H' st λ R1 H1 xX => R1 = R' ∧ H1 = H' ∧ xX = [(d, v)]) (h : Any ah c S ops k n (rem.erase i) R H ((d, v) :: st))
  (nC : o.dst = some d := by rfl) (hw : dG ops st o = some true := by rfl) (gA : nQ ops rem i D = true := by decide +kernel) (cE : rem.Nodup := by decide) : Any ah c S ops k (n + 1) rem R H st :=
 Any.Ui D ho nC hw gA uq hS hf (aF.refl _) cE rfl h
theorem tl (i j : Nat) {ops : Array Oper} {n d : Nat} {rem : List Nat} {x : Operand} {t e : TypeId} {b : Nat} {fz : Nat × Nat} {L : List Value} {v : Value} (ht : gr P t) (hm : (b, Obj.cells L.toArray e fz) ∈ H) (h : Any ah c (λ _ => H) ops k n (rem.erase i) R H ((d, v) :: st)) (hj : L[j]? = some v := by rfl)
  (ho : ops[i]? = some o := by rfl) (hop : o.op = .load t x := by rfl) (hx : bh st x = some (.pointer (some ⟨b, 0 + j, none⟩)) := by rfl) (nC : o.dst = some d := by rfl) (hl : Nat.blt d c.n = true := by rfl) (hw : dG ops st o = some true := by rfl) (gA : nQ ops rem i (Jc ops rem i) = true := by decide +kernel) (cE : rem.Nodup := by decide) : Any ah c (λ _ => H) ops k (n + 1) rem R H st :=
 Any.tk i ho pp (λ _ _ _ hS => Ox.bu hop hx ht ((aS.box (hS _ hm)).one hj) (by rw [nC]; exact hl) (.one nC) ⟨rfl, rfl, rfl⟩) h nC hw gA cE
theorem tN (i : Nat) (vs : List Value) (j m : Nat) {ops : Array Oper} {n d : Nat} {rem : List Nat} {x : Operand} {t e : TypeId} {b : Nat} {fz : Nat × Nat} {L : List Value} {q : Nat} (ht : j4 P t q) (hm : (b, Obj.cells L.toArray e fz) ∈ H) (h : Any ah c (λ _ => H) ops k n (rem.erase i) R H ((d, .agg vs.toArray) :: st)) (hv : (L.drop j).take m = vs := by rfl)
  (ho : ops[i]? = some o := by rfl) (hop : o.op = .load t x := by rfl) (hx : bh st x = some (.pointer (some ⟨b, 0 + j, none⟩)) := by rfl) (hq : vs.length = q := by rfl) (nC : o.dst = some d := by rfl) (hl : Nat.blt d c.n = true := by rfl) (hw : dG ops st o = some true := by rfl) (gA : nQ ops rem i (Jc ops rem i) = true := by decide +kernel) (cE : rem.Nodup := by decide) : Any ah c (λ _ => H) ops k (n + 1) rem R H st :=
 Any.tk i ho pp (λ _ _ _ hS => Ox.ck hop hx ht hq ((aS.box (hS _ hm)).part hv) (by rw [nC]; exact hl) (.one nC) ⟨rfl, rfl, rfl⟩) h nC hw gA cE
theorem tw (i j : Nat) {S : Nat → ak} {ops : Array Oper} {n : Nat} {rem : List Nat} {a b : Oper} (h1 : l7 ah c a R H st λ R' H' st' => aO R R' ∧ (∀ p ∈ S i, p ∈ H → p ∈ H') ∧ Any ah c S ops k n (rem.erase i) R' H' st')
  (h2 : l7 ah c b R H st λ R' H' st' => aO R R' ∧ (∀ p ∈ S j, p ∈ H → p ∈ H') ∧ Any ah c S ops k n (rem.erase j) R' H' st') (ha : ops[i]? = some a := by rfl) (hb : ops[j]? = some b := by rfl) (hrd : rem.filter (kU ops rem) = [i, j] := by decide +kernel) (F1 : dG ops st a = some true := by rfl) (F2 : dG ops st b = some true := by rfl) (cE : rem.Nodup := by decide) : Any ah c S ops k (n + 1) rem R H st :=
 Any.aBL ha hb hrd F1 F2 cE rfl rfl h1 h2
theorem ka {H X : ak} : ∀ p ∈ H, p ∈ X → p ∈ H := λ _ h _ => h
theorem kp {R : aA} {H X : ak} {C : Prop} (h : C) : aO R R ∧ (∀ p ∈ H, p ∈ X → p ∈ H) ∧ C := ⟨aO.refl _, ka, h⟩
theorem ku {H H' X : ak} (h : List.Sublist H H') : ∀ p ∈ H, p ∈ X → p ∈ H' := λ _ hp _ => h.subset hp
theorem rr {R : aA} : aO R R := aO.refl _
end
abbrev CZ : cn Int := CI .i64
end Go.Lg
namespace Go.Lg
open Go.Conc
def pM (v : Value) (lo k : Nat) : Value := match v with | .slice A n cap => .slice (if cap = lo then A else A.map (·.add (lo * k))) (n - lo) (cap - lo) | v => v
def ob (xs : List Int) (lo : Nat) : List Int := xs.take lo ++ List.replicate (xs.length - lo) 0
theorem ago {α : Type} {xs ys : List α} {lo hi : Int} (h : jN xs lo hi = some ys) : lo.toNat ≤ xs.length := by
 obtain ⟨h1, h2, h3, _⟩ := EA h
 omega
section
variable {P : Program} {B : Base} {main : Bool} {ah : Jd P B main} {c : Ctx} {R : aA} {H H' : ak} {st st' : St} {o : Oper} {C : aA → ak → St → Prop}
theorem bg.view {α : Type} {K : cn α} {k e : Nat} {v : Value} {xs : List α} {Hs : ak} {lo : Nat} (h : bg K k e R v xs Hs) (hs : ∀ p ∈ Hs, p ∈ H) : bV K k R H (pM v lo k) (xs.drop lo) := by
 obtain ⟨A, cap, es, rfl, hE, hcap, hm⟩ := h.rd hs
 refine ⟨if cap = lo then A else A.map (·.add (lo * k)), cap - lo, es.drop (lo * k), by simp [pM], hE.drop, by simp; omega, λ hne => ?_⟩
 have hlt : lo < xs.length := by
  apply Classical.byContradiction
  intro hn
  exact hne (List.drop_eq_nil_of_le (by omega))
 obtain ⟨b, o', rfl, g2⟩ := hm (by rintro rfl; simp at hlt)
 refine ⟨b, o' + lo * k, ?_, λ j w hj => ?_⟩
 ·rw [if_neg (by omega)]; simp [n6]
 ·rw [List.getElem?_drop] at hj
  have := g2 _ _ hj
  simpa [Nat.add_assoc] using this
theorem bg.acs {α : Type} {K : cn α} {k t e e' : Nat} {v : Value} {xs ys : List α} {Hs : ak} {lo : Int} (h : bg K k e R v xs Hs) (ht : lp P t e' k) (hc : jN xs lo (xs.length : Int) = some ys) : Bx P t k v (xs.length : Int) lo (xs.length : Int) (pM v lo.toNat k) := by
 obtain ⟨h1, h2, h3, _⟩ := EA hc
 obtain ⟨A, cap, es, rfl, hE, hcap, hm⟩ := h.rd (H := Hs) (λ _ h => h)
 intro ρ st x lo' hi hρ hx hl hh
 rw [Int.toNat_natCast] at hh
 rw [hx]
 unfold Instr.sliceAt
 refine an.bind (an.underlying ht.1) ?_
 unfold Instr.slice
 refine an.bind (an.underlying ht.1) (an.bind (Ls hρ hl hh ⟨h1, h2, h3⟩ hcap) (an.bind ht.2 ?_))
 simp only [pM, Int.toNat_natCast]
 exact an.pure _
theorem bg.front {α : Type} {K : cn α} {k t e e' : Nat} {v : Value} {xs ys : List α} {Hs : ak} {hi : Int} (h : bg K k e R v xs Hs) (ht : lp P t e' k) (hc : jN xs 0 hi = some ys) : ∃ v', bg K k e R v' ys Hs ∧ Bx P t k v (xs.length : Int) 0 hi v' := by
 obtain ⟨h1, h2, h3, rfl⟩ := EA hc
 have key : ∀ A cap, v = .slice A xs.length cap → xs.length ≤ cap → Bx P t k v (xs.length : Int) 0 hi (.slice (if cap = 0 then A else A.map (·.add (0 * k))) (hi.toNat - 0) (cap - 0)) := by
  rintro A cap rfl hcap ρ st x lo' hi' hρ hx hl hh
  rw [Int.toNat_natCast] at hh
  rw [hx]
  unfold Instr.sliceAt
  refine an.bind (an.underlying ht.1) ?_
  unfold Instr.slice
  exact an.bind (an.underlying ht.1) (an.bind (Ls hρ hl hh ⟨h1, h2, h3⟩ hcap) (an.bind ht.2 (an.pure _)))
 rcases h with ⟨A, rfl, rfl, rfl⟩ | ⟨b, cap, cs, es, rfl, rfl, g3, g4, g5, g6⟩
 ·have := key A 0 rfl (Nat.le_refl _)
  have h0 : hi.toNat = 0 := by simp at h3; omega
  rw [h0] at this
  exact ⟨_, .inl ⟨A, rfl, by simp, rfl⟩, by simpa using this⟩
 ·refine ⟨_, ?_, key _ cap rfl g4⟩
  have r5 : ((xs.take hi.toNat).drop (0 : Int).toNat).length = hi.toNat := by simp; omega
  refine .inr ⟨b, cap, cs, es.take (hi.toNat * k), ?_, rfl, g3, by rw [r5]; omega, by simpa using g5.take, λ j w hj => ?_⟩
  ·rw [r5]
   congr 1
   split <;> simp [n6]
  ·rw [List.getElem?_take] at hj
   split at hj
   ·exact g6 _ _ hj
   ·cases hj
theorem Ox.axh {α : Type} {K : cn α} {k e' lo : Nat} {x : Operand} {t e : TypeId} {v : Value} {xs : List α} {Hs : ak} (hop : o.op = .call ⟨.builtin .len, #[x], #[t]⟩) (hx : bh st x = some (pM v lo k)) (hl : bg K k e' R v xs Hs) (ht : P.underlying t = some (.slice e))
  (hd : cg o.dst c.n) (hs : aF (bS o.dst (.int .i64 ((xs.drop lo).length : Int)) st) st') (h : C R H st') : aP P B c o R H st C :=
 Ox.S2 hop hx (hl.view (H := Hs) (λ _ h => h)) ht hd hs h
theorem Ox.agi {t e lo : Nat} (G : ak → ak) {x : Operand} {v : Value} {xs : List Int} {Hs : ak} (hop : o.op = .call ⟨.builtin .clear, #[x], #[t]⟩) (hx : bh st x = some (pM v lo 1)) (ht : lp P t e 1) (hz : gv P e #[.int .i64 0]) (hG : fN G)
  (hO : bg (CI .i64) 1 e R v xs Hs) (hlo : lo ≤ xs.length) (hd : cg o.dst c.n) (hC : ∀ bF, bg (CI .i64) 1 e R v (ob xs lo) bF → ∃ st', aF (bS o.dst (.tuple #[]) st) st' ∧ C R (G bF) st') : aP P B c o R (G Hs) st C := by
 refine ⟨by rw [hop]; rfl, hd, λ ρ hρ => ?_⟩
 simp only [execOp, hop]
 refine an.cz (a := ⟨.builtin .clear #[t] o.type (#[x].map λ | .const _ => true | _ => false), #[x].map ρ⟩) (an.pure _) ?_
 simp only [invoke, builtin]
 have e1 : (#[x].map ρ) = #[pM v lo 1] := by simp [hρ x _ hx]
 rw [e1]
 have fin : ∀ bF, bg (CI .i64) 1 e R v (ob xs lo) bF → aC P B R (G bF) (pure (Value.tuple #[])) λ a R' H' => aC P B R' H' (pure (Next.value a)) λ nx R' H' => ∃ v, (nx = .value v ∨ (nx = .skip ∧ v = undef)) ∧ ∃ st', aF (bS o.dst v st) st' ∧ C R' H' st' := λ bF h => by
  obtain ⟨st', hs, hC'⟩ := hC bF h
  exact aC.pure (aC.pure ⟨_, .inl rfl, st', hs, hC'⟩)
 refine aC.bind ?_
 unfold Builtin.clear_
 refine an.cz (an.underlying ht.1) ?_
 by_cases hn : xs.length - lo = 0
 ·have hv : ∃ A cap, pM v lo 1 = .slice A 0 cap := by
   obtain ⟨A, cap, es, rfl, _⟩ := hO.rd (H := Hs) (λ _ h => h)
   exact ⟨_, _, by simp only [pM, hn]; rfl⟩
  obtain ⟨A, cap, hv⟩ := hv
  rw [hv]
  have gp : ob xs lo = xs := by
   unfold ob
   rw [hn, List.replicate_zero, List.append_nil, List.take_of_length_le (by omega)]
  rw [gp] at fin
  cases A with
  | none => exact aC.bind (aC.pure (fin Hs hO))
  | some a => exact aC.bind (aC.pure (fin Hs hO))
 ·rcases hO with ⟨A, rfl, rfl, rfl⟩ | ⟨b, cap, cs, es, rfl, rfl, g3, g4, g5, g6⟩
  ·simp at hn
  ·have hv : pM (.slice (some ⟨b, 0, none⟩) xs.length cap) lo 1 = .slice (some ⟨b, lo, none⟩) (xs.length - lo) (cap - lo) := by
    simp only [pM]
    rw [if_neg (by omega)]
    simp [n6]
   rw [hv]
   obtain ⟨m, hm⟩ : ∃ m, xs.length - lo = m + 1 := ⟨xs.length - lo - 1, by omega⟩
   rw [hm]
   dsimp only
   obtain ⟨z0, hz0, hzc⟩ := hz
   refine an.cz hz0 (aC.bind ?_)
   have Qe : (Builtin.zeroCells z0.cells (m + 1)).toList = List.replicate (m + 1) (Value.int .i64 0) := by
    rw [hzc]
    apply List.ext_getElem?
    intro j
    simp only [Builtin.zeroCells]
    by_cases hj : j < m + 1
    ·simp [hj, Nat.mod_one]
    ·simp [hj]
   rw [Qe]
   have hsz : lo + (m + 1) ≤ cs.size := by omega
   refine aC.given λ cE => aC.Hg _ cs lo 0 (G [(b, .cells cs e (0, 0))]) (G [(b, .cells (ey cs lo (List.replicate (m + 1) (Value.int .i64 0))) e (0, 0))]) (λ u hu => by rw [List.eq_of_mem_replicate hu]; rfl) (by simp; omega) (by simpa using fN.set hG) cE ?_
   have Y1 : (ob xs lo).length = xs.length := by simp [ob]; omega
   refine fin _ (.inr ⟨b, cap, ey cs lo (List.replicate (m + 1) (Value.int .i64 0)), es.take lo ++ List.replicate (m + 1) (Value.int .i64 0), by rw [Y1], rfl, by rw [G8]; exact g3, by rw [Y1]; exact g4, ?_, λ j w hj => ?_⟩)
   ·have h1 := g5.take (n := lo)
    rw [Nat.mul_one] at h1
    unfold ob
    rw [hm]
    refine h1.append ?_
    refine ⟨by simp, λ i x hx => ?_⟩
    rw [List.getElem?_replicate] at hx
    split at hx
    ·rename_i hi
     cases hx
     refine ⟨[.int .i64 0], rfl, rfl, λ j w hj => ?_⟩
     have hj1 := (List.getElem?_eq_some_iff.1 hj).1
     have hj0 : j = 0 := by simp at hj1; omega
     subst hj0
     rw [Nat.mul_one, List.getElem?_replicate, if_pos (by omega)]
     exact hj
    ·cases hx
   ·have jT := g5.len
    rw [Nat.mul_one] at jT
    rw [AJ _ _ _ _ (by simp; omega)]
    rcases Nat.lt_or_ge j lo with hjl | hjl
    ·rw [List.getElem?_append_left (by simp; omega), List.getElem?_take, if_pos hjl] at hj
     rw [if_neg (by omega)]
     exact g6 _ _ hj
    ·rw [List.getElem?_append_right (by simp; omega)] at hj
     have hmin : (es.take lo).length = lo := by simp; omega
     rw [hmin] at hj
     have hlt := (List.getElem?_eq_some_iff.1 hj).1
     rw [if_pos ⟨hjl, by simp at hlt ⊢; omega⟩]
     exact hj
end
end Go.Lg
namespace Go.Lg
def ag {α : Type} (a b : Option α) : Prop := ∀ r, a = some r → b = some r
theorem ag.refl {α : Type} (a : Option α) : ag a a := λ _ h => h
theorem ag.none {α : Type} {b : Option α} : ag none b := λ _ h => by cases h
theorem ag.bind {α β : Type} {a a' : Option α} {f f' : α → Option β} (h : ag a a') (hf : ∀ x, ag (f x) (f' x)) : ag (a.bind f) (a'.bind f') := by
 intro r hr
 obtain ⟨x, hx, hr⟩ := aj hr
 rw [h x hx]
 exact hf x r hr
theorem ag.ai {α : Type} {t : Bool} {a a' b b' : Option α} (h : ag a a') (h' : ag b b') : ag (ai t a b) (ai t a' b') := by
 cases t
 ·exact h'
 ·exact h
def qB {S O : Type} (body : S → Option (S ⊕ O)) (s : S) : Option O := jX body 200 s
theorem ag.jX {S O : Type} {body body' : S → Option (S ⊕ O)} (h : ∀ s, ag (body s) (body' s)) : ∀ (n : Nat) (s : S), ag (Go.Lg.jX body n s) (br body' s)
 | 0, _ => λ _ hr => by cases hr
 | n + 1, s => λ r hr => by
  simp only [Go.Lg.jX] at hr
  cases hb : body s with
  | none => rw [hb] at hr; cases hr
  | some x =>
   rw [hb] at hr
   have hb' := h s x hb
   cases x with
   | inl s' => rw [sM hb']; exact ag.jX h n s' r hr
   | inr o => cases hr; exact gS hb'
theorem ag.loop {S O : Type} {body body' : S → Option (S ⊕ O)} {s : S} (h : ∀ s, ag (body s) (body' s)) : ag (qB body s) (br body' s) := ag.jX h 200 s
theorem ag.elim {α β γ : Type} {f f' : α → Option γ} {g g' : β → Option γ} (h : ∀ x, ag (f x) (f' x)) (h' : ∀ x, ag (g x) (g' x)) (x : α ⊕ β) : ag (Sum.elim f g x) (Sum.elim f' g' x) := by
 cases x
 ·exact h _
 ·exact h' _
theorem ag.dh {α S O : Type} {f f' : α → S → Option (S ⊕ O)} (h : ∀ x s, ag (f x s) (f' x s)) (x : α) (s : S ⊕ O) : ag (Go.Lg.dh f x s) (Go.Lg.dh f' x s) := by
 intro r hr
 cases s with
 | inr s => cases hr
 | inl s =>
  simp only [Go.Lg.dh] at hr ⊢
  cases hf : f x s with
  | none => rw [hf] at hr; cases hr
  | some z => rw [hf] at hr; rw [h x s z hf]; exact hr
theorem ag.mapM {α β : Type} {f f' : α → Option β} (h : ∀ x, ag (f x) (f' x)) : ∀ l : List α, ag (l.mapM f) (l.mapM f')
 | [] => ag.refl _
 | a :: l => by
  intro r hr
  rw [List.mapM_cons] at hr ⊢
  cases ha : f a with
  | none => rw [ha] at hr; simp at hr
  | some b =>
   cases hl : l.mapM f with
   | none => rw [ha, hl] at hr; simp at hr
   | some bs =>
    rw [ha, hl] at hr
    rw [h a b ha, ag.mapM h l bs hl]
    exact hr
end Go.Lg
