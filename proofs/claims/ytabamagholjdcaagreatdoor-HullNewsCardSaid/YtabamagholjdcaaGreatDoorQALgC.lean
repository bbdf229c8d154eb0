/- Models, operations, lists, maps, ranges over functions. Conditions: none. -/
import Derived.Test.YtabamagholjdcaaGreatDoorQALgA
namespace Go.Lg
open Go.Conc
def jJ {S O : Type} (body : S → Option (S ⊕ O)) : Nat → S → Option O
 | 0, _ => none
 | n + 1, s => match body s with
  | none => none
  | some (.inl s') => jJ body n s'
  | some (.inr o) => some o
open Classical in
noncomputable def bt {S O : Type} (body : S → Option (S ⊕ O)) (s : S) : Option O := if h : ∃ o n, jJ body n s = some o then some h.choose else none
theorem TV {S O : Type} {body : S → Option (S ⊕ O)} : ∀ {n m : Nat} {s : S} {o : O}, n ≤ m → jJ body n s = some o → jJ body m s = some o
 | 0, _, _, _, _, h => by cases h
 | n + 1, 0, _, _, hm, _ => by omega
 | n + 1, m + 1, s, o, hm, h => by
  simp only [jJ] at h ⊢
  cases hb : body s with
  | none => rw [hb] at h; cases h
  | some x => cases x with
   | inl s' => rw [hb] at h; exact TV (by omega) h
   | inr o' => rw [hb] at h; exact h
theorem TX {S O : Type} {body : S → Option (S ⊕ O)} {n : Nat} {s : S} {o : O} (h : jJ body n s = some o) : bt body s = some o := by
 have hex : ∃ o n, jJ body n s = some o := ⟨o, n, h⟩
 unfold bt
 rw [dif_pos hex]
 obtain ⟨m, hm⟩ := hex.choose_spec
 have h1 := TV (Nat.le_max_left n m) h
 have h2 := TV (Nat.le_max_right n m) hm
 rw [h1] at h2
 exact h2.symm
theorem TW {S O : Type} {body : S → Option (S ⊕ O)} {s : S} {o : O} (h : bt body s = some o) : ∃ n, jJ body n s = some o := by
 unfold bt at h
 split at h
 ·rename_i hex
  cases h
  exact hex.choose_spec
 ·cases h
theorem nW {S O : Type} {body : S → Option (S ⊕ O)} {s : S} {o : O} (h : body s = some (.inr o)) : bt body s = some o :=
 TX (n := 1) (by simp [jJ, h])
theorem D1 {S O : Type} {body : S → Option (S ⊕ O)} {s s' : S} (h : body s = some (.inl s')) : bt body s = bt body s' := by
 cases h' : bt body s' with
 | some o =>
  obtain ⟨n, hn⟩ := TW h'
  exact TX (n := n + 1) (by simp [jJ, h, hn])
 | none =>
  cases h2 : bt body s with
  | none => rfl
  | some o =>
   obtain ⟨n, hn⟩ := TW h2
   cases n with
   | zero => cases hn
   | succ n =>
    simp only [jJ, h] at hn
    rw [TX hn] at h'
    cases h'
theorem ao {α β : Type} {o : Option α} {f : α → Option β} {r : β} (h : o.bind f = some r) : ∃ x, o = some x ∧ f x = some r := by
 cases o with
 | none => cases h
 | some x => exact ⟨x, rfl, h⟩
def ah {α : Type} (t : Bool) (a b : Option α) : Option α := match t with | true => a | false => b
theorem bA {α : Type} {t : Bool} {a b : Option α} {r : α} {G : Prop} (h : ah t a b = some r) (h1 : t = true → a = some r → G) (h2 : t = false → b = some r → G) : G := by
 cases t with
 | true => exact h1 rfl h
 | false => exact h2 rfl h
theorem af {α : Type} {a b : α} (h : some a = some b) : a = b := Option.some.inj h
def idx {α : Type} (xs : List α) (i : Int) : Option α := if 0 ≤ i then xs[i.toNat]? else none
def cy {α : Type} (xs ys : List α) : Option (List α) := if xs.length + ys.length ≤ 16777216 then some (xs ++ ys) else none
def mX {α : Type} (xs : List α) (lo hi : Int) : Option (List α) := if 0 ≤ lo ∧ lo ≤ hi ∧ hi ≤ xs.length then some ((xs.take hi.toNat).drop lo.toNat) else none
theorem xC {α : Type} {xs : List α} {i : Int} {x : α} (h : idx xs i = some x) : 0 ≤ i ∧ i < xs.length ∧ xs[i.toNat]? = some x := by
 unfold idx at h
 split at h
 ·have := (List.getElem?_eq_some_iff.1 h).1
  exact ⟨‹_›, by omega, h⟩
 ·cases h
theorem ahx {α : Type} {xs ys zs : List α} (h : cy xs ys = some zs) : xs.length + ys.length ≤ 16777216 ∧ zs = xs ++ ys := by
 unfold cy at h
 split at h
 ·cases h; exact ⟨‹_›, rfl⟩
 ·cases h
section
variable {P : Program} {B : Base} {main : Bool} {ag : Jd P B main} {c : Ctx} {R : aI} {H : au} {st st' : St} {k : List Item}
theorem At.bt {S O ρ : Type} {body : S → Option (S ⊕ O)} {cont : O → Option ρ} {s0 : S} {r : ρ} {code : Code} (hM : (bt body s0).bind cont = some r) (I : S → aI → au → St → Prop)
  (hbody : ∀ s R H st, I s R H st → ∀ x, body s = some x → (∀ s', x = .inl s' → ∀ R' H' st', I s' R' H' st' → At ag c R' H' st' (.inLoop code :: k)) → (∀ o, x = .inr o → cont o = some r) → At ag c R H st (.code code :: .inLoop code :: k))
  (h0 : I s0 R H st) : At ag c R H st (.code (.loop code) :: k) := by
 obtain ⟨o, hl, hc⟩ := ao hM
 obtain ⟨n, hn⟩ := TW hl
 clear hM hl
 have key : ∀ n s R H st, jJ body n s = some o → I s R H st → At ag c R H st (.code code :: .inLoop code :: k) := by
  intro n
  induction n with
  | zero => intro s R H st h; cases h
  | succ n ih =>
   intro s R H st h hI
   simp only [jJ] at h
   cases hb : body s with
   | none => rw [hb] at h; cases h
   | some x =>
    rw [hb] at h
    refine hbody s R H st hI x hb (λ s' hx R' H' st' hI' => ?_) (λ o' hx => ?_)
    ·subst hx; exact At.inLoop (ih s' R' H' st' h hI')
    ·subst hx; cases h; exact hc
 exact At.enterLoop (key n s0 R H st hn h0)
theorem At.known {t : Nat} {x b : Bool} {todo : List Item} (hx : st.lookup t = some (.bool x)) (hb : x = b) (h : At ag c R H ((t, .bool b) :: st) todo) : At ag c R H st todo := by
 subst hb; exact λ tmps ht => h tmps (ht.acr hx)
theorem Any.known {S : Nat → au} {ops : Array Oper} {n : Nat} {rem : List Nat} {t : Nat} {x b : Bool} (hx : st.lookup t = some (.bool x)) (hb : x = b) (h : Any ag c S ops k n rem R H ((t, .bool b) :: st)) : Any ag c S ops k n rem R H st := by
 subst hb; exact ⟨h.1, λ tmps ht => h.2 tmps (ht.acr hx)⟩
theorem At.B4 {x : Operand} {th el : Code} {t : Bool} (hx : bk st x = some (.bool t)) (ht : t = true) (h : At ag c R H st (.code th :: k)) : At ag c R H st (.code (.cond x th el) :: k) := by subst ht; exact At.cond_true hx h
theorem At.B3 {x : Operand} {th el : Code} {t : Bool} (hx : bk st x = some (.bool t)) (ht : t = false) (h : At ag c R H st (.code el :: k)) : At ag c R H st (.code (.cond x th el) :: k) := by subst ht; exact At.cond_false hx h
end
abbrev b7 (α : Type) := aI → α → List Value → Prop
class CM {α : Type} (C : b7 α) : Prop where
 mono : ∀ {R R' : aI} {x : α} {es : List Value}, aN R R' → C R x es → C R' x es
 one : ∀ {R : aI} {x : α} {es : List Value}, C R x es → ∀ u ∈ es, u.oneCell' = true
def CI (kd : IntKind) : b7 Int := λ _ x es => es = [.int kd x]
def CS : b7 ByteArray := λ _ x es => es = [.string x]
instance {kd : IntKind} : CM (CI kd) := ⟨λ _ h => h, λ h => by cases h; simp [Value.oneCell']⟩
instance : CM CS := ⟨λ _ h => h, λ h => by cases h; simp [Value.oneCell']⟩
structure aG {α : Type} (C : b7 α) (k : Nat) (R : aI) (xs : List α) (es : List Value) : Prop where
 len : es.length = xs.length * k
 at_ : ∀ (i : Nat) (x : α), xs[i]? = some x → ∃ e1 : List Value, C R x e1 ∧ e1.length = k ∧ ∀ (j : Nat) (w : Value), e1[j]? = some w → es[i * k + j]? = some w
theorem aG.nil {α : Type} {C : b7 α} {k : Nat} {R : aI} : aG C k R [] [] := ⟨by simp, by simp⟩
theorem aG.mono {α : Type} {C : b7 α} [CM C] {k : Nat} {R R' : aI} {xs : List α} {es : List Value} (h : aG C k R xs es) (hR : aN R R') : aG C k R' xs es :=
 ⟨h.len, λ i x hx => by obtain ⟨e1, h1, h2, h3⟩ := h.at_ i x hx; exact ⟨e1, CM.mono hR h1, h2, h3⟩⟩
theorem aG.append {α : Type} {C : b7 α} {k : Nat} {R : aI} {xs ys : List α} {es fs : List Value} (h : aG C k R xs es) (g : aG C k R ys fs) : aG C k R (xs ++ ys) (es ++ fs) := by
 refine ⟨by rw [List.length_append, List.length_append, h.len, g.len, Nat.add_mul], λ i x hx => ?_⟩
 by_cases hi : i < xs.length
 ·rw [List.getElem?_append_left hi] at hx
  obtain ⟨e1, h1, h2, h3⟩ := h.at_ i x hx
  refine ⟨e1, h1, h2, λ j w hj => ?_⟩
  have := h3 j w hj
  rw [List.getElem?_append_left (List.getElem?_eq_some_iff.1 this).1]
  exact this
 ·rw [List.getElem?_append_right (by omega)] at hx
  obtain ⟨e1, h1, h2, h3⟩ := g.at_ _ x hx
  refine ⟨e1, h1, h2, λ j w hj => ?_⟩
  have := h3 j w hj
  have e : i * k + j = es.length + ((i - xs.length) * k + j) := by
   rw [h.len]
   have : i = xs.length + (i - xs.length) := by omega
   rw [← Nat.add_assoc, ← Nat.add_mul, ← this]
  rw [e, List.getElem?_append_right (by omega), Nat.add_sub_cancel_left]
  exact this
theorem aG.single {α : Type} {C : b7 α} {k : Nat} {R : aI} {x : α} {es : List Value} (h : C R x es) (hk : es.length = k) : aG C k R [x] es := by
 refine ⟨by simp [hk], λ i y hy => ?_⟩
 cases i with
 | zero => cases hy; exact ⟨es, h, hk, λ j w hj => by simpa using hj⟩
 | succ i => simp at hy
theorem aG.one {α : Type} {C : b7 α} [CM C] {k : Nat} {R : aI} {xs : List α} {es : List Value} (h : aG C k R xs es) : ∀ u ∈ es, u.oneCell' = true := by
 intro u hu
 obtain ⟨j, hj⟩ := List.getElem?_of_mem hu
 have hlt := (List.getElem?_eq_some_iff.1 hj).1
 rw [h.len] at hlt
 have hk : 0 < k := by cases k with | zero => simp at hlt | succ k => omega
 have hi : j / k < xs.length := Nat.div_lt_of_lt_mul (by rw [Nat.mul_comm]; exact hlt)
 obtain ⟨e1, h1, h2, h3⟩ := h.at_ (j / k) _ (List.getElem?_eq_getElem hi)
 have hm : j % k < e1.length := by rw [h2]; exact Nat.mod_lt _ hk
 have := h3 (j % k) _ (List.getElem?_eq_getElem hm)
 rw [show j / k * k + j % k = j by rw [Nat.mul_comm]; exact Nat.div_add_mod j k, hj] at this
 cases this
 exact CM.one h1 _ (List.getElem_mem hm)
theorem aG.drop {α : Type} {C : b7 α} {k n : Nat} {R : aI} {xs : List α} {es : List Value} (h : aG C k R xs es) : aG C k R (xs.drop n) (es.drop (n * k)) := by
 refine ⟨by simp [h.len, Nat.sub_mul], λ i x hx => ?_⟩
 rw [List.getElem?_drop] at hx
 obtain ⟨e1, h1, h2, h3⟩ := h.at_ _ x hx
 refine ⟨e1, h1, h2, λ j w hj => ?_⟩
 rw [List.getElem?_drop, ← h3 j w hj, Nat.add_mul, Nat.add_assoc]
theorem aG.take {α : Type} {C : b7 α} {k n : Nat} {R : aI} {xs : List α} {es : List Value} (h : aG C k R xs es) : aG C k R (xs.take n) (es.take (n * k)) := by
 refine ⟨by simp only [List.length_take, h.len]; exact Nat.mul_min_mul_right _ _ _, λ i x hx => ?_⟩
 rw [List.getElem?_take] at hx
 split at hx
 ·rename_i hi
  obtain ⟨e1, h1, h2, h3⟩ := h.at_ _ x hx
  refine ⟨e1, h1, h2, λ j w hj => ?_⟩
  have hjk : j < k := by rw [← h2]; exact (List.getElem?_eq_some_iff.1 hj).1
  rw [List.getElem?_take, if_pos, h3 j w hj]
  calc i * k + j < i * k + k := by omega
   _ = (i + 1) * k := by rw [Nat.add_mul, Nat.one_mul]
   _ ≤ n * k := Nat.mul_le_mul_right k hi
 ·cases hx
def aj {α : Type} (C : b7 α) (k : Nat) (R : aI) (v : Value) (xs : List α) : Prop :=
 ∃ A cap es, v = .slice A xs.length cap ∧ aG C k R xs es ∧ xs.length ≤ cap ∧ (xs ≠ [] → ∃ b o arr e fz, A = some ⟨b, o, none⟩ ∧ R b = some (.cells arr e fz) ∧ ∀ (j : Nat) (w : Value), es[j]? = some w → arr[o + j]? = some w)
theorem aj.mono {α : Type} {C : b7 α} [CM C] {k : Nat} {R R' : aI} {v : Value} {xs : List α} (h : aj C k R v xs) (hR : aN R R') : aj C k R' v xs := by
 obtain ⟨A, cap, es, h1, h2, hc, h3⟩ := h
 refine ⟨A, cap, es, h1, h2.mono hR, hc, λ hx => ?_⟩
 obtain ⟨b, o, arr, e, fz, g1, g2, g3⟩ := h3 hx
 exact ⟨b, o, arr, e, fz, g1, hR _ _ g2, g3⟩
theorem aj.nil {α : Type} {C : b7 α} {k : Nat} {R : aI} {A : Option Addr} {cap : Nat} : aj C k R (.slice A 0 cap) [] := ⟨A, cap, [], rfl, .nil, Nat.zero_le _, λ h => absurd rfl h⟩
def ef {α : Type} (C : b7 α) (k : Nat) : b7 (List α) := λ R xs es => ∃ v, es = [v] ∧ aj C k R v xs
instance {α : Type} {C : b7 α} [CM C] {k : Nat} : CM (ef C k) := ⟨λ hR ⟨v, h1, h2⟩ => ⟨v, h1, h2.mono hR⟩, λ ⟨v, h1, A, cap, es, h2, _⟩ => by subst h1; subst h2; simp [Value.oneCell']⟩
def aZ {α : Type} (C : b7 α) (k e : Nat) (R : aI) (v : Value) (xs : List α) (Hs : au) : Prop :=
 (∃ A, v = .slice A 0 0 ∧ xs = [] ∧ Hs = []) ∨ ∃ b cap cs es, v = .slice (some ⟨b, 0, none⟩) xs.length cap ∧ Hs = [(b, .cells cs e (0, 0))] ∧ cs.size = cap * k ∧ xs.length ≤ cap ∧ aG C k R xs es ∧ ∀ (j : Nat) (w : Value), es[j]? = some w → cs[j]? = some w
theorem aZ.mono {α : Type} {C : b7 α} [CM C] {k e : Nat} {R R' : aI} {v : Value} {xs : List α} {Hs : au} (h : aZ C k e R v xs Hs) (hR : aN R R') : aZ C k e R' v xs Hs := by
 rcases h with h | ⟨b, cap, cs, es, h1, h2, h3, h4, h5, h6⟩
 ·exact .inl h
 ·exact .inr ⟨b, cap, cs, es, h1, h2, h3, h4, h5.mono hR, h6⟩
theorem aZ.nil {α : Type} {C : b7 α} {k e : Nat} {R : aI} {A : Option Addr} : aZ C k e R (.slice A 0 0) [] [] := .inl ⟨A, rfl, rfl, rfl⟩
def cE {α : Type} (C : b7 α) (k : Nat) (R : aI) (H : au) (v : Value) (ys : List α) : Prop :=
 ∃ A cap es, v = .slice A ys.length cap ∧ aG C k R ys es ∧ (ys ≠ [] → ∃ b o, A = some ⟨b, o, none⟩ ∧ aT R H b o es)
theorem aj.arg {α : Type} {C : b7 α} {k : Nat} {R : aI} {H : au} {v : Value} {xs : List α} (h : aj C k R v xs) : cE C k R H v xs := by
 obtain ⟨A, cap, es, h1, h2, _, h3⟩ := h
 refine ⟨A, cap, es, h1, h2, λ hx => ?_⟩
 obtain ⟨b, o, arr, e, fz, g1, g2, g3⟩ := h3 hx
 exact ⟨b, o, g1, λ j w hj => ⟨rfl, arr, e, fz, .inl g2, g3 j w hj⟩⟩
theorem cE.lit {α : Type} {C : b7 α} {k e n cap b : Nat} {R : aI} {H : au} {ys : List α} {cs : Array Value} {fz : Nat × Nat} (hm : (b, Obj.cells cs e fz) ∈ H) (hE : aG C k R ys cs.toList) (hn : ys.length = n) : cE C k R H (.slice (some ⟨b, 0, none⟩) n cap) ys := by
 subst hn
 exact ⟨_, cap, cs.toList, rfl, hE, λ _ => ⟨b, 0, rfl, λ j w hj => ⟨rfl, cs, e, fz, .inr hm, by simpa using hj⟩⟩⟩
def gh (G : au → au) : Prop := ∃ A D, ∀ X, G X = A ++ (X ++ D)
theorem gh.set {G : au → au} (hG : gh G) {b : Nat} {o o' : Obj} : dN (G [(b, o)]) b o o' (G [(b, o')]) := by
 obtain ⟨A, D, h⟩ := hG
 rw [h, h]
 clear h
 induction A with
 | nil => exact .here
 | cons p A ih => exact .there ih
end Go.Lg
namespace Go.Lg
open Go.Conc
section
variable {P : Program} {B : Base} {main : Bool} {ag : Jd P B main} {c : Ctx} {R : aI} {H H' : au} {st st' : St} {o : Oper} {C : aI → au → St → Prop}
def BR (P : Program) (t : TypeId) (v : Value) (i : Int) (b n : Nat) : Prop := ∀ kd, av P (Instr.indexAt t v (.int kd i)) (.pointer (some ⟨b, n, none⟩))
theorem aj.elem {α : Type} {K : b7 α} {k t e : Nat} {v : Value} {xs : List α} {i : Int} {x : α} (h : aj K k R v xs) (ht : lV P t e k) (hi : idx xs i = some x) :
  ∃ b n es, K R x es ∧ aT R [] b n es ∧ BR P t v i b n := by
 obtain ⟨h1, h2, h3⟩ := xC hi
 obtain ⟨A, cap, es, rfl, hE, _, hc⟩ := h
 obtain ⟨b, o, arr, e', fz, rfl, g2, g3⟩ := hc (by rintro rfl; simp at h3)
 obtain ⟨e1, f1, f2, f3⟩ := hE.at_ _ _ h3
 refine ⟨b, o + i.toNat * k, e1, f1, λ j w hj => ⟨rfl, arr, e', fz, .inl g2, ?_⟩, λ kd => ?_⟩
 ·have := g3 _ _ (f3 j w hj)
  simpa [Nat.add_assoc] using this
 ·have := U4 (P := P) (b := b) (m := o) (cap := cap) (kd := kd) ht (j := i.toNat) (len := xs.length) (by omega)
  rwa [Int.toNat_of_nonneg h1] at this
theorem Ox.bq {x y : Operand} {t : TypeId} {v : Value} {kd : IntKind} {i : Int} {b n : Nat} (hop : o.op = .indexAddr t x y) (hx : bk st x = some v) (hy : bk st y = some (.int kd i)) (hv : BR P t v i b n)
  (hd : cj o.dst c.n) (hs : aK (bQ o.dst (.pointer (some ⟨b, n, none⟩)) st) st') (h : C R H st') : aR P B c o R H st C :=
 Ox.val' (s := λ ρ => Instr.indexAt t (ρ x) (ρ y)) (by rw [hop]; rfl) hd (λ ρ => by simp only [execOp, hop]) (λ ρ hρ => by rw [hρ x _ hx, hρ y _ hy]; exact hv kd) hs h
theorem avQ {t e len k b m : Nat} {i : Int} (ht : wv P t len e k) (hi : 0 ≤ i ∧ i < len) : BR P t (.pointer (some ⟨b, m, none⟩)) i b (m + i.toNat * k) := λ kd => by
 have := aAj (P := P) (b := b) (m := m) (kd := kd) ht (j := i.toNat) (by omega)
 rwa [Int.toNat_of_nonneg hi.1] at this
theorem Ox.tP {α : Type} {K : b7 α} {k : Nat} {x : Operand} {t e : TypeId} {v : Value} {xs : List α} (hop : o.op = .call ⟨.builtin .len, #[x], #[t]⟩) (hx : bk st x = some v) (hl : aj K k R v xs) (ht : P.underlying t = some (.slice e))
  (hd : cj o.dst c.n) (hs : aK (bQ o.dst (.int .i64 (xs.length : Int)) st) st') (h : C R H st') : aR P B c o R H st C := by
 obtain ⟨A, cap, es, rfl, _⟩ := hl
 exact Ox.len hop hx ht hd hs h
theorem Ox.u0 {α : Type} {K : b7 α} {k e' : Nat} {x : Operand} {t e : TypeId} {v : Value} {xs : List α} {Hs : au} (hop : o.op = .call ⟨.builtin .len, #[x], #[t]⟩) (hx : bk st x = some v) (hl : aZ K k e' R v xs Hs) (ht : P.underlying t = some (.slice e))
  (hd : cj o.dst c.n) (hs : aK (bQ o.dst (.int .i64 (xs.length : Int)) st) st') (h : C R H st') : aR P B c o R H st C := by
 rcases hl with ⟨A, rfl, rfl, _⟩ | ⟨b, cap, cs, es, rfl, _⟩
 ·exact Ox.len hop hx ht hd hs h
 ·exact Ox.len hop hx ht hd hs h
def i64 (z : Int) : Int := IntKind.wrap .i64 z
theorem TM {z : Int} (h : -9223372036854775808 ≤ z ∧ z ≤ 9223372036854775807) : i64 z = z := aBy h
theorem Ox.ar {x y : Operand} {bo : BinOp} {t u : TypeId} {a b z : Int} {kd : IntKind} (hop : o.op = .binOp bo t x y u) (hx : bk st x = some (.int kd a)) (hy : bk st y = some (.int kd b)) (hr : OX bo a b = some z)
  (hd : cj o.dst c.n) (hs : aK (bQ o.dst (.int kd (kd.wrap z)) st) st') (h : C R H st') : aR P B c o R H st C :=
 Ox.val' (s := λ ρ => do eqGuard bo t x y (ρ x) (ρ y); binOp bo t (ρ x) (ρ y)) (by rw [hop]; rfl) hd (λ ρ => by simp only [execOp, hop]) (λ ρ hρ => by
  rw [hρ x _ hx, hρ y _ hy]
  refine av.bind (Ds _ _ _ _ _ _ _ _) ?_
  cases bo <;> simp only [OX, Option.some.injEq, reduceCtorEq] at hr <;> subst hr <;> simp only [binOp, ne_eq, not_true_eq_false, if_false, Op.intArith] <;> exact av.pure _) hs h
theorem Ox.Lp {x : Operand} {t : TypeId} {a : Int} {kd : IntKind} (hop : o.op = .unOp .neg t x) (hx : bk st x = some (.int kd a))
  (hd : cj o.dst c.n) (hs : aK (bQ o.dst (.int kd (kd.wrap (0 - a))) st) st') (h : C R H st') : aR P B c o R H st C :=
 Ox.val' (s := λ ρ => Op.unary .neg (ρ x)) (by rw [hop]; rfl) hd (λ ρ => by simp only [execOp, hop]) (λ ρ hρ => by
  rw [hρ x _ hx]
  simp only [Op.unary, Op.intArith]; exact av.pure _) hs h
def Dj (a b : Int) : Option Int := if b = 0 then none else some (a.tmod b)
theorem Ox.rem {x y : Operand} {t u : TypeId} {a b z : Int} {kd : IntKind} (hop : o.op = .binOp .rem t x y u) (hx : bk st x = some (.int kd a)) (hy : bk st y = some (.int kd b)) (hr : Dj a b = some z)
  (hd : cj o.dst c.n) (hs : aK (bQ o.dst (.int kd z) st) st') (h : C R H st') : aR P B c o R H st C :=
 Ox.val' (s := λ ρ => do eqGuard .rem t x y (ρ x) (ρ y); binOp .rem t (ρ x) (ρ y)) (by rw [hop]; rfl) hd (λ ρ => by simp only [execOp, hop]) (λ ρ hρ => by
  rw [hρ x _ hx, hρ y _ hy]
  refine av.bind (Ds _ _ _ _ _ _ _ _) ?_
  unfold Dj at hr
  split at hr
  ·cases hr
  ·cases hr; simp only [binOp, ne_eq, not_true_eq_false, if_false, Op.intDiv, *]; exact av.pure _) hs h
def xZ (kd : IntKind) (a b : Int) : Option Int := if b < 0 then none else some (kd.wrap (a * 2 ^ (min b.toNat kd.bits)))
def tU (kd : IntKind) (a b : Int) : Option Int := if b < 0 then none else some (a.fdiv (2 ^ (min b.toNat kd.bits)))
theorem Ox.shl {x y : Operand} {t u : TypeId} {a b z : Int} {kd yk : IntKind} (hop : o.op = .binOp .shl t x y u) (hx : bk st x = some (.int kd a)) (hy : bk st y = some (.int yk b)) (hr : xZ kd a b = some z)
  (hd : cj o.dst c.n) (hs : aK (bQ o.dst (.int kd z) st) st') (h : C R H st') : aR P B c o R H st C :=
 Ox.val' (s := λ ρ => do eqGuard .shl t x y (ρ x) (ρ y); binOp .shl t (ρ x) (ρ y)) (by rw [hop]; rfl) hd (λ ρ => by simp only [execOp, hop]) (λ ρ hρ => by
  rw [hρ x _ hx, hρ y _ hy]
  refine av.bind (Ds _ _ _ _ _ _ _ _) ?_
  unfold xZ at hr
  split at hr
  ·cases hr
  ·cases hr; simp only [binOp, Op.shift, if_false, *]; exact av.pure _) hs h
theorem Ox.shr {x y : Operand} {t u : TypeId} {a b z : Int} {kd yk : IntKind} (hop : o.op = .binOp .shr t x y u) (hx : bk st x = some (.int kd a)) (hy : bk st y = some (.int yk b)) (hr : tU kd a b = some z)
  (hd : cj o.dst c.n) (hs : aK (bQ o.dst (.int kd z) st) st') (h : C R H st') : aR P B c o R H st C :=
 Ox.val' (s := λ ρ => do eqGuard .shr t x y (ρ x) (ρ y); binOp .shr t (ρ x) (ρ y)) (by rw [hop]; rfl) hd (λ ρ => by simp only [execOp, hop]) (λ ρ hρ => by
  rw [hρ x _ hx, hρ y _ hy]
  refine av.bind (Ds _ _ _ _ _ _ _ _) ?_
  unfold tU at hr
  split at hr
  ·cases hr
  ·cases hr; simp only [binOp, Op.shift, if_false, *]; exact av.pure _) hs h
def wL (bo : BinOp) (kd : IntKind) (a b : Int) : Option Int :=
 let a := BitVec.ofInt kd.bits a
 let b := BitVec.ofInt kd.bits b
 match bo with
 | .and => some (kd.wrap (a &&& b).toNat)
 | .or => some (kd.wrap (a ||| b).toNat)
 | .xor => some (kd.wrap (a ^^^ b).toNat)
 | .andNot => some (kd.wrap (a &&& ~~~b).toNat)
 | _ => none
theorem Ox.bits {x y : Operand} {bo : BinOp} {t u : TypeId} {a b z : Int} {kd : IntKind} (hop : o.op = .binOp bo t x y u) (hx : bk st x = some (.int kd a)) (hy : bk st y = some (.int kd b)) (hr : wL bo kd a b = some z)
  (hd : cj o.dst c.n) (hs : aK (bQ o.dst (.int kd z) st) st') (h : C R H st') : aR P B c o R H st C :=
 Ox.val' (s := λ ρ => do eqGuard bo t x y (ρ x) (ρ y); binOp bo t (ρ x) (ρ y)) (by rw [hop]; rfl) hd (λ ρ => by simp only [execOp, hop]) (λ ρ hρ => by
  rw [hρ x _ hx, hρ y _ hy]
  refine av.bind (Ds _ _ _ _ _ _ _ _) ?_
  cases bo <;> simp only [wL, Option.some.injEq, reduceCtorEq] at hr <;> subst hr <;> simp only [binOp, ne_eq, not_true_eq_false, if_false, Op.intBits] <;> exact av.pure _) hs h
def YB : BinOp → ByteArray → ByteArray → Option Bool
 | .eql, x, y => some (x.toList == y.toList)
 | .neq, x, y => some (!(x.toList == y.toList))
 | _, _, _ => none
theorem aAi (op : BinOp) (t : TypeId) (x y : Operand) (a b : ByteArray) : av P (eqGuard op t x y (.string a) (.string b)) () := by
 unfold eqGuard
 cases op <;> exact av.pure _
theorem Ox.Pg {x y : Operand} {bo : BinOp} {t u : TypeId} {a b : ByteArray} {r : Bool} (hop : o.op = .binOp bo t x y u) (hx : bk st x = some (.string a)) (hy : bk st y = some (.string b)) (hr : YB bo a b = some r)
  (hd : cj o.dst c.n) (hs : aK (bQ o.dst (.bool r) st) st') (h : C R H st') : aR P B c o R H st C :=
 Ox.val' (s := λ ρ => do eqGuard bo t x y (ρ x) (ρ y); binOp bo t (ρ x) (ρ y)) (by rw [hop]; rfl) hd (λ ρ => by simp only [execOp, hop]) (λ ρ hρ => by
  rw [hρ x _ hx, hρ y _ hy]
  refine av.bind (aAi _ _ _ _ _ _) ?_
  cases bo <;> simp only [YB, Option.some.injEq, reduceCtorEq] at hr <;> subst hr <;> simp only [binOp, Op.stringOp] <;> exact av.pure _) hs h
def E4 : BinOp → Bool → Bool → Option Bool
 | .eql, x, y => some (x == y)
 | .neq, x, y => some (!(x == y))
 | _, _, _ => none
theorem aAh (op : BinOp) (t : TypeId) (x y : Operand) (a b : Bool) : av P (eqGuard op t x y (.bool a) (.bool b)) () := by
 unfold eqGuard
 cases op <;> exact av.pure _
theorem aAe {t : TypeId} (ht : P.underlying t = some .bool) (a b : Bool) : av P (Op.equal t (.bool a) (.bool b)) (a == b) := by
 unfold Op.equal Op.maxDepth
 rw [Op.equalIn]
 exact av.bind (av.underlying ht) (av.pure _)
theorem Ox.aCi {x y : Operand} {bo : BinOp} {t u : TypeId} {a b r : Bool} (hop : o.op = .binOp bo t x y u) (hx : bk st x = some (.bool a)) (hy : bk st y = some (.bool b)) (ht : P.underlying t = some .bool) (hr : E4 bo a b = some r)
  (hd : cj o.dst c.n) (hs : aK (bQ o.dst (.bool r) st) st') (h : C R H st') : aR P B c o R H st C :=
 Ox.val' (s := λ ρ => do eqGuard bo t x y (ρ x) (ρ y); binOp bo t (ρ x) (ρ y)) (by rw [hop]; rfl) hd (λ ρ => by simp only [execOp, hop]) (λ ρ hρ => by
  rw [hρ x _ hx, hρ y _ hy]
  refine av.bind (aAh _ _ _ _ _ _) ?_
  cases bo <;> simp only [E4, Option.some.injEq, reduceCtorEq] at hr <;> subst hr <;> simp only [binOp] <;> exact av.bind (aAe ht a b) (av.pure _)) hs h
theorem Ox.JP {x y : Operand} {bo : BinOp} {t u : TypeId} {a b : Array Value} {q : Bool} (hop : o.op = .binOp bo t x y u) (hx : bk st x = some (.agg a)) (hy : bk st y = some (.agg b)) (hg : P.eqGuardType P.depth t = false) (hq : av P (Op.equal t (.agg a) (.agg b)) q) {r : Bool} (hr : E4 bo q true = some r)
  (hd : cj o.dst c.n) (hs : aK (bQ o.dst (.bool r) st) st') (h : C R H st') : aR P B c o R H st C :=
 Ox.val' (s := λ ρ => do eqGuard bo t x y (ρ x) (ρ y); binOp bo t (ρ x) (ρ y)) (by rw [hop]; rfl) hd (λ ρ => by simp only [execOp, hop]) (λ ρ hρ => by
  rw [hρ x _ hx, hρ y _ hy]
  have hgd : av P (eqGuard bo t x y (.agg a) (.agg b)) () := by
   unfold eqGuard
   cases bo <;> simp only [E4, reduceCtorEq] at hr <;> exact av.bind av.program (av.bind av.program (by simp only [hg]; exact av.pure _))
  refine av.bind hgd ?_
  cases bo <;> simp only [E4, Option.some.injEq, reduceCtorEq] at hr <;> subst hr <;> simp only [binOp]
  ·exact av.bind hq (by cases q <;> exact av.pure _)
  ·exact av.bind hq (by cases q <;> exact av.pure _)) hs h
def jK : Int → List Int → Int
 | x, [] => x
 | x, y :: r => jK (if y > x then y else x) r
def s5 : Int → List Int → Int
 | x, [] => x
 | x, y :: r => s5 (if y < x then y else x) r
theorem acS {kd : IntKind} : ∀ (l : List Int) (x : Int), av P ((l.map (Value.int kd)).foldlM Builtin.max2 (.int kd x)) (.int kd (jK x l))
 | [], x => av.pure _
 | y :: r, x => by
  simp only [List.map_cons, List.foldlM_cons, jK]
  exact av.bind (a := .int kd (if y > x then y else x)) (av.pure _) (acS r _)
theorem acT {kd : IntKind} : ∀ (l : List Int) (x : Int), av P ((l.map (Value.int kd)).foldlM Builtin.min2 (.int kd x)) (.int kd (s5 x l))
 | [], x => av.pure _
 | y :: r, x => by
  simp only [List.map_cons, List.foldlM_cons, s5]
  exact av.bind (a := .int kd (if y < x then y else x)) (av.pure _) (acT r _)
theorem Ox.max {xs : Array Operand} {ts : Array TypeId} {kd : IntKind} {a : Int} {l : List Int} (hop : o.op = .call ⟨.builtin .max, xs, ts⟩) (hx : qf st xs.toList = some (.int kd a :: l.map (Value.int kd)))
  (hd : cj o.dst c.n) (hs : aK (bQ o.dst (.int kd (jK a l)) st) st') (h : C R H st') : aR P B c o R H st C :=
 Ox.val (by rw [hop]; rfl) hd (λ ρ hρ => by
  simp only [execOp, hop]
  refine av.bind (a := ⟨.builtin .max ts o.type (xs.map λ | .const _ => true | _ => false), xs.map ρ⟩) (av.pure _) ?_
  simp only [invoke, builtin, Builtin.max_]
  have e : (xs.map ρ).toList = .int kd a :: l.map (Value.int kd) := by simpa using EW hρ _ _ hx
  rw [e]
  exact av.bind (acS l a) (av.pure _)) hs h
theorem Ox.min {xs : Array Operand} {ts : Array TypeId} {kd : IntKind} {a : Int} {l : List Int} (hop : o.op = .call ⟨.builtin .min, xs, ts⟩) (hx : qf st xs.toList = some (.int kd a :: l.map (Value.int kd)))
  (hd : cj o.dst c.n) (hs : aK (bQ o.dst (.int kd (s5 a l)) st) st') (h : C R H st') : aR P B c o R H st C :=
 Ox.val (by rw [hop]; rfl) hd (λ ρ hρ => by
  simp only [execOp, hop]
  refine av.bind (a := ⟨.builtin .min ts o.type (xs.map λ | .const _ => true | _ => false), xs.map ρ⟩) (av.pure _) ?_
  simp only [invoke, builtin, Builtin.min_]
  have e : (xs.map ρ).toList = .int kd a :: l.map (Value.int kd) := by simpa using EW hρ _ _ hx
  rw [e]
  exact av.bind (acT l a) (av.pure _)) hs h
theorem Ox.wm {x : Operand} {t u : TypeId} {kd ks k0 : IntKind} {a : Int} (hop : o.op = .convert t u x) (hx : bk st x = some (.int ks a)) (ht : P.underlying t = some (.int k0)) (hu : P.underlying u = some (.int kd))
  (hd : cj o.dst c.n) (hs : aK (bQ o.dst (.int kd (kd.wrap a)) st) st') (h : C R H st') : aR P B c o R H st C :=
 Ox.val' (s := λ ρ => convert t u (ρ x)) (by rw [hop]; rfl) hd (λ ρ => by simp only [execOp, hop]) (λ ρ hρ => by
  rw [hρ x _ hx]
  unfold convert
  refine av.bind (av.underlying ht) (av.bind (av.underlying hu) ?_)
  exact av.pure _) hs h
theorem YC {α : Type} {xs ys : List α} {lo hi : Int} (h : mX xs lo hi = some ys) : 0 ≤ lo ∧ lo ≤ hi ∧ hi ≤ xs.length ∧ ys = (xs.take hi.toNat).drop lo.toNat := by
 unfold mX at h
 split at h
 ·cases h; rename_i h; exact ⟨h.1, h.2.1, h.2.2, rfl⟩
 ·cases h
def G3 (st : St) : Option Operand → Option Int
 | none => some 0
 | some x => match bk st x with | some (.int _ i) => some i | _ => none
def FL (st : St) (n : Nat) : Option Operand → Option Int
 | none => some n
 | some x => match bk st x with | some (.int _ i) => some i | _ => none
theorem ML {kd : IntKind} {i : Int} {y : Nat} {cd : BoundsCode} (h : 0 ≤ i ∧ i ≤ y) : av P (Instr.sliceBound (.int kd i) y cd) i.toNat := by
 unfold Instr.sliceBound
 refine av.bind (a := (kd, i)) (av.pure _) ?_
 simp only [h, and_self, if_true]
 exact av.pure _
theorem acL {ρ : Operand → Value} (hρ : Knows st ρ) {len cap : Nat} {lo hi : Option Operand} {l h : Int} (hl : G3 st lo = some l) (hh : FL st len hi = some h) (hb : 0 ≤ l ∧ l ≤ h ∧ h ≤ len) (hc : len ≤ cap) :
  av P (Instr.sliceBounds true len cap (lo.map ρ) (hi.map ρ) none) (l.toNat, h.toNat, cap) := by
 have h1 : (lo = none ∧ l = 0) ∨ ∃ x kd, lo = some x ∧ ρ x = .int kd l := by
  cases lo with
  | none => simp only [G3, Option.some.injEq] at hl; exact .inl ⟨rfl, hl.symm⟩
  | some x =>
   simp only [G3] at hl
   cases hx : bk st x with
   | none => simp [hx] at hl
   | some v =>
    cases v <;> simp [hx] at hl
    subst hl
    exact .inr ⟨x, _, rfl, hρ x _ hx⟩
 have h2 : (hi = none ∧ h = len) ∨ ∃ x kd, hi = some x ∧ ρ x = .int kd h := by
  cases hi with
  | none => simp only [FL, Option.some.injEq] at hh; exact .inl ⟨rfl, hh.symm⟩
  | some x =>
   simp only [FL] at hh
   cases hx : bk st x with
   | none => simp [hx] at hh
   | some v =>
    cases v <;> simp [hx] at hh
    subst hh
    exact .inr ⟨x, _, rfl, hρ x _ hx⟩
 unfold Instr.sliceBounds
 rcases h1 with ⟨rfl, rfl⟩ | ⟨x, kx, rfl, hx⟩ <;> rcases h2 with ⟨rfl, rfl⟩ | ⟨y, ky, rfl, hy⟩ <;> simp only [Option.map_none, Option.map_some, *]
 ·exact av.bind (a := cap) (av.pure _) (av.bind (a := (len : Int).toNat) (by rw [Int.toNat_natCast]; exact av.pure _) (av.bind (a := (0 : Int).toNat) (av.pure _) (av.pure _)))
 ·exact av.bind (a := cap) (av.pure _) (av.bind (a := h.toNat) (ML ⟨by omega, by omega⟩) (av.bind (a := (0 : Int).toNat) (av.pure _) (av.pure _)))
 ·exact av.bind (a := cap) (av.pure _) (av.bind (a := (len : Int).toNat) (by rw [Int.toNat_natCast]; exact av.pure _) (av.bind (a := l.toNat) (ML ⟨by omega, by omega⟩) (av.pure _)))
 ·exact av.bind (a := cap) (av.pure _) (av.bind (a := h.toNat) (ML ⟨by omega, by omega⟩) (av.bind (a := l.toNat) (ML ⟨by omega, by omega⟩) (av.pure _)))
end
end Go.Lg
namespace Go.Lg
open Go.Conc
theorem Dh : ∀ (vs : List Value) (cs : Array Value) (o j : Nat), o + vs.length ≤ cs.size → (eV cs o vs)[j]? = if o ≤ j ∧ j < o + vs.length then vs[j - o]? else cs[j]?
 | [], cs, o, j, _ => by
  simp only [eV, List.length_nil, Nat.add_zero]
  rw [if_neg (by omega)]
 | v :: r, cs, o, j, h => by
  simp only [List.length_cons] at h
  simp only [eV]
  rw [Dh r _ (o + 1) j (by simp; omega)]
  by_cases h1 : o + 1 ≤ j ∧ j < o + 1 + r.length
  ·rw [if_pos h1, if_pos (by simp only [List.length_cons]; omega)]
   have : j - o = (j - (o + 1)) + 1 := by omega
   rw [this]; simp
  ·rw [if_neg h1]
   by_cases h2 : o = j
   ·subst h2
    rw [if_pos (by simp only [List.length_cons]; omega)]
    rw [Array.getElem?_setIfInBounds_self_of_lt (by omega)]
    simp
   ·rw [if_neg (by simp only [List.length_cons]; omega), Array.getElem?_setIfInBounds_ne h2]
structure wu (P : Program) (t e k : Nat) : Prop where
 sl : P.underlying t = some (.slice e)
 size : av P (sizeOf e) k
 info : ∃ i, P.info? e = some i ∧ i.bytes ≤ 65536
 zero : ∃ z, av P (zeroValue e) z ∧ z.cells.size = k
section
variable {P : Program} {B : Base} {main : Bool} {ag : Jd P B main} {c : Ctx} {R : aI} {H H' : au} {st st' : St} {o : Oper}
theorem aM.weaken {α : Type} {s : Sem α} {K K' : α → aI → au → Prop} (h : aM P B R H s K) (hk : ∀ a R' H', K a R' H' → ∃ bN ct, (∀ w, Fits B R' H' w → dF B R' H' w bN ct w) ∧ K' a bN ct) : aM P B R H s K' := by
 intro w hw
 obtain ⟨a, w', R', H', h1, h2, h3, h4⟩ := h w hw
 obtain ⟨bN, ct, g1, g2⟩ := hk a R' H' h4
 exact ⟨a, w', bN, ct, h1, h2, h3.trans (g1 w' h3.fits), g2⟩
theorem aM.firstCells {α : Type} {K : b7 α} {k : Nat} {u : Value} {ys : List α} {Q : Array Value → aI → au → Prop} (hu : cE K k R H u ys) (hQ : ∀ es : List Value, aG K k R ys es → Q es.toArray R H) : aM P B R H (Builtin.firstCells k ys.length u) Q := by
 obtain ⟨A, cap, es, rfl, hE, hc⟩ := hu
 cases ys with
 | nil =>
  have e0 : es = [] := by have := hE.len; simpa using this
  subst e0
  cases A with
  | none => exact aM.pure (hQ [] hE)
  | some a =>
   simp only [Builtin.firstCells, List.length_nil, Nat.zero_mul, loadCells]
   exact aM.pure (hQ [] hE)
 | cons y ys =>
  obtain ⟨b, o, rfl, hcs⟩ := hc (by simp)
  simp only [Builtin.firstCells, loadCells]
  rw [← hE.len]
  exact aM.loadCellsFrom es 0 #[] (by simpa using hcs) (by simpa using hQ es hE)
theorem aZ.arg {α : Type} {K : b7 α} {k e : Nat} {G : au → au} (hG : gh G) {v : Value} {xs : List α} {Hs : au} (h : aZ K k e R v xs Hs) : cE K k R (G Hs) v xs := by
 rcases h with ⟨A, rfl, rfl, _⟩ | ⟨b, cap, cs, es, rfl, rfl, h3, h4, h5, h6⟩
 ·exact ⟨A, 0, [], rfl, .nil, λ h => absurd rfl h⟩
 ·refine ⟨_, cap, es, rfl, h5, λ _ => ⟨b, 0, rfl, λ j w hj => ⟨rfl, cs, e, (0, 0), .inr ?_, by simpa using h6 j w hj⟩⟩⟩
  obtain ⟨A, D, nj⟩ := hG
  rw [nj]; simp
theorem ax7 {n m : Nat} (h : m < n) (hn : n ≤ 16777216) : Builtin.nextslicecap n m ≤ 67108864 := by
 unfold Builtin.nextslicecap
 split
 ·omega
 ·split
  ·omega
  ·have : ∀ (r c : Nat), c ≤ 16777216 → Builtin.growBy n r c ≤ 67108864 := by
    intro r
    induction r with
    | zero => intro c hc; simp only [Builtin.growBy]; omega
    | succ r ih =>
     intro c hc
     simp only [Builtin.growBy]
     split
     ·omega
     ·rename_i hcn
      by_cases h2 : c + (c + 768) / 4 ≤ 16777216
      ·exact ih _ h2
      ·
       cases r with
       | zero => simp only [Builtin.growBy]; omega
       | succ r => simp only [Builtin.growBy]; rw [if_pos (by omega)]; omega
   exact this 4 m (by omega)
theorem aM.append {α : Type} {K : b7 α} [CM K] {k t e xT T : Nat} {G : au → au} (hG : gh G) {v u : Value} {xs ys : List α} {Hs : au} {dx : TypeDesc} (ht : wu P t e k) (TI : P.underlying xT = some dx) (QT : ∀ kd, dx ≠ .int kd)
  (hO : aZ K k e R v xs Hs) (hu : cE K k R (G Hs) u ys) (hl : xs.length + ys.length ≤ 16777216) {Q : Value → aI → au → Prop} (hk : ∀ v' cH, aZ K k e R v' (xs ++ ys) cH → Q v' R (G cH)) :
  aM P B R (G Hs) (Builtin.append_ #[t, xT] T #[v, u]) Q := by
 obtain ⟨A2, aKA, es2, hu2⟩ := id hu
 have hv : ∃ base cap, v = .slice base xs.length cap := by
  rcases hO with ⟨A, rfl, rfl, _⟩ | ⟨b, cap, cs, es, rfl, _⟩
  ·exact ⟨A, 0, rfl⟩
  ·exact ⟨_, cap, rfl⟩
 obtain ⟨base, cap, rfl⟩ := hv
 obtain ⟨i, hi, hbytes⟩ := ht.info
 obtain ⟨z, hz, hzs⟩ := ht.zero
 have hlen : av P (Builtin.lenOf u) ys.length := by rw [hu2.1]; exact av.pure _
 have run : aM P B R (G Hs) (do
   let need := xs.length + ys.length
   if need ≤ cap then do
    let new ← Builtin.firstCells k ys.length u
    if let some a := base then storeCells (a.add (xs.length * k)) new.toList
    Pure.pure (Value.slice base need cap)
   else do
    if (need : Int) > IntKind.i64.max ∧ (false = true ∨ (← typeInfo e).bytes = 0) then runtimePanic (.error "growslice: len out of range")
    if Builtin.nextslicecap need cap * (← typeInfo e).bytes > 2 ^ 48 then (if false = true then runtimePanic (.error "growslice: len out of range") else do
     if !(← Builtin.mayShare k xs.length ys.length base u) then mark .noRoom
     unsupported (.resourceLimit "append: a slice or a string whose bytes no memory bears"))
    let xP ← Go.choose (Question.appendCap need cap e)
    askRoom (xP * (← typeInfo e).bytes)
    let old ← Builtin.firstCells k xs.length (.slice base xs.length cap)
    let new ← Builtin.firstCells k ys.length u
    let rest := Builtin.zeroCells (← zeroValue e).cells (xP - need)
    Pure.pure (Value.slice (some (← newRow e (old ++ new ++ rest))) need xP)) Q := by
  dsimp only
  by_cases hc : xs.length + ys.length ≤ cap
  ·rw [if_pos hc]
   refine aM.bind (aM.firstCells hu λ es hE => ?_)
   rcases hO with ⟨A, e1, rfl, rfl⟩ | ⟨b, cap', cs, zp, e1, rfl, h3, h4, h5, h6⟩
   ·injection e1 with e1 e2 e3
    subst e1; subst e3
    have hy : ys = [] := by simpa using hc
    subst hy
    have e0 : es = [] := by have := hE.len; simpa using this
    subst e0
    have key : Q (.slice base ([] : List α).length 0) R (G []) := hk _ [] (.inl ⟨base, rfl, by simp, rfl⟩)
    cases base with
    | none => exact aM.bind (aM.pure (aM.pure key))
    | some a => exact aM.bind (aM.pure (aM.pure key))
   ·injection e1 with e1 _ e3
    subst e1; subst e3
    dsimp only
    rw [show (⟨b, 0, none⟩ : Addr).add (xs.length * k) = ⟨b, 0 + xs.length * k, none⟩ from r3 _ _ _, Nat.zero_add]
    refine aM.given λ cD => aM.bind (aM.Ma es cs (xs.length * k) 0 (G [(b, .cells cs e (0, 0))]) (G [(b, .cells (eV cs (xs.length * k) es) e (0, 0))]) hE.one ?_ (by simpa using gh.set hG) cD (aM.pure ?_))
    ·rw [h3, hE.len, Nat.add_zero, ← Nat.add_mul]; exact Nat.mul_le_mul_right k hc
    ·have hfit : xs.length * k + es.length ≤ cs.size := by rw [h3, hE.len, ← Nat.add_mul]; exact Nat.mul_le_mul_right k hc
     refine hk _ _ (.inr ⟨b, cap, eV cs (xs.length * k) es, zp ++ es, by rw [List.length_append], rfl, by rw [L3]; exact h3, by rw [List.length_append]; exact hc, h5.append hE, λ j w hj => ?_⟩)
     rw [Dh es cs _ _ hfit]
     by_cases Ra : j < zp.length
     ·rw [List.getElem?_append_left Ra] at hj
      rw [if_neg (by rw [← h5.len]; omega)]
      exact h6 j w hj
     ·rw [List.getElem?_append_right (by omega)] at hj
      have := (List.getElem?_eq_some_iff.1 hj).1
      rw [if_pos (by rw [← h5.len]; omega), ← h5.len]
      exact hj
  ·rw [if_neg hc]
   have hnb : Builtin.nextslicecap (xs.length + ys.length) cap * i.bytes ≤ 2 ^ 48 := by
    have h1 := ax7 (n := xs.length + ys.length) (m := cap) (by omega) hl
    calc _ ≤ 67108864 * 65536 := Nat.mul_le_mul h1 hbytes
     _ ≤ 2 ^ 48 := by decide
   have hni : ¬ (((xs.length + ys.length : Nat) : Int) > IntKind.i64.max ∧ (false = true ∨ i.bytes = 0)) := by
    intro h
    have : IntKind.i64.max = 9223372036854775807 := by decide
    omega
   refine av.cz (av.typeInfo hi) ?_
   rw [if_neg hni]
   refine av.cz (av.typeInfo hi) ?_
   rw [if_neg (by omega)]
   refine (aM.bind (aM.choose λ tape => av.cz (av.typeInfo hi) (aM.bind ?_)))
   have ald : ∀ (n : Nat) (Q' : Unit → aI → au → Prop), Q' () R (G Hs) → aM P B R (G Hs) (askRoom n) Q' := by
    intro n Q' hq
    unfold askRoom
    split
    ·exact aM.axW hq
    ·exact aM.pure hq
   refine ald _ _ ?_
   simp only [Question.forced, Bool.false_eq_true, if_false, Question.cut]
   generalize hcap : xs.length + ys.length + tape % (2 ^ 63 - (xs.length + ys.length)) = xP
   refine aM.bind (aM.firstCells (aZ.arg hG hO) λ zp Zn => aM.bind (aM.firstCells hu λ J2 Zo => av.cz hz ?_))
   simp only [newRow]
   refine aM.bind (aM.bind (aM.weaken (aM.new (K := λ r R' H' => R' = R ∧ H' = (r, .cells (zp.toArray ++ J2.toArray ++ Builtin.zeroCells z.cells (xP - (xs.length + ys.length))) e (0, 0)) :: G Hs) λ r _ _ => ⟨rfl, rfl⟩) λ r R' H' hrh => ?_))
   obtain ⟨rfl, rfl⟩ := hrh
   refine ⟨R', G [(r, .cells (zp.toArray ++ J2.toArray ++ Builtin.zeroCells z.cells (xP - (xs.length + ys.length))) e (0, 0))], λ w hw => ?_, aM.pure (aM.pure (hk _ _ (.inr ⟨r, xP, _, zp ++ J2, by rw [List.length_append], rfl, ?_, by rw [List.length_append]; omega, Zn.append Zo, λ j w hj => ?_⟩)))⟩
   ·obtain ⟨A, D, nj⟩ := hG
    rw [nj, nj] at *
    have h1 := HP (H' := A ++ (Hs ++ ((r, .cells (zp.toArray ++ J2.toArray ++ Builtin.zeroCells z.cells (xP - (xs.length + ys.length))) e (0, 0)) :: D))) (by simpa using List.perm_middle (l₁ := A ++ Hs)) hw
    refine h1.trans (Mf ?_ h1.fits)
    exact List.Sublist.append_left (List.sublist_append_right _ _) _
   ·simp only [Array.size_append, List.size_toArray, Zn.len, Zo.len, Builtin.zeroCells, Array.size_map, Array.size_range, hzs]
    rw [← Nat.add_mul, ← Nat.add_mul]
    congr 1; omega
   ·have := (List.getElem?_eq_some_iff.1 hj).1
    rw [Array.getElem?_append_left (by simpa using this)]
    simpa using hj
 unfold Builtin.append_
 refine av.cz (av.underlying ht.sl) (av.cz ht.size (av.cz (av.underlying TI) (av.cz (a := false) (by cases dx <;> first | exact av.pure _ | exact absurd rfl (QT _)) ?_)))
 exact av.cz hlen run
theorem Ox.append {α : Type} {K : b7 α} [CM K] {k t e xT : Nat} (G : au → au) {x y : Operand} {v u : Value} {xs ys zs : List α} {Hs : au} {dx : TypeDesc} {C : aI → au → St → Prop} (hop : o.op = .call ⟨.builtin .append, #[x, y], #[t, xT]⟩) (hx : bk st x = some v) (hy : bk st y = some u)
  (ht : wu P t e k) (TI : P.underlying xT = some dx) (QT : ∀ kd, dx ≠ .int kd) (hG : gh G) (hO : aZ K k e R v xs Hs) (hu : cE K k R (G Hs) u ys) (hl : cy xs ys = some zs) (hd : cj o.dst c.n)
  (hC : ∀ v' cH, aZ K k e R v' zs cH → ∃ st', aK (bQ o.dst v' st) st' ∧ C R (G cH) st') : aR P B c o R (G Hs) st C := by
 obtain ⟨hl1, rfl⟩ := ahx hl
 refine ⟨by rw [hop]; rfl, hd, λ ρ hρ => ?_⟩
 simp only [execOp, hop]
 refine av.cz (a := ⟨.builtin .append #[t, xT] o.type (#[x, y].map λ | .const _ => true | _ => false), #[x, y].map ρ⟩) (av.pure _) ?_
 simp only [invoke, builtin]
 have e : (#[x, y].map ρ) = #[v, u] := by simp [hρ x _ hx, hρ y _ hy]
 rw [e]
 refine aM.bind (aM.append hG ht TI QT hO hu hl1 λ v' cH Kb => aM.pure ?_)
 obtain ⟨st', hs, h⟩ := hC v' cH Kb
 exact ⟨v', .inl rfl, st', hs, h⟩
theorem At.dB {α : Type} {K : b7 α} [CM K] {k e : Nat} {todo : List Item} (G : au → au) (hG : gh G) {v : Value} {xs : List α} {Hs H2 : au} (h2 : G [] = H2) (hO : aZ K k e R v xs Hs) (h : ∀ R', aN R R' → aj K k R' v xs → At ag c R' H2 st todo) : At ag c R (G Hs) st todo := by
 subst h2
 rcases hO with ⟨A, rfl, rfl, rfl⟩ | ⟨b, cap, cs, es, rfl, rfl, h3, h4, h5, h6⟩
 ·exact h R (aN.refl R) .nil
 ·obtain ⟨A, D, nj⟩ := hG
  rw [nj] at h ⊢
  refine At.perm (H' := (b, .cells cs e (0, 0)) :: (A ++ ([] ++ D))) (by simpa using List.perm_middle.symm) (At.freeze λ R' hR hb => h R' hR ?_)
  exact ⟨_, cap, es, rfl, h5.mono hR, h4, λ _ => ⟨b, 0, cs, e, (0, 0), rfl, hb, λ j w hj => by simpa using h6 j w hj⟩⟩
theorem At.ql {α : Type} {K : b7 α} [CM K] {k e b n : Nat} {todo : List Item} (G : au → au) (hG : gh G) {H2 : au} (h2 : G [] = H2) {ys : List α} {cs : Array Value} (hE : aG K k R ys cs.toList) (hn : ys.length = n) (h : ∀ R', aN R R' → aj K k R' (.slice (some ⟨b, 0, none⟩) n n) ys → At ag c R' H2 st todo) : At ag c R (G [(b, .cells cs e (0, 0))]) st todo := by
 subst hn h2
 obtain ⟨A, D, nj⟩ := hG
 rw [nj] at h ⊢
 refine At.perm (H' := (b, .cells cs e (0, 0)) :: (A ++ ([] ++ D))) (by simpa using List.perm_middle.symm) (At.freeze λ R' hR hb => h R' hR ?_)
 exact ⟨_, ys.length, cs.toList, rfl, hE.mono hR, Nat.le_refl _, λ _ => ⟨b, 0, cs, e, (0, 0), rfl, hb, λ j w hj => by simpa using hj⟩⟩
theorem aZ.lit {α : Type} {K : b7 α} {k e b n : Nat} {ys : List α} {cs : Array Value} (hE : aG K k R ys cs.toList) (hn : ys.length = n) : aZ K k e R (.slice (some ⟨b, 0, none⟩) n n) ys [(b, .cells cs e (0, 0))] := by
 subst hn
 exact .inr ⟨b, _, cs, cs.toList, rfl, rfl, by simpa using hE.len, Nat.le_refl _, hE, λ j w hj => by simpa using hj⟩
end
end Go.Lg
namespace Go.Lg
open Go.Conc
theorem aK.one {dst : Option Tmp} {d : Tmp} {v : Value} {st : St} (h : dst = some d) : aK (bQ dst v st) [(d, v)] := by
 subst h
 intro t u hu
 simp only [List.lookup_cons, List.lookup_nil] at hu
 simp only [bQ, List.lookup_cons]
 split at hu
 ·exact hu
 ·cases hu
theorem dN.skip {Ks H H' : au} {b : Nat} {o o' : Obj} (h : dN H b o o' H') : dN (Ks ++ H) b o o' (Ks ++ H') := by
 induction Ks with
 | nil => exact h
 | cons p Ks ih => exact .there ih
theorem aT.box {R : aI} {H : au} {b : Nat} {e : TypeId} {fz : Nat × Nat} {L : List Value} (hm : (b, Obj.cells L.toArray e fz) ∈ H) : aT R H b 0 L := λ j v hj => ⟨rfl, _, e, fz, .inr hm, by simpa using hj⟩
theorem gh.id {D : au} : gh (λ X => X ++ D) := ⟨[], D, λ _ => rfl⟩
theorem gh.cons {p : Nat × Obj} {G : au → au} (h : gh G) : gh (λ X => p :: G X) := by
 obtain ⟨A, D, h⟩ := h
 exact ⟨p :: A, D, λ X => by show p :: G X = _; rw [h]; rfl⟩
theorem gh.app {L : au} {G : au → au} (h : gh G) : gh (λ X => L ++ G X) := by
 obtain ⟨A, D, h⟩ := h
 exact ⟨L ++ A, D, λ X => by show L ++ G X = _; rw [h, List.append_assoc]⟩
theorem aY {place : Nat → Option (Nat × Nat)} {cells : Array Value} : Instr.fill place cells [] = some cells := rfl
theorem ayX (vc : List Value) : ∀ (cells : Array Value) (off j : Nat), (vc.zipIdx j).foldl (λ cs (c, i) => cs.setIfInBounds (off + i) c) cells = eV cells (off + j) vc := by
 induction vc with
 | nil => intro cells off j; rfl
 | cons v r ih => intro cells off j; simp only [List.zipIdx_cons, List.foldl_cons, eV]; rw [ih]; rfl
theorem ayY (vc cells : Array Value) (off : Nat) : vc.zipIdx.foldl (λ cs (c, i) => cs.setIfInBounds (off + i) c) cells = eV cells off vc.toList := by
 have h := ayX vc.toList cells off 0
 rw [Nat.add_zero] at h
 rw [← h, ← Array.foldl_toList]
 simp
theorem bf {place : Nat → Option (Nat × Nat)} {cells cells' out vc : Array Value} {i off size : Nat} {v : Value} {rest : List (Nat × Value)} (hp : place i = some (off, size)) (hc : v.cells = vc)
  (hs : (vc.size == size && Nat.ble (off + vc.size) cells.size) = true) (hput : eV cells off vc.toList = cells') (h : Instr.fill place cells' rest = some out) : Instr.fill place cells ((i, v) :: rest) = some out := by
 subst hc
 rw [Bool.and_eq_true] at hs
 have h1 : v.cells.size = size := by simpa using hs.1
 have h2 : off + v.cells.size ≤ cells.size := by simpa [Nat.ble_eq] using hs.2
 simp only [Instr.fill, hp]
 rw [if_neg (by simp [h1]; omega), ayY, hput]
 exact h
theorem aW : ∀ u ∈ ([] : List Value), u.oneCell' = true := λ _ h => by cases h
theorem ak {v : Value} {l : List Value} (h : v.oneCell' = true) (t : ∀ u ∈ l, u.oneCell' = true) : ∀ u ∈ v :: l, u.oneCell' = true := λ u hu => by
 rcases List.mem_cons.1 hu with rfl | hu
 ·exact h
 ·exact t u hu
theorem cr {l m : List Value} (h : ∀ u ∈ l, u.oneCell' = true) (t : ∀ u ∈ m, u.oneCell' = true) : ∀ u ∈ l ++ m, u.oneCell' = true := λ u hu => (List.mem_append.1 hu).elim (h u) (t u)
theorem eM {α : Type} {f : α → Value} {xs : List α} (h : ∀ x, (f x).oneCell' = true) : ∀ u ∈ xs.map f, u.oneCell' = true := λ u hu => by
 obtain ⟨x, _, rfl⟩ := List.mem_map.1 hu
 exact h x
theorem aT.part {R : aI} {H : au} {b o j n : Nat} {L vs : List Value} (h : aT R H b o L) (hv : (L.drop j).take n = vs) : aT R H b (o + j) vs := by
 intro i v hi
 subst hv
 rw [List.getElem?_take] at hi
 split at hi
 ·rw [List.getElem?_drop] at hi
  have := h _ _ hi
  simpa [Nat.add_assoc] using this
 ·cases hi
theorem aT.arr {α : Type} {R : aI} {H : au} {b o k : Nat} {f : α → Value} {pre post : List Value} {xs : List α} {i : Int} {x : α} (h : aT R H b o (pre ++ (xs.map f ++ post))) (hi : idx xs i = some x) (hk : pre.length = k) : Cell R H ⟨b, o + k + i.toNat * 1, none⟩ (f x) := by
 obtain ⟨_, _, h3⟩ := xC hi
 have hlt := (List.getElem?_eq_some_iff.1 h3).1
 have := h (k + i.toNat) (f x) (by
  rw [List.getElem?_append_right (by omega), ← hk, Nat.add_sub_cancel_left, List.getElem?_append_left (by simpa using hlt)]
  simp [h3])
 simpa [Nat.add_assoc] using this
theorem aT.sub {R : aI} {H H' : au} {b o : Nat} {L : List Value} (h : aT R H b o L) (hs : ∀ p ∈ H, p ∈ H') : aT R H' b o L := λ j v hj => by
 obtain ⟨h1, cs, e, fz, h2, h3⟩ := h j v hj
 exact ⟨h1, cs, e, fz, h2.imp id (hs _), h3⟩
theorem aT.le {R R' : aI} {H : au} {b o : Nat} {L : List Value} (h : aT R H b o L) (hs : aN R R') : aT R' H b o L := λ j v hj => by
 obtain ⟨h1, cs, e, fz, h2, h3⟩ := h j v hj
 exact ⟨h1, cs, e, fz, h2.imp (hs _ _) id, h3⟩
theorem OZ {α : Type} {f : α → Value} {pre post : List Value} {xs : List α} {i : Int} {x y : α} {k : Nat} (hi : idx xs i = some y) (hk : pre.length = k) : ((pre ++ (xs.map f ++ post)).toArray).setIfInBounds (k + i.toNat * 1) (f x) = (pre ++ ((xs.set i.toNat x).map f ++ post)).toArray := by
 obtain ⟨_, _, h3⟩ := xC hi
 have hlt := (List.getElem?_eq_some_iff.1 h3).1
 subst hk
 simp only [Nat.mul_one, List.setIfInBounds_toArray, List.map_set]
 congr 1
 rw [List.set_append_right _ _ (by omega), Nat.add_sub_cancel_left, List.set_append_left _ _ (by simpa using hlt)]
theorem OY {α : Type} {f : α → Value} {pre post : List Value} {xs : List α} {i : Int} {y : α} {k : Nat} (hi : idx xs i = some y) (hk : pre.length = k) : Nat.blt (k + i.toNat * 1) ((pre ++ (xs.map f ++ post)).toArray).size = true := by
 obtain ⟨_, _, h3⟩ := xC hi
 have hlt := (List.getElem?_eq_some_iff.1 h3).1
 rw [Nat.blt_eq]
 simp
 omega
theorem eE {L : List Value} {n : Nat} (h : L.length = n) : (L.drop 0).take n = L := by subst h; simp
theorem sW {P : Program} {α : Type} {t e len k b m : Nat} {i : Int} {xs : List α} {x : α} (ht : wv P t len e k) (hl : xs.length = len) (hi : idx xs i = some x) : BR P t (.pointer (some ⟨b, m, none⟩)) i b (m + i.toNat * k) := by
 obtain ⟨h1, h2, _⟩ := xC hi
 exact avQ ht ⟨h1, by omega⟩
theorem aj.one {α : Type} {C : b7 α} {k : Nat} {R : aI} {v : Value} {xs : List α} (h : aj C k R v xs) : v.oneCell' = true := by
 obtain ⟨A, cap, es, rfl, _⟩ := h; rfl
theorem aj.cells {α : Type} {C : b7 α} {k : Nat} {R : aI} {v : Value} {xs : List α} (h : aj C k R v xs) : v.cells = #[v] := by
 obtain ⟨A, cap, es, rfl, _⟩ := h; rfl
theorem aZ.cells {α : Type} {C : b7 α} {k e : Nat} {R : aI} {v : Value} {xs : List α} {Hs : au} (h : aZ C k e R v xs Hs) : v.cells = #[v] := by
 rcases h with ⟨A, rfl, _⟩ | ⟨b, cap, cs, es, rfl, _⟩ <;> rfl
theorem aZ.one {α : Type} {C : b7 α} {k e : Nat} {R : aI} {v : Value} {xs : List α} {Hs : au} (h : aZ C k e R v xs Hs) : v.oneCell' = true := by
 rcases h with ⟨A, rfl, _⟩ | ⟨b, cap, cs, es, rfl, _⟩ <;> rfl
theorem aG.cons {α : Type} {C : b7 α} {k : Nat} {R : aI} {x : α} {xs : List α} {e1 es : List Value} (h : C R x e1) (hk : e1.length = k) (g : aG C k R xs es) : aG C k R (x :: xs) (e1 ++ es) := (aG.single h hk).append g
theorem aG.le {α : Type} {C : b7 α} {k : Nat} {R : aI} {xs : List α} {es fs : List Value} (h : aG C k R xs es) (e : es = fs) : aG C k R xs fs := by subst e; exact h
section
variable {P : Program} {B : Base} {main : Bool} {ag : Jd P B main} {c : Ctx} {R : aI} {H H' : au} {st st' : St} {o : Oper} {k : List Item}
theorem aM.ghost {α : Type} {s : Sem α} {K : α → aI → au → Prop} {R' : aI} (hg : ∀ w, Fits B R H w → dF B R H w R' H' w) (h : aM P B R' H' s K) : aM P B R H s K := by
 intro w hw
 have h0 := hg w hw
 obtain ⟨a, w', bN, ct, h1, h2, h3, h4⟩ := h w h0.fits
 exact ⟨a, w', bN, ct, h1, λ e he => (h2 e he).up h0, h0.trans h3, h4⟩
theorem aJ.ghost {f : FuncId} {args : Array Value} {Post : Value → aI → au → Prop} {R' : aI} (hg : ∀ w, Fits B R H w → dF B R H w R' H' w) (h : aJ ag f args R' H' Post) : aJ ag f args R H Post :=
 λ fr cs hk => ag.ghost hg (h fr cs hk)
inductive lU (P : Program) (R : aI) (H : au) (st : St) : List ResultVar → List Value → Prop
 | nil : lU P R H st [] []
 | tmp {t : Tmp} {v : Value} {r : List ResultVar} {vs : List Value} : st.lookup t = some v → lU P R H st r vs → lU P R H st (.tmp t :: r) (v :: vs)
 | one {a : Tmp} {t : TypeId} {b o : Nat} {v : Value} {r : List ResultVar} {vs : List Value} : st.lookup a = some (.pointer (some ⟨b, o, none⟩)) → gk P t → Cell R H ⟨b, o, none⟩ v → lU P R H st r vs → lU P R H st (.cell a t :: r) (v :: vs)
 | agg {a : Tmp} {t : TypeId} {b o n : Nat} {us : List Value} {r : List ResultVar} {vs : List Value} : st.lookup a = some (.pointer (some ⟨b, o, none⟩)) → jQ P t n → us.length = n → aT R H b o us → lU P R H st r vs → lU P R H st (.cell a t :: r) (.agg us.toArray :: vs)
theorem azt {tmps : Array Value} {n : Nat} (ht : fe n st tmps) : ∀ {l : List ResultVar} {vs : List Value}, lU P R H st l vs → ∀ {K : List Value → aI → au → Prop}, K vs R H →
  aM P B R H (l.mapM (m := Sem) λ
   | .tmp t => pure (tmps.getD t undef)
   | .cell a t => do loadVar t (← asAddr (tmps.getD a undef))) K := by
 intro l vs h
 induction h with
 | nil => intro K hk; exact aM.pure hk
 | @tmp t v r vs hl _ ih =>
  intro K hk
  rw [List.mapM_cons]
  have : tmps.getD t undef = v := by simp [Array.getD_eq_getD_getElem?, ht.2 t v hl]
  refine av.cz (a := v) (by show av P (pure (tmps.getD t undef)) v; rw [this]; exact av.pure _) (aM.bind (ih (K := λ us R' H' => K (v :: us) R' H') hk |>.mono λ us R' H' h => aM.pure h))
 | @one a t b o v r vs hl KH hc _ ih =>
  intro K hk
  rw [List.mapM_cons]
  have : tmps.getD a undef = .pointer (some ⟨b, o, none⟩) := by simp [Array.getD_eq_getD_getElem?, ht.2 a _ hl]
  simp only [this]
  refine aM.bind (av.cz (a := ⟨b, o, none⟩) (av.pure _) ?_)
  unfold loadVar
  refine av.cz KH.1 (aM.load hc (aM.bind (ih (K := λ us R' H' => K (v :: us) R' H') hk |>.mono λ us R' H' h => aM.pure h)))
 | @agg a t b o n us r vs hl KH hn hc _ ih =>
  intro K hk
  rw [List.mapM_cons]
  have : tmps.getD a undef = .pointer (some ⟨b, o, none⟩) := by simp [Array.getD_eq_getD_getElem?, ht.2 a _ hl]
  simp only [this]
  refine aM.bind (av.cz (a := ⟨b, o, none⟩) (av.pure _) ?_)
  unfold loadVar
  refine av.cz KH.1 ?_
  simp only [if_true]
  subst hn
  refine av.cz KH.2 (aM.bind (aM.loadCellsFrom us 0 #[] (by simpa using hc) (aM.pure ?_)))
  simp only [List.append_toArray, List.nil_append]
  exact aM.bind (ih (K := λ vs R' H' => K (.agg us.toArray :: vs) R' H') hk |>.mono λ us R' H' h => aM.pure h)
theorem L6 {fn : Func} {tmps : Array Value} {n : Nat} {vs : List Value} (ht : fe n st tmps) (h : lU P R H st fn.results.toList vs) : aM P B R H (results fn tmps) λ v R' H' => v = pP vs ∧ R' = R ∧ H' = H := by
 unfold results
 rw [← Array.toArray_toList (xs := fn.results), List.mapM_toArray]
 refine aM.bind (aM.map (azt ht h ?_))
 cases vs with
 | nil => exact aM.pure ⟨rfl, rfl, rfl⟩
 | cons v r => cases r with
  | nil => exact aM.pure ⟨rfl, rfl, rfl⟩
  | cons _ _ => exact aM.pure ⟨rfl, rfl, rfl⟩
theorem At.azc {fr : Frame} {cs : List Frame} {f : FuncId} {n : Nat} {fn : Func} {vs : List Value} (hf : P.funcs[f]? = some fn) (hr : lU P R H st fn.results.toList vs) (hj : ag.J R H (br (fr.finish (pP vs)) cs)) :
  At ag ⟨f, .normal, none, n, [], fr :: cs⟩ R H st (.code .ret :: k) := λ tmps ht => by
 refine Jd.ctl (g' := br { (bl ⟨f, .normal, none, n, [], fr :: cs⟩ tmps (.code .ret :: k)) with mode := .returning } (fr :: cs)) rfl (λ w => by simp [stepG, stepG.exec, br, bl])
  (ag.step rfl λ w hw => ?_)
 obtain ⟨v, w', R', H', h1, h2, h3, rfl, rfl, rfl⟩ := L6 (P := P) ht hr w hw
 refine ⟨br (fr.finish (pP vs)) cs, w', seen P f ((results fn tmps).events P w #[]), R', H', ?_, λ e he => h2 e (mem_seen he), h3, hj⟩
 simp [stepG, unwind, doReturn, br, bl, hf, h1, GStep.after]
theorem At.wN {fr : Frame} {cs : List Frame} {f : FuncId} {n : Nat} {fn : Func} {vs : List Value} (hf : P.funcs[f]? = some fn) (hr : lU P R H st fn.results.toList vs) (hj : ag.J R H (br (fr.finish (pP vs)) cs)) :
  At ag ⟨f, .normal, none, n, [], fr :: cs⟩ R H st [] := λ tmps ht => by
 refine Jd.ctl (g' := br { (bl ⟨f, .normal, none, n, [], fr :: cs⟩ tmps []) with mode := .returning } (fr :: cs)) rfl (λ w => by simp [stepG, stepG.exec, br, bl])
  (ag.step rfl λ w hw => ?_)
 obtain ⟨v, w', R', H', h1, h2, h3, rfl, rfl, rfl⟩ := L6 (P := P) ht hr w hw
 refine ⟨br (fr.finish (pP vs)) cs, w', seen P f ((results fn tmps).events P w #[]), R', H', ?_, λ e he => h2 e (mem_seen he), h3, hj⟩
 simp [stepG, unwind, doReturn, br, bl, hf, h1, GStep.after]
end
section
variable {P : Program} {B : Base} {main : Bool}
abbrev jS (α : Type) := aI → α → Value → Prop
def n4 (ag : Jd P B main) (R : aI) (H : au) {α β : Type} (A : jS α) (D : jS β) (v : Value) (f : α → Option β) : Prop :=
 ∃ fid first captured, v = .func (.func fid) first captured ∧ aV P fid ∧ ∀ R' H', aN R R' → (∀ p ∈ H, p ∈ H') → ∀ x r va, A R' x va → f x = some r → aJ ag fid (first ++ #[va] ++ captured) R' H' λ v bN ct => aN R' bN ∧ ct = H' ∧ D bN r v
def VI (kd : IntKind) : jS Int := λ _ x v => v = .int kd x
def VB : jS Bool := λ _ x v => v = .bool x
def EP {α : Type} (C : b7 α) (k : Nat) : jS (List α) := λ R xs v => aj C k R v xs
def jR {α : Type} (C : b7 α) : jS α := λ R x v => ∃ es, v = .agg (List.toArray es) ∧ C R x es
theorem n4.up {ag : Jd P B main} {R R' : aI} {H H' : au} {α β : Type} {A : jS α} {D : jS β} {v : Value} {f : α → Option β} (h : n4 ag R H A D v f) (hR : aN R R') (hH : ∀ p ∈ H, p ∈ H') : n4 ag R' H' A D v f := by
 obtain ⟨fid, first, captured, h1, h2, h3⟩ := h
 exact ⟨fid, first, captured, h1, h2, λ bN ct qm hH' => h3 bN ct (hR.trans qm) (λ p hp => hH' p (hH p hp))⟩
end
end Go.Lg
namespace Go.Lg
open Go.Conc
theorem eD {h l1 l2 : au} (p : List.Sublist l1 l2) : List.Sublist (h ++ l1) (h ++ l2) := List.Sublist.append (List.Sublist.refl _) p
theorem aP {h l1 l2 : au} (p : List.Sublist l1 l2) : List.Sublist l1 (h ++ l2) := by
 induction h with
 | nil => exact p
 | cons a h ih => exact ih.cons a
def IU {α : Type} (f : α → Value) (n : Nat) : b7 (List α) := λ _ xs es => xs.length = n ∧ es = [] ++ (xs.map f ++ [])
theorem eB {vs : List Value} {cs : Array Value} (h : vs.length = cs.size) : eV cs 0 vs = vs.toArray := by
 have hs : (eV cs 0 vs).size = cs.size := L3 _ _ _
 apply Array.ext_getElem?
 intro j
 rw [Dh vs cs 0 j (by omega)]
 by_cases hj : j < vs.length
 ·rw [if_pos (by omega)]; simp
 ·rw [if_neg (by omega)]
  rw [Array.getElem?_eq_none (by omega)]
  simp [Nat.not_lt.1 hj]
section
variable {P : Program} {B : Base} {main : Bool} {ag : Jd P B main} {c : Ctx} {R : aI} {H : au} {st : St} {k : List Item} {o : Oper} {C : aI → au → St → Prop}
theorem At.awA {S Q ρ : Type} {body : S → Option (S ⊕ Q)} {s0 : S} {code : Code} {g : Q → Option ρ} {r : ρ} (hM : (Go.Lg.bt body s0).bind g = some r) (I : S → aI → au → St → Prop) (h0 : I s0 R H st) (hb : ∀ s R H st, I s R H st → ∀ x, body s = some x → (∀ s', x = Sum.inl s' → ∀ R' H' st', I s' R' H' st' → At ag c R' H' st' (.inLoop code :: k)) → (∀ p, x = (Sum.inr p) → g p = some r) → At ag c R H st (.code code :: .inLoop code :: k)) : At ag c R H st (.code (.loop code) :: k) := At.bt hM I (λ s R H st hI x hx again out => hb s R H st hI x hx again (λ _ hp => out _ hp)) h0
theorem At.c8 {S P0 ρ : Type} {body : S → Option (S ⊕ P0)} {s0 : S} {code : Code} {f0 : P0 → Option ρ} {r : ρ} {k0 : List Item} (hM : (Go.Lg.bt body s0).bind f0 = some r) (I : S → aI → au → St → Prop) (E0 : P0 → aI → au → St → Prop) (TN : Nat) (_ : exitTo TN k = some k0) (h0 : I s0 R H st) (ha0 : ∀ p R H st, E0 p R H st → f0 p = some r → At ag c R H st k0) (hb : ∀ s R H st, I s R H st → ∀ x, body s = some x → (∀ s', x = Sum.inl s' → ∀ R' H' st', I s' R' H' st' → At ag c R' H' st' (.inLoop code :: k)) → (∀ p, x = (Sum.inr p) → ∀ R' H' st', E0 p R' H' st' → At ag c R' H' st' k0) → At ag c R H st (.code code :: .inLoop code :: k)) : At ag c R H st (.code (.loop code) :: k) := At.bt hM I (λ s R H st hI x hx again out => hb s R H st hI x hx again (λ p hp R' H' st' hE => ha0 p R' H' st' hE (out _ hp))) h0
theorem At.fh {S P0 Q ρ : Type} {body : S → Option (S ⊕ (P0 ⊕ Q))} {s0 : S} {code : Code} {f0 : P0 → Option ρ} {g : Q → Option ρ} {r : ρ} {k0 : List Item} (hM : (Go.Lg.bt body s0).bind (Sum.elim f0 g) = some r) (I : S → aI → au → St → Prop) (E0 : P0 → aI → au → St → Prop) (TN : Nat) (_ : exitTo TN k = some k0) (h0 : I s0 R H st) (ha0 : ∀ p R H st, E0 p R H st → f0 p = some r → At ag c R H st k0) (hb : ∀ s R H st, I s R H st → ∀ x, body s = some x → (∀ s', x = Sum.inl s' → ∀ R' H' st', I s' R' H' st' → At ag c R' H' st' (.inLoop code :: k)) → (∀ p, x = (Sum.inr (Sum.inl p)) → ∀ R' H' st', E0 p R' H' st' → At ag c R' H' st' k0) → (∀ p, x = (Sum.inr (Sum.inr p)) → g p = some r) → At ag c R H st (.code code :: .inLoop code :: k)) : At ag c R H st (.code (.loop code) :: k) := At.bt hM I (λ s R H st hI x hx again out => hb s R H st hI x hx again (λ p hp R' H' st' hE => ha0 p R' H' st' hE (out _ hp)) (λ _ hp => out _ hp)) h0
theorem At.gR {P0 ρ : Type} {A : Option P0} {it : Item} {f0 : P0 → Option ρ} {r : ρ} (hM : A.bind f0 = some r) (E0 : P0 → aI → au → St → Prop) (ha0 : ∀ p R H st, E0 p R H st → f0 p = some r → At ag c R H st k) (hb : ∀ x, A = some x → (∀ p, x = p → ∀ R' H' st', E0 p R' H' st' → At ag c R' H' st' k) → At ag c R H st (it :: k)) : At ag c R H st (it :: k) := by
 obtain ⟨x, h1, h2⟩ := ao hM
 exact hb x h1 (λ p hp R' H' st' hE => ha0 p R' H' st' hE (by subst hp; exact h2))
theorem Ox.B2 {α β : Type} {A : jS α} {D : jS β} {f : α → Option β} {x y : Operand} {ts : Array TypeId} {v va : Value} {a : α} {r : β} {H0 : au} (h : n4 ag R H0 A D v f)
  (hop : o.op = .call ⟨.value x, #[y], ts⟩) (hx : bk st x = some v) (hy : bk st y = some va) (hA : A R a va) (hf : f a = some r) (hd : cj o.dst c.n) (hH : ∀ p ∈ H0, p ∈ H)
  (hC : ∀ w R', aN R R' → D R' r w → ∃ st', aK (bQ o.dst w st) st' ∧ C R' H st') : lS ag c o R H st C := by
 obtain ⟨fid, first, captured, rfl, he, hk⟩ := h
 refine Ox.dO (vs := [va]) hop rfl hx (by simp [qf, hy]) he rfl hd ((hk R H (aN.refl _) hH a r va hA hf).mono λ w R' H' h => ?_)
 obtain ⟨h1, rfl, h3⟩ := h
 exact hC w R' h1 h3
end
end Go.Lg
namespace Go.Lg
open Go.Conc
def bC {α : Type} (C : b7 α) (k : Nat) (R : aI) (H : au) (v : Value) (xs : List α) : Prop :=
 ∃ A cap es, v = .slice A xs.length cap ∧ aG C k R xs es ∧ xs.length ≤ cap ∧ (xs ≠ [] → ∃ b o, A = some ⟨b, o, none⟩ ∧ aT R H b o es)
theorem bC.le {α : Type} {C : b7 α} [CM C] {k : Nat} {R R' : aI} {H : au} {v : Value} {xs : List α} (h : bC C k R H v xs) (hR : aN R R') : bC C k R' H v xs := by
 obtain ⟨A, cap, es, h1, h2, h3, h4⟩ := h
 refine ⟨A, cap, es, h1, h2.mono hR, h3, λ hx => ?_⟩
 obtain ⟨b, o, g1, g2⟩ := h4 hx
 exact ⟨b, o, g1, g2.le hR⟩
theorem bC.sub {α : Type} {C : b7 α} {k : Nat} {R : aI} {H H' : au} {v : Value} {xs : List α} (h : bC C k R H v xs) (hs : ∀ p ∈ H, p ∈ H') : bC C k R H' v xs := by
 obtain ⟨A, cap, es, h1, h2, h3, h4⟩ := h
 refine ⟨A, cap, es, h1, h2, h3, λ hx => ?_⟩
 obtain ⟨b, o, g1, g2⟩ := h4 hx
 exact ⟨b, o, g1, g2.sub hs⟩
theorem aj.rd {α : Type} {C : b7 α} {k : Nat} {R : aI} {H : au} {v : Value} {xs : List α} (h : aj C k R v xs) : bC C k R H v xs := by
 obtain ⟨A, cap, es, h1, h2, hc, h3⟩ := h
 refine ⟨A, cap, es, h1, h2, hc, λ hx => ?_⟩
 obtain ⟨b, o, arr, e, fz, g1, g2, g3⟩ := h3 hx
 exact ⟨b, o, g1, λ j w hj => ⟨rfl, arr, e, fz, .inl g2, g3 j w hj⟩⟩
theorem aZ.rd {α : Type} {C : b7 α} {k e : Nat} {R : aI} {H : au} {v : Value} {xs : List α} {Hs : au} (h : aZ C k e R v xs Hs) (hs : ∀ p ∈ Hs, p ∈ H) : bC C k R H v xs := by
 rcases h with ⟨A, rfl, rfl, rfl⟩ | ⟨b, cap, cs, es, rfl, rfl, h3, h4, h5, h6⟩
 ·exact ⟨A, 0, [], rfl, .nil, Nat.le_refl _, λ h => absurd rfl h⟩
 ·exact ⟨_, cap, es, rfl, h5, h4, λ _ => ⟨b, 0, rfl, λ j w hj => ⟨rfl, cs, e, (0, 0), .inr (hs _ (by simp)), by simpa using h6 j w hj⟩⟩⟩
theorem bC.lit {α : Type} {C : b7 α} {k e n b : Nat} {R : aI} {H : au} {ys : List α} {cs : Array Value} {fz : Nat × Nat} (hm : (b, Obj.cells cs e fz) ∈ H) (hE : aG C k R ys cs.toList) (hn : ys.length = n) : bC C k R H (.slice (some ⟨b, 0, none⟩) n n) ys := by
 subst hn
 exact ⟨_, ys.length, cs.toList, rfl, hE, Nat.le_refl _, λ _ => ⟨b, 0, rfl, λ j w hj => ⟨rfl, cs, e, fz, .inr hm, by simpa using hj⟩⟩⟩
theorem bC.arg {α : Type} {C : b7 α} {k : Nat} {R : aI} {H : au} {v : Value} {xs : List α} (h : bC C k R H v xs) : cE C k R H v xs := by
 obtain ⟨A, cap, es, h1, h2, _, h3⟩ := h
 exact ⟨A, cap, es, h1, h2, h3⟩
theorem bC.elem {P : Program} {α : Type} {K : b7 α} {k t e : Nat} {R : aI} {H : au} {v : Value} {xs : List α} {i : Int} {x : α} (h : bC K k R H v xs) (ht : lV P t e k) (hi : idx xs i = some x) :
  ∃ b n es, K R x es ∧ aT R H b n es ∧ BR P t v i b n := by
 obtain ⟨h1, h2, h3⟩ := xC hi
 obtain ⟨A, cap, es, rfl, hE, _, hc⟩ := h
 obtain ⟨b, o, rfl, g2⟩ := hc (by rintro rfl; simp at h3)
 obtain ⟨e1, f1, f2, f3⟩ := hE.at_ _ _ h3
 refine ⟨b, o + i.toNat * k, e1, f1, λ j w hj => ?_, λ kd => ?_⟩
 ·have := g2 _ _ (f3 j w hj)
  simpa [Nat.add_assoc] using this
 ·have := U4 (P := P) (b := b) (m := o) (cap := cap) (kd := kd) ht (j := i.toNat) (len := xs.length) (by omega)
  rwa [Int.toNat_of_nonneg h1] at this
theorem az2 (a b : Nat × Obj) (l : au) : List.Perm (a :: b :: l) (b :: a :: l) := List.Perm.swap _ _ _
theorem Me (a : Nat × Obj) (B l : au) : List.Perm (a :: (B ++ l)) (B ++ (a :: l)) := List.perm_middle.symm
section
variable {P : Program} {B : Base} {main : Bool} {ag : Jd P B main} {c : Ctx} {R : aI} {H H' : au} {st st' : St} {o : Oper} {C : aI → au → St → Prop} {k : List Item}
theorem Ox.abm {α : Type} {K : b7 α} {k : Nat} {x : Operand} {t e : TypeId} {v : Value} {xs : List α} {H0 : au} (hop : o.op = .call ⟨.builtin .len, #[x], #[t]⟩) (hx : bk st x = some v) (hl : bC K k R H0 v xs) (ht : P.underlying t = some (.slice e))
  (hd : cj o.dst c.n) (hs : aK (bQ o.dst (.int .i64 (xs.length : Int)) st) st') (h : C R H st') : aR P B c o R H st C := by
 obtain ⟨A, cap, es, rfl, _⟩ := hl
 exact Ox.len hop hx ht hd hs h
theorem At.cut {it : Item} (E : aI → au → St → Prop) (h1 : ∀ R' H' st', E R' H' st' → At ag c R' H' st' k) (h2 : (∀ R' H' st', E R' H' st' → At ag c R' H' st' k) → At ag c R H st (it :: k)) : At ag c R H st (it :: k) := h2 h1
theorem Any.az9 {S : Nat → au} {ops : Array Oper} {n : Nat} {rem ra rb : List Nat} {i j : Nat} {a b : Oper} (ha : ops[i]? = some a) (hb : ops[j]? = some b) (hrd : rem.filter (kI ops rem) = [i, j]) (Gz : dP ops st a = some true) (GA : dP ops st b = some true) (cD : rem.Nodup) (RD : rem.erase i = ra) (hrb : rem.erase j = rb)
  (h1 : lS ag c a R H st λ R' H' st' => aN R R' ∧ (∀ p ∈ S i, p ∈ H → p ∈ H') ∧ Any ag c S ops k n ra R' H' st')
  (h2 : lS ag c b R H st λ R' H' st' => aN R R' ∧ (∀ p ∈ S j, p ∈ H → p ∈ H') ∧ Any ag c S ops k n rb R' H' st') : Any ag c S ops k (n + 1) rem R H st := by
 subst RD hrb
 refine ⟨cD, λ tmps ht => .inr ⟨(λ e => by rw [e] at hrd; cases hrd), λ _ x hx TJ => ?_⟩⟩
 have : x ∈ rem.filter (kI ops rem) := List.mem_filter.2 ⟨hx, TJ⟩
 rw [hrd] at this
 simp only [List.mem_cons, List.not_mem_nil, or_false] at this
 rcases this with rfl | rfl
 ·exact h1.C7 ha (lG ht Gz) ht
 ·exact h2.C7 hb (lG ht GA) ht
theorem Any.acG {S : Nat → au} {ops : Array Oper} {n : Nat} {rem ra rb rc : List Nat} {i j l : Nat} {a b d : Oper} (ha : ops[i]? = some a) (hb : ops[j]? = some b) (hd : ops[l]? = some d) (hrd : rem.filter (kI ops rem) = [i, j, l]) (Gz : dP ops st a = some true) (GA : dP ops st b = some true) (hwd : dP ops st d = some true) (cD : rem.Nodup) (RD : rem.erase i = ra) (hrb : rem.erase j = rb) (hrc : rem.erase l = rc)
  (h1 : lS ag c a R H st λ R' H' st' => aN R R' ∧ (∀ p ∈ S i, p ∈ H → p ∈ H') ∧ Any ag c S ops k n ra R' H' st')
  (h2 : lS ag c b R H st λ R' H' st' => aN R R' ∧ (∀ p ∈ S j, p ∈ H → p ∈ H') ∧ Any ag c S ops k n rb R' H' st')
  (h3 : lS ag c d R H st λ R' H' st' => aN R R' ∧ (∀ p ∈ S l, p ∈ H → p ∈ H') ∧ Any ag c S ops k n rc R' H' st') : Any ag c S ops k (n + 1) rem R H st := by
 subst RD hrb hrc
 refine ⟨cD, λ tmps ht => .inr ⟨(λ e => by rw [e] at hrd; cases hrd), λ _ x hx TJ => ?_⟩⟩
 have : x ∈ rem.filter (kI ops rem) := List.mem_filter.2 ⟨hx, TJ⟩
 rw [hrd] at this
 simp only [List.mem_cons, List.not_mem_nil, or_false] at this
 rcases this with rfl | rfl | rfl
 ·exact h1.C7 ha (lG ht Gz) ht
 ·exact h2.C7 hb (lG ht GA) ht
 ·exact h3.C7 hd (lG ht hwd) ht
end
end Go.Lg
namespace Go.Lg
open Go.Conc
section
variable {P : Program} {d : Nat} {xs ys : Array Value}
inductive Es (P : Program) (d : Nat) (xs ys : Array Value) : List Field → Bool → Prop
 | nil : Es P d xs ys [] true
 | cons {f : Field} {rest : List Field} {a b : Value} {r r' : Bool} : (f.name == "_") = false → av P (part f.type xs f.offset) a → av P (part f.type ys f.offset) b → av P (Op.equalIn d f.type a b) r → Es P d xs ys rest r' → Es P d xs ys (f :: rest) (r && r')
def abX (r : Bool) : Option Bool × Unit := (if r then none else some false, ())
theorem aAg {fs : List Field} {r : Bool} (h : Es P d xs ys fs r) :
  av P (forIn fs ((none : Option Bool), ()) λ f (_ : Option Bool × Unit) =>
      if f.name ≠ "_" then do
       let a ← part f.type xs f.offset
       let b ← part f.type ys f.offset
       let q ← Op.equalIn d f.type a b
       if (!q) = true then pure (ForInStep.done (some false, ())) else pure (ForInStep.yield (none, ()))
      else pure (ForInStep.yield (none, ()))) (abX r) := by
 induction h with
 | nil => rw [List.forIn_nil]; exact av.pure _
 | @cons f rest a b r r' hn ha hb hq _ ih =>
  have hn' : f.name ≠ "_" := by simpa using hn
  rw [List.forIn_cons]
  simp only [hn', ne_eq, not_false_iff, if_true, bind_assoc]
  refine av.bind ha (av.bind hb (av.bind hq ?_))
  cases r with
  | false => simp only [Bool.not_false, if_true, pure_bind, Bool.false_and]; exact av.pure _
  | true =>
   simp only [Bool.not_true, Bool.false_eq_true, if_false, pure_bind, Bool.true_and]
   simpa only [ne_eq] using ih
theorem U3 {t : TypeId} {fields : Array Field} {r : Bool} (hu : P.underlying t = some (.struct fields)) (hst : P.stoodInHeld t = false) (h : Es P d xs ys fields.toList r) : av P (Op.equalIn (d+1) t (.agg xs) (.agg ys)) r := by
 rw [Op.equalIn]
 refine av.bind (av.underlying hu) ?_
 dsimp only
 refine av.bind av.program ?_
 simp only [hst, Bool.false_eq_true, if_false]
 rw [← Array.forIn_toList]
 refine av.bind (aAg h) ?_
 cases r <;> exact av.pure _
theorem Dr {t : TypeId} {kd : IntKind} {a b : Int} (hu : P.underlying t = some (.int kd)) : av P (Op.equalIn (d+1) t (.int kd a) (.int kd b)) (a == b) := by
 rw [Op.equalIn]
 refine av.bind (av.underlying hu) ?_
 simp only [if_true]
 exact av.pure _
theorem Ic {t : TypeId} {a b : Bool} (hu : P.underlying t = some .bool) : av P (Op.equalIn (d+1) t (.bool a) (.bool b)) (a == b) := by
 rw [Op.equalIn]
 exact av.bind (av.underlying hu) (av.pure _)
inductive Er (P : Program) (d : Nat) (elem : TypeId) (n : Nat) (xs ys : Array Value) : List Nat → Bool → Prop
 | nil : Er P d elem n xs ys [] true
 | cons {i : Nat} {rest : List Nat} {a b : Value} {r r' : Bool} : av P (part elem xs (i * n)) a → av P (part elem ys (i * n)) b → av P (Op.equalIn d elem a b) r → Er P d elem n xs ys rest r' → Er P d elem n xs ys (i :: rest) (r && r')
theorem aAf {elem : TypeId} {n : Nat} {is : List Nat} {r : Bool} (h : Er P d elem n xs ys is r) :
  av P (forIn is ((none : Option Bool), ()) λ i (_ : Option Bool × Unit) => do
      let a ← part elem xs (i * n)
      let b ← part elem ys (i * n)
      let q ← Op.equalIn d elem a b
      if (!q) = true then pure (ForInStep.done (some false, ())) else pure (ForInStep.yield (none, ()))) (abX r) := by
 induction h with
 | nil => rw [List.forIn_nil]; exact av.pure _
 | @cons i rest a b r r' ha hb hq _ ih =>
  rw [List.forIn_cons]
  simp only [bind_assoc]
  refine av.bind ha (av.bind hb (av.bind hq ?_))
  cases r with
  | false => simp only [Bool.not_false, if_true, pure_bind, Bool.false_and]; exact av.pure _
  | true =>
   simp only [Bool.not_true, Bool.false_eq_true, if_false, pure_bind, Bool.true_and]
   exact ih
theorem aAd {n len : Nat} {t elem : TypeId} {r : Bool} (hu : P.underlying t = some (.array len elem)) (hs : av P (sizeOf elem) n) (h : Er P d elem n xs ys (List.range len) r) : av P (Op.equalIn (d+1) t (.agg xs) (.agg ys)) r := by
 rw [Op.equalIn]
 refine av.bind (av.underlying hu) ?_
 dsimp only
 refine av.bind hs ?_
 rw [Std.Legacy.Range.forIn_eq_forIn_range']
 simp only [Std.Legacy.Range.size, Nat.sub_zero, Nat.add_sub_cancel, Nat.div_one]
 rw [← List.range_eq_range']
 refine av.bind (aAf h) ?_
 cases r <;> exact av.pure _
end
end Go.Lg
namespace Go.Lg
open Go.Conc
def eX (s : ByteArray) : List Int := s.data.toList.map λ b => (b.toNat : Int)
def rq (s : ByteArray) (i : Int) : Option Int := idx (eX s) i
section
variable {P : Program} {B : Base} {main : Bool} {ag : Jd P B main} {c : Ctx} {R : aI} {H H' : au} {st st' : St} {o : Oper} {C : aI → au → St → Prop} {k : List Item}
theorem Ox.KZ {x y : Operand} {t : TypeId} {s : ByteArray} {kd : IntKind} {i z : Int} (hop : o.op = .index t x y) (hx : bk st x = some (.string s)) (hy : bk st y = some (.int kd i)) (ht : P.underlying t = some .string) (hz : rq s i = some z)
  (hd : cj o.dst c.n) (hs : aK (bQ o.dst (.int .u8 z) st) st') (h : C R H st') : aR P B c o R H st C :=
 Ox.val' (s := λ ρ => Instr.index t (ρ x) (ρ y)) (by rw [hop]; rfl) hd (λ ρ => by simp only [execOp, hop]) (λ ρ hρ => by
  rw [hρ x _ hx, hρ y _ hy]
  obtain ⟨h1, h2, h3⟩ := xC hz
  unfold eX at h3
  rw [List.getElem?_map] at h3
  obtain ⟨b, hb, rfl⟩ := Option.map_eq_some_iff.1 h3
  unfold Instr.index
  refine av.bind (a := (kd, i)) (av.pure _) (av.bind (av.underlying ht) ?_)
  have e : (if 0 ≤ i then s[i.toNat]? else none) = some b := by
   rw [if_pos h1]
   have hb' : s.data[i.toNat]? = some b := by simpa using hb
   rw [← hb']
   rfl
  simp only [e]
  exact av.pure _) hs h
def Wx (P : Program) (t : TypeId) (z : Array Value) : Prop := gF P t z ∧ ∃ n e m, P.underlying t = some (.array n e) ∧ av P (sizeOf e) m
theorem Ox.qj {t : TypeId} {z : Array Value} (hop : o.op = .build t #[]) (ht : Wx P t z)
  (hd : cj o.dst c.n) (hs : aK (bQ o.dst (.agg z) st) st') (h : C R H st') : aR P B c o R H st C :=
 Ox.val' (s := λ _ => Instr.build t #[]) (by rw [hop]; rfl) hd (λ ρ => by simp [execOp, hop]) (λ ρ hρ => by
  obtain ⟨⟨z0, hz, rfl⟩, n, e, m, h1, h2⟩ := ht
  unfold Instr.build
  exact av.bind hz (av.bind (av.underlying h1) (av.bind h2 (av.pure _)))) hs h
def N6 (P : Program) (t _ : Nat) (v : Value) (len l h : Int) (v' : Value) : Prop :=
 ∀ (ρ : Operand → Value) (st : St) (x : Operand) (lo hi : Option Operand), Knows st ρ → ρ x = v → G3 st lo = some l → FL st len.toNat hi = some h → av P (Instr.sliceAt t (ρ x) (lo.map ρ) (hi.map ρ) none) v'
theorem bC.cut {α : Type} {K : b7 α} {k t e : Nat} {xs ys : List α} {v : Value} {l h : Int} {H0 : au} (hS : bC K k R H0 v xs) (ht : lV P t e k) (hc : mX xs l h = some ys) : ∃ v', bC K k R H0 v' ys ∧ N6 P t k v (xs.length : Int) l h v' := by
 obtain ⟨h1, h2, h3, rfl⟩ := YC hc
 obtain ⟨A, cap, es, rfl, hE, hcap, hm⟩ := hS
 refine ⟨(.slice (if cap = l.toNat then A else A.map (·.add (l.toNat * k))) (h.toNat - l.toNat) (cap - l.toNat)), ?_, ?_⟩
 ·have zJ : ((xs.take h.toNat).drop l.toNat).length = h.toNat - l.toNat := by
   simp only [List.length_drop, List.length_take]
   omega
  refine ⟨(if cap = l.toNat then A else A.map (·.add (l.toNat * k))), cap - l.toNat, (es.take (h.toNat * k)).drop (l.toNat * k), by rw [zJ], hE.take.drop, by rw [zJ]; omega, λ hne => ?_⟩
  have hlt : l.toNat < h.toNat := by
   apply Classical.byContradiction
   intro hn
   apply hne
   apply List.eq_nil_of_length_eq_zero
   simp only [List.length_drop, List.length_take]
   omega
  obtain ⟨b, o', rfl, g2⟩ := hm (by rintro rfl; simp at h3; omega)
  refine ⟨b, o' + l.toNat * k, ?_, λ j w hj => ?_⟩
  ·rw [if_neg (by omega)]; simp [r3]
  ·rw [List.getElem?_drop, List.getElem?_take] at hj
   split at hj
   ·have := g2 _ _ hj
    simpa [Nat.add_assoc] using this
   ·cases hj
 ·intro ρ st x lo hi hρ hx hl hh
  rw [Int.toNat_natCast] at hh
  rw [hx]
  unfold Instr.sliceAt
  refine av.bind (av.underlying ht.1) ?_
  unfold Instr.slice
  refine av.bind (av.underlying ht.1) (av.bind (acL hρ hl hh ⟨h1, h2, h3⟩ hcap) (av.bind ht.2 (av.pure _)))
theorem aj.cut {α : Type} {K : b7 α} {k t e : Nat} {xs ys : List α} {v : Value} {l h : Int} (hS : aj K k R v xs) (ht : lV P t e k) (hc : mX xs l h = some ys) : ∃ v', aj K k R v' ys ∧ N6 P t k v (xs.length : Int) l h v' := by
 obtain ⟨h1, h2, h3, rfl⟩ := YC hc
 obtain ⟨A, cap, es, rfl, hE, hcap, hm⟩ := hS
 refine ⟨(.slice (if cap = l.toNat then A else A.map (·.add (l.toNat * k))) (h.toNat - l.toNat) (cap - l.toNat)), ?_, ?_⟩
 ·have zJ : ((xs.take h.toNat).drop l.toNat).length = h.toNat - l.toNat := by
   simp only [List.length_drop, List.length_take]
   omega
  refine ⟨(if cap = l.toNat then A else A.map (·.add (l.toNat * k))), cap - l.toNat, (es.take (h.toNat * k)).drop (l.toNat * k), by rw [zJ], hE.take.drop, by rw [zJ]; omega, λ hne => ?_⟩
  have hlt : l.toNat < h.toNat := by
   apply Classical.byContradiction
   intro hn
   apply hne
   apply List.eq_nil_of_length_eq_zero
   simp only [List.length_drop, List.length_take]
   omega
  obtain ⟨b, o', arr, e', fz, rfl, g2, g3⟩ := hm (by rintro rfl; simp at h3; omega)
  refine ⟨b, o' + l.toNat * k, arr, e', fz, ?_, g2, λ j w hj => ?_⟩
  ·rw [if_neg (by omega)]; simp [r3]
  ·rw [List.getElem?_drop, List.getElem?_take] at hj
   split at hj
   ·have := g3 _ _ hj
    simpa [Nat.add_assoc] using this
   ·cases hj
 ·intro ρ st x lo hi hρ hx hl hh
  rw [Int.toNat_natCast] at hh
  rw [hx]
  unfold Instr.sliceAt
  refine av.bind (av.underlying ht.1) ?_
  unfold Instr.slice
  refine av.bind (av.underlying ht.1) (av.bind (acL hρ hl hh ⟨h1, h2, h3⟩ hcap) (av.bind ht.2 (av.pure _)))
theorem Ox.wM {x : Operand} {t k : Nat} {lo hi : Option Operand} {v v' : Value} {len l h : Int} (hop : o.op = .slice t x lo hi none) (hx : bk st x = some v) (hl : G3 st lo = some l) (hh : FL st len.toNat hi = some h) (hc : N6 P t k v len l h v') (hd : cj o.dst c.n)
  (hs : aK (bQ o.dst v' st) st') (hC : C R H st') : aR P B c o R H st C :=
 Ox.val' (s := λ ρ => Instr.sliceAt t (ρ x) (lo.map ρ) (hi.map ρ) none) (by rw [hop]; rfl) hd (λ ρ => by simp only [execOp, hop]; rfl) (λ ρ hρ => hc ρ st x lo hi hρ (hρ x _ hx) hl hh) hs hC
theorem aZ.E5 {α : Type} {K : b7 α} {k t e : Nat} {v : Value} {xs : List α} {Hs : au} {i : Int} {x : α} (h : aZ K k e R v xs Hs) (ht : lV P t e k) (hi : idx xs i = some x) :
  ∃ b cs es, K R x es ∧ Hs = [(b, .cells cs e (0, 0))] ∧ aT R Hs b (i.toNat * k) es ∧ (∀ (j : Nat) (w : Value), es[j]? = some w → cs[i.toNat * k + j]? = some w) ∧ BR P t v i b (i.toNat * k) ∧ es.length = k ∧ i.toNat * k + k ≤ cs.size ∧
   ∀ x' es', K R x' es' → es'.length = k → aZ K k e R v (xs.set i.toNat x') [(b, .cells (eV cs (i.toNat * k) es') e (0, 0))] := by
 obtain ⟨h1, h2, h3⟩ := xC hi
 rcases h with ⟨A, rfl, rfl, rfl⟩ | ⟨b, cap, cs, es, rfl, rfl, g3, g4, g5, g6⟩
 ·simp at h3
 obtain ⟨e1, f1, f2, f3⟩ := g5.at_ _ _ h3
 have hlt : i.toNat < xs.length := (List.getElem?_eq_some_iff.1 h3).1
 have hsz : i.toNat * k + k ≤ xs.length * k := by
  calc i.toNat * k + k = (i.toNat + 1) * k := by rw [Nat.add_mul, Nat.one_mul]
   _ ≤ xs.length * k := Nat.mul_le_mul_right k hlt
 have hcs : xs.length * k ≤ cs.size := by rw [g3]; exact Nat.mul_le_mul_right k g4
 refine ⟨b, cs, e1, f1, rfl, λ j w hj => ⟨rfl, cs, e, (0, 0), .inr (by simp), g6 _ _ (f3 j w hj)⟩, λ j w hj => g6 _ _ (f3 j w hj), λ kd => ?_, f2, by omega, λ x' es' hx' hl' => ?_⟩
 ·have := U4 (P := P) (b := b) (m := 0) (cap := cap) (kd := kd) ht (j := i.toNat) (len := xs.length) hlt
  rw [Int.toNat_of_nonneg h1] at this
  simpa using this
 ·refine .inr ⟨b, cap, _, (es.take (i.toNat * k)) ++ (es' ++ es.drop (i.toNat * k + k)), by rw [List.length_set], rfl, by rw [L3]; exact g3, by rw [List.length_set]; exact g4, ?_, ?_⟩
  ·have kC := g5.len
   refine ⟨?_, λ j y hy => ?_⟩
   ·simp only [List.length_append, List.length_take, List.length_drop, List.length_set, hl', kC]
    omega
   ·rw [List.getElem?_set] at hy
    split at hy
    ·rename_i hji
     subst hji
     cases hy
     refine ⟨es', hx', hl', λ a w hw => ?_⟩
     have ha := (List.getElem?_eq_some_iff.1 hw).1
     rw [List.getElem?_append_right (by simp only [List.length_take]; omega)]
     simp only [List.length_take, kC]
     rw [show i.toNat * k + a - min (i.toNat * k) (xs.length * k) = a by omega, List.getElem?_append_left ha]
     exact hw
    ·rename_i hji
     obtain ⟨e2, q1, q2, q3⟩ := g5.at_ _ _ hy
     refine ⟨e2, q1, q2, λ a w hw => ?_⟩
     have ha := (List.getElem?_eq_some_iff.1 hw).1
     rw [q2] at ha
     have hold := q3 a w hw
     rcases Nat.lt_or_ge j i.toNat with hlt' | hge
     ·have : j * k + k ≤ i.toNat * k := by
       calc j * k + k = (j + 1) * k := by rw [Nat.add_mul, Nat.one_mul]
        _ ≤ i.toNat * k := Nat.mul_le_mul_right k hlt'
      rw [List.getElem?_append_left (by simp only [List.length_take, kC]; omega), List.getElem?_take, if_pos (by omega)]
      exact hold
     ·have : i.toNat * k + k ≤ j * k := by
       calc i.toNat * k + k = (i.toNat + 1) * k := by rw [Nat.add_mul, Nat.one_mul]
        _ ≤ j * k := Nat.mul_le_mul_right k (by omega)
      rw [List.getElem?_append_right (by simp only [List.length_take]; omega), List.getElem?_append_right (by simp only [List.length_take, kC, hl']; omega), List.getElem?_drop]
      simp only [List.length_take, kC, hl']
      rw [show i.toNat * k + k + (j * k + a - min (i.toNat * k) (xs.length * k) - k) = j * k + a by omega]
      exact hold
  ·intro j w hj
   have kC := g5.len
   rw [Dh es' cs (i.toNat * k) j (by rw [hl']; omega)]
   rw [List.getElem?_append] at hj
   simp only [List.length_take, kC] at hj
   split at hj
   ·rename_i hlt'
    rw [List.getElem?_take] at hj
    split at hj
    ·rw [if_neg (by omega)]
     exact g6 _ _ hj
    ·cases hj
   ·rw [List.getElem?_append] at hj
    split at hj
    ·rename_i h5 h6
     rw [if_pos (by omega), ← hj]
     congr 1
     omega
    ·rename_i h5 h6
     rw [hl'] at h6
     rw [if_neg (by rw [hl']; omega)]
     rw [List.getElem?_drop, hl'] at hj
     have := g6 _ _ hj
     rwa [show i.toNat * k + k + (j - min (i.toNat * k) (xs.length * k) - k) = j by omega] at this
theorem UE : ∀ (vs ws : List Value) (cs : Array Value) (o : Nat), eV cs o (vs ++ ws) = eV (eV cs o vs) (o + vs.length) ws
 | [], ws, cs, o => by simp [eV]
 | v :: vs, ws, cs, o => by
  simp only [List.cons_append, eV, List.length_cons]
  rw [UE vs ws]
  congr 1
  omega
theorem UF : ∀ (vs : List Value) (cs : Array Value) (o : Nat), (∀ j w, vs[j]? = some w → cs[o + j]? = some w) → eV cs o vs = cs
 | [], cs, o, _ => rfl
 | v :: vs, cs, o, h => by
  have h0 : cs[o]? = some v := h 0 v rfl
  have hlt := (Array.getElem?_eq_some_iff.1 h0).1
  have e : cs.setIfInBounds o v = cs := by
   apply Array.ext_getElem?
   intro j
   by_cases hj : o = j
   ·subst hj; rw [Array.getElem?_setIfInBounds_self_of_lt hlt, h0]
   ·rw [Array.getElem?_setIfInBounds_ne hj]
  simp only [eV, e]
  exact UF vs cs (o + 1) λ j w hj => by
   have := h (j + 1) w (by simpa using hj)
   rwa [show o + (j + 1) = o + 1 + j by omega] at this
theorem Ox.HL {α : Type} {K : b7 α} {k e t b j n : Nat} {x y : Operand} {G : au → au} {v w : Value} {xs : List α} {i : Int} {x' : α} {cs : Array Value} {pre mid post vs : List Value} (hG : gh G)
  (hop : o.op = .store t x y) (hx : bk st x = some (.pointer (some ⟨b, i.toNat * k + j, none⟩))) (hy : bk st y = some w) (hw : w.cells.toList = vs) (ht : av P (sizeOf t) n) (hn : vs.length = n) (h1 : ∀ u ∈ vs, u.oneCell' = true)
  (hc : ∀ (j : Nat) (w : Value), (pre ++ (mid ++ post))[j]? = some w → cs[i.toNat * k + j]? = some w) (hj : pre.length = j) (hm : mid.length = n) (hk : (pre ++ (mid ++ post)).length = k) (hsz : i.toNat * k + k ≤ cs.size)
  (hO : ∀ x' es', K R x' es' → es'.length = k → aZ K k e R v (xs.set i.toNat x') [(b, .cells (eV cs (i.toNat * k) es') e (0, 0))]) (hK : K R x' (pre ++ (vs ++ post)))
  (hd : o.dst = none) (hsub : aK st st') (h : ∀ cH, aZ K k e R v (xs.set i.toNat x') cH → C R (G cH) st') : aR P B c o R (G [(b, .cells cs e (0, 0))]) st C := by
 have hput : eV cs (i.toNat * k + j) vs = eV cs (i.toNat * k) (pre ++ (vs ++ post)) := by
  rw [UE, UF pre cs _ (λ a u ha => hc a u (by rw [List.getElem?_append_left (List.getElem?_eq_some_iff.1 ha).1]; exact ha)), UE, hj, hn]
  rw [UF post]
  intro a u ha
  have h2 := hc (j + n + a) u (by
   rw [List.getElem?_append_right (by omega), List.getElem?_append_right (by omega)]
   rw [show j + n + a - pre.length - mid.length = a by omega]
   exact ha)
  have hlt := (Array.getElem?_eq_some_iff.1 h2).1
  rw [Dh vs cs (i.toNat * k + j) _ (by rw [hn]; have := hk; simp only [List.length_append] at this; omega), if_neg (by omega)]
  rwa [show i.toNat * k + (j + n + a) = i.toNat * k + j + n + a by omega] at h2
 have hlen : (pre ++ (vs ++ post)).length = k := by
  simp only [List.length_append] at hk ⊢
  omega
 have Kb := hO x' _ hK hlen
 rw [← hput] at Kb
 refine Ox.Hz (s := λ ρ => Instr.storeAt t (ρ x) (ρ y)) (by rw [hop]; rfl) hd (λ ρ => by simp only [execOp, hop]) hsub (λ ρ hρ => ?_)
 rw [hρ x _ hx, hρ y _ hy]
 simp only [Instr.storeAt, Instr.sureAddr]
 refine av.cz (av.pure _) ?_
 have arL : w.cells.size = n := by rw [← hn, ← hw]; simp
 refine aM.storeVar (cs := cs) (e := e) ht arL (by rw [hw]; exact h1) (by simp only [List.length_append] at hk; omega) ?_ (h _ Kb)
 rw [hw]
 exact hG.set
theorem aM.akh {b n off : Nat} {cs : Array Value} {e : TypeId} {fz : Nat × Nat} {K : Unit → aI → au → Prop} (hk : ∀ wS, K () R ((b, .cells cs e wS) :: H)) : aM P B R ((b, .cells cs e fz) :: H) (Go.freeze ⟨b, off, none⟩ n) K := by
 intro w hw
 have hb : w.heap[b]? = some (.cells cs e fz) := hw.h _ _ (by simp)
 have hrun : (Go.freeze ⟨b, off, none⟩ n).run P w = .ok () (w.freeze ⟨b, off, none⟩ n) := rfl
 have hev : (Go.freeze ⟨b, off, none⟩ n).events P w #[] = #[] := rfl
 by_cases hn : n = 0
 ·refine ⟨(), w, R, (b, .cells cs e fz) :: H, by rw [hrun]; simp [World.freeze, hn], by rw [hev]; simp, dF.refl hw, hk fz⟩
 ·obtain ⟨lo, hi⟩ := fz
  have hw' : w.freeze ⟨b, off, none⟩ n = { w with heap := w.heap.setIfInBounds b (.cells cs e (if lo == hi then (off, off + n) else (min lo off, max hi (off + n)))) } := by
   simp only [World.freeze, hn, if_false]
   congr 1
   apply Array.ext_getElem?
   intro i
   rw [Array.getElem?_modify]
   by_cases hi' : b = i
   ·subst hi'
    rw [Array.getElem?_setIfInBounds_self_of_lt (gy hb), hb]
    simp
   ·simp [hi', Array.getElem?_setIfInBounds_ne hi']
  refine ⟨(), _, R, _, hrun, by rw [hev]; simp, ?_, hk (if lo == hi then (off, off + n) else (min lo off, max hi (off + n)))⟩
  rw [hw']
  exact hw.zY .here
theorem Ox.azY {x : Operand} {t u e : TypeId} {s : ByteArray} (hop : o.op = .convert t u x) (hx : bk st x = some (.string s)) (ht : P.underlying t = some .string) (hu : P.underlying u = some (.slice e)) (he : P.underlying e = some (.int .u8))
  (hd : cj o.dst c.n) (hC : ∀ v Hs, bC (CI .u8) 1 R (Hs ++ H) v (eX s) → ∃ st', aK (bQ o.dst v st) st' ∧ C R (Hs ++ H) st') : aR P B c o R H st C :=
 Ox.mem (s := λ ρ => convert t u (ρ x)) (by rw [hop]; rfl) hd (λ ρ => by simp only [execOp, hop]) (λ ρ hρ => by
  rw [hρ x _ hx]
  unfold convert
  refine av.cz (av.underlying ht) (av.cz (av.underlying hu) ?_)
  dsimp only
  refine av.cz (av.underlying he) ?_
  dsimp only
  unfold Conv.stringToBytes
  refine aM.bind (aM.choose λ t' => ?_)
  generalize hcap : (if (Question.appendCap s.size 0 e).forced then 0 else (Question.appendCap s.size 0 e).cut t') = cap
  have hge : s.size ≤ cap := by
   rw [← hcap]
   simp [Question.forced, Question.cut]
  refine aM.bind ?_
  simp only [newRow]
  refine aM.bind (aM.new λ b h1 h2 => aM.pure ?_)
  refine aM.bind ?_
  unfold markStringish
  have fin : ∀ wS, ∃ st', aK (bQ o.dst (.slice (some ⟨b, 0, none⟩) s.size cap) st) st' ∧ C R ((b, .cells ((s.data.map λ b => Value.int .u8 b.toNat) ++ Array.replicate (cap - s.size) (.int .u8 0)) e wS) :: H) st' := λ wS => by
   refine hC (.slice (some ⟨b, 0, none⟩) s.size cap) [(b, .cells ((s.data.map λ b => Value.int .u8 b.toNat) ++ Array.replicate (cap - s.size) (.int .u8 0)) e wS)] ⟨some ⟨b, 0, none⟩, cap, (eX s).map (Value.int .u8), by simp [eX], ?_, by simpa [eX] using hge, λ _ => ⟨b, 0, rfl, λ j w hj => ⟨rfl, _, e, wS, .inr (List.mem_cons_self ..), ?_⟩⟩⟩
   ·refine ⟨by simp, λ i y hy => ⟨[.int .u8 y], rfl, rfl, λ j w hj => ?_⟩⟩
    cases j with
    | zero => cases hj; simp [hy]
    | succ j => simp at hj
   ·have hlt := (List.getElem?_eq_some_iff.1 hj).1
    simp only [List.length_map, eX, Array.length_toList] at hlt
    simp only [Nat.zero_add]
    rw [Array.getElem?_append_left (by simpa using hlt)]
    rw [List.getElem?_map] at hj
    obtain ⟨z, hz, rfl⟩ := Option.map_eq_some_iff.1 hj
    unfold eX at hz
    rw [List.getElem?_map] at hz
    obtain ⟨q, hq, rfl⟩ := Option.map_eq_some_iff.1 hz
    rw [Array.getElem?_map]
    rw [Array.getElem?_toList] at hq
    rw [hq]
    rfl
  refine aM.bind (aM.shape λ y => ?_)
  cases y with
  | none => exact aM.pure (aM.pure (fin _))
  | some y =>
   obtain ⟨y1, y2⟩ := y
   exact aM.akh λ wS => aM.pure (fin wS))
def fT {α : Type} (xs ys : List α) : List α := ys.take xs.length ++ xs.drop ys.length
theorem B5 {α : Type} {xs ys : List α} {n : Nat} (h : xs.length = n) : (fT xs ys).length = n := by
 simp only [fT, List.length_append, List.length_take, List.length_drop]; omega
theorem Ox.azz {x : Operand} {t len e n b off : Nat} (hop : o.op = .slice t x none none none) (hx : bk st x = some (.pointer (some ⟨b, off, none⟩))) (ht : wv P t len e n)
  (hd : cj o.dst c.n) (hs : aK (bQ o.dst (.slice (some ⟨b, off, none⟩) len len) st) st') (h : C R H st') : aR P B c o R H st C :=
 Ox.val' (s := λ ρ => Instr.sliceAt t (ρ x) none none none) (by rw [hop]; rfl) hd (λ ρ => by simp only [execOp, hop]; rfl) (λ ρ hρ => by
  rw [hρ x _ hx]
  unfold Instr.sliceAt
  refine av.bind (av.underlying ht.1) ?_
  dsimp only
  unfold Instr.sliceBounds
  refine av.bind (a := (⟨b, off, none⟩ : Addr)) (av.pure _) (av.bind (a := ((0 : Nat), len, len)) (av.bind (a := len) (av.pure _) (av.bind (a := len) (av.pure _) (av.bind (a := (0 : Nat)) (av.pure _) (av.pure _)))) (av.bind ht.2 ?_))
  dsimp only
  rw [Nat.zero_mul, r3]
  simp only [Nat.add_zero, ite_self, Nat.sub_zero]
  exact av.pure _) hs h
theorem Ox.ah2 {x y : Operand} {t e t2 b off n T : Nat} {dx : TypeDesc} {v : Value} {xs ys : List Int} {pre post : List Value} (hop : o.op = .call ⟨.builtin .copy, #[x, y], #[t, t2]⟩) (hx : bk st x = some (.slice (some ⟨b, off, none⟩) n n)) (hy : bk st y = some v) (ht : lV P t e 1) (_ : P.underlying t2 = some dx)
  (hR : bC (CI .i64) 1 R H v ys) (hl : xs.length = n) (hs : dN H b (.cells ((pre ++ (xs.map (Value.int .i64) ++ post)).toArray) T (0, 0)) (.cells ((pre ++ ((fT xs ys).map (Value.int .i64) ++ post)).toArray) T (0, 0)) H') (hpre : pre.length = off)
  (hd : cj o.dst c.n) (hsub : aK (bQ o.dst (goInt (Nat.min ys.length n)) st) st') (h : C R H' st') : aR P B c o R H st C := by
 refine ⟨by rw [hop]; rfl, hd, λ ρ hρ => ?_⟩
 simp only [execOp, hop]
 refine av.cz (a := ⟨.builtin .copy #[t, t2] o.type (#[x, y].map λ | .const _ => true | _ => false), #[x, y].map ρ⟩) (av.pure _) ?_
 simp only [invoke, builtin]
 have e1 : (#[x, y].map ρ) = #[.slice (some ⟨b, off, none⟩) n n, v] := by simp [hρ x _ hx, hρ y _ hy]
 rw [e1]
 obtain ⟨A, cap, es, rfl, hE, hcap, hm⟩ := hR
 have hes : es = ys.map (Value.int .i64) := by
  apply List.ext_getElem?
  intro j
  rw [List.getElem?_map]
  rcases Nat.lt_or_ge j ys.length with hj | hj
  ·obtain ⟨q, hq1, hq2, hq3⟩ := hE.at_ j _ (List.getElem?_eq_getElem hj)
   have apv : q = [.int .i64 ys[j]] := hq1
   subst apv
   have := hq3 0 _ rfl
   rw [Nat.mul_one, Nat.add_zero] at this
   rw [this, List.getElem?_eq_getElem hj]
   rfl
  ·rw [List.getElem?_eq_none (by rw [hE.len]; omega), List.getElem?_eq_none hj]
   rfl
 subst hes
 have hput : eV ((pre ++ (xs.map (Value.int .i64) ++ post)).toArray) off ((ys.map (Value.int .i64)).take n) = (pre ++ ((fT xs ys).map (Value.int .i64) ++ post)).toArray := by
  subst hpre
  apply Array.ext_getElem?
  intro j
  rw [Dh _ _ _ _ (by simp; omega)]
  simp only [List.length_take, List.length_map, fT, List.map_append, List.map_take, List.map_drop, List.getElem?_toArray, hl]
  by_cases h1 : pre.length ≤ j ∧ j < pre.length + Min.min n ys.length
  ·rw [if_pos h1, List.getElem?_append_right h1.1, List.getElem?_append_left (by simp; omega), List.getElem?_append_left (by simp; omega)]
  ·rw [if_neg h1]
   rcases Nat.lt_or_ge j pre.length with h2 | h2
   ·rw [List.getElem?_append_left h2, List.getElem?_append_left h2]
   ·rw [List.getElem?_append_right h2, List.getElem?_append_right h2]
    rcases Nat.lt_or_ge (j - pre.length) n with h3 | h3
    ·rw [List.getElem?_append_left (by simp; omega), List.getElem?_append_left (by simp; omega), List.getElem?_append_right (by simp; omega), List.getElem?_drop]
     simp only [List.length_take, List.length_map]
     congr 1
     omega
    ·rw [List.getElem?_append_right (by simp; omega), List.getElem?_append_right (by simp; omega)]
     simp only [List.length_append, List.length_take, List.length_map, List.length_drop]
     congr 1
     omega
 have fin : ∀ K : Unit → aI → au → Prop, K () R H' → aM P B R H (storeCells ⟨b, off, none⟩ ((ys.map (Value.int .i64)).take n)) K := λ K hK => by
  refine aM.given λ cD => aM.Ma _ ((pre ++ (xs.map (Value.int .i64) ++ post)).toArray) off 0 H H' (λ u hu => ?_) (by subst hpre; simp; omega) (by rw [Nat.add_zero, hput]; exact hs) cD hK
  obtain ⟨z, _, rfl⟩ := List.mem_map.1 (List.mem_of_mem_take hu)
  rfl
 refine aM.bind ?_
 unfold Builtin.copy_
 refine av.cz (av.underlying ht.1) ?_
 dsimp only
 refine av.cz (a := ys.length) (av.pure _) (av.cz ht.2 ?_)
 have last : aM P B R H (do storeCells ⟨b, off, none⟩ ((ys.map (Value.int .i64)).take n); pure (goInt (Nat.min ys.length n))) λ a R' H' => aM P B R' H' (pure (Next.value a)) λ nx R' H' => ∃ v, (nx = .value v ∨ (nx = .skip ∧ v = undef)) ∧ ∃ st', aK (bQ o.dst v st) st' ∧ C R' H' st' :=
  aM.bind (fin _ (aM.pure (aM.pure ⟨_, .inl rfl, st', hsub, h⟩)))
 have asL : (ys.map (Value.int .i64)).take n = (ys.map (Value.int .i64)).take (Nat.min ys.length n * 1) := by
  rw [Nat.mul_one]
  rcases Nat.le_total ys.length n with h1 | h1
  ·rw [show Nat.min ys.length n = ys.length from Nat.min_eq_left h1, List.take_of_length_le (by simpa using h1), List.take_of_length_le (by simp)]
  ·rw [show Nat.min ys.length n = n from Nat.min_eq_right h1]
 cases A with
 | none =>
  have qM : ys = [] := by
   apply Classical.byContradiction
   intro hn
   obtain ⟨b', o', h1, _⟩ := hm hn
   cases h1
  subst qM
  simp only [Builtin.firstCells]
  refine av.cz (a := #[]) (av.pure _) ?_
  simpa using last
 | some A =>
  have hcells : aT R H A.block A.off ((ys.map (Value.int .i64)).take n) ∧ (ys ≠ [] → A = ⟨A.block, A.off, none⟩) := by
   by_cases hn : ys = []
   ·subst hn; exact ⟨λ j u hj => by simp at hj, λ h => absurd rfl h⟩
   ·obtain ⟨b', o', h1, h2⟩ := hm hn
    cases h1
    refine ⟨λ j u hj => ?_, λ _ => rfl⟩
    rw [List.getElem?_take] at hj
    split at hj
    ·exact h2 j u hj
    ·cases hj
  simp only [Builtin.firstCells, loadCells]
  by_cases hn : ys = []
  ·subst hn
   simp only [List.length_nil, Nat.zero_mul, show Nat.min 0 n = 0 from Nat.zero_min n]
   refine av.cz (a := #[]) (av.pure _) ?_
   simpa using last
  ·rw [hcells.2 hn]
   have zJ : ((ys.map (Value.int .i64)).take n).length = Nat.min ys.length n * 1 := by rw [asL]; simp [Nat.min_le_left]
   refine aM.bind ?_
   rw [← zJ]
   refine aM.loadCellsFrom _ 0 #[] (by simpa using hcells.1) ?_
   simpa using last
end
end Go.Lg
namespace Go.Lg
open Go.Conc
section
variable {P : Program} {B : Base} {main : Bool} {ag : Jd P B main} {c : Ctx} {R : aI} {H : au} {st : St} {k : List Item}
theorem aM.getLoop {l : Nat} {r : Loop} {K : Loop → aI → au → Prop} (h : (l, Obj.loop r) ∈ H) (hk : K r R H) : aM P B R H (Instr.getLoop l) K := by
 unfold Instr.getLoop
 exact aM.bind (aM.getObj rfl (.inr h) (aM.pure hk))
theorem dN.at_ {b : Nat} {o o' : Obj} {T : au} : ∀ {Hs : au}, dN (Hs ++ (b, o) :: T) b o o' (Hs ++ (b, o') :: T)
 | [] => .here
 | _ :: _ => .there dN.at_
def ER (ag : Jd P B main) (v : Value) (args : Array Value) (R : aI) (H : au) (Post : Value → aI → au → Prop) : Prop :=
 ∃ l r, v = .func (.yield l) #[] #[] ∧ (l, Obj.loop r) ∈ H ∧ r.params.size = args.size ∧
  ∀ fr cs, (∀ w R' H', Post w R' H' → ag.J R' H' (br (fr.finish w) cs)) →
   ag.J R H (br (Frame.round l r.fn ((r.params.zip args).foldl (λ tmps (t, a) => tmps.setIfInBounds t a) r.tmps) r.assign r.body .normal) (fr :: cs))
theorem ER.mono {v : Value} {args : Array Value} {Post Post' : Value → aI → au → Prop} (h : ER ag v args R H Post) (hp : ∀ w R' H', Post w R' H' → Post' w R' H') : ER ag v args R H Post' := by
 obtain ⟨l, r, h1, h2, h3, h4⟩ := h
 exact ⟨l, r, h1, h2, h3, λ fr cs hk => h4 fr cs λ w R' H' hw => hk w R' H' (hp _ _ _ hw)⟩
theorem ahy {fr : Frame} {cs : List Frame} {s : Sem Next} {w w' : World} {l : Nat} {f : FuncId} {tmps : Array Value} {assign body : Code} (hk : fr.kind ≠ .early) (hr : s.run P w = .ok (.round l f tmps assign body) w') :
  stepG.apply P true fr cs none s w = .go (br (Frame.round l f tmps assign body .normal) (fr :: cs)) w' (seen P fr.fn (s.events P w #[])) := by
 have hk' : (fr.kind == CallKind.early) = false := by simpa using hk
 simp [stepG.apply, hr, br, hk', GStep.after]
theorem At.US {ops : Array Oper} {i : Nat} {rest : List Nat} {o : Oper} {ca : Call} {x : Operand} {v : Value} {vs : List Value} (ho : ops[i]? = some o) (hw : dP ops st o = some true) (hk : (c.kind == CallKind.early) = false)
  (hop : o.op = .call ca) (hc : ca.callee = .value x) (hx : bk st x = some v) (ha : qf st ca.args.toList = some vs) (kB : cj o.dst c.n)
  (h : ER ag v vs.toArray R H λ w R' H' => ∃ st', aK (bQ o.dst w st) st' ∧ At ag c R' H' st' (.inRegion ops rest :: k)) :
  At ag c R H st (.inRegion ops (i :: rest) :: k) := by
 intro tmps ht
 obtain ⟨l, r, rfl, hl, hsz, hj⟩ := h
 have hkn := ht.knows c (.inRegion ops (i :: rest) :: k)
 have hd : lq o.op = false := by rw [hop]; rfl
 have hs : aM P B R H (execOp (bl c tmps (.inRegion ops (i :: rest) :: k)).eval o) λ nx R' H' => nx = .round l r.fn ((r.params.zip vs.toArray).foldl (λ tmps (t, a) => tmps.setIfInBounds t a) r.tmps) r.assign r.body ∧ R' = R ∧ H' = H := by
  simp only [execOp, hop, resolve, hc, hkn x _ hx, Deferred.ofValue]
  have e : ca.args.map (bl c tmps (.inRegion ops (i :: rest) :: k)).eval = vs.toArray := by apply Array.ext'; simpa using EW hkn _ _ ha
  refine av.cz (a := ⟨.fn (.yield l) #[], #[] ++ vs.toArray⟩) (by rw [e]; exact av.pure _) ?_
  simp only [invoke, Instr.yield]
  refine aM.bind (aM.getLoop hl ?_)
  simp only [Array.empty_append, hsz, ne_eq, not_true_eq_false, if_false]
  exact aM.pure ⟨rfl, rfl, rfl⟩
 refine ag.step rfl λ w hwf => ?_
 obtain ⟨nx, w', R', H', h1, h2, h3, rfl, rfl, rfl⟩ := hs w hwf
 refine ⟨_, w', seen P c.fn ((execOp (bl c tmps (.inRegion ops (i :: rest) :: k)).eval o).events P w #[]), R', H', ?_, λ e he => h2 e (mem_seen he), h3, hj (bl c tmps (.inRegion ops (i :: rest) :: k)) c.cs λ u bN ct hp => ?_⟩
 ·rw [vt ho (lG ht hw) hd]
  exact ahy (by simpa [bl] using hk) h1
 ·obtain ⟨st', hs', hat⟩ := hp
  rw [sw ho]
  exact hat _ ((ht.put u kB).sub hs')
structure iq (ag : Jd P B main) (R : aI) {α S : Type} (A : jS α) (v : Value) (y : α → S → Option (S × Bool)) (Inv : S → aI → au → Prop) : Prop where
 fn : ∃ l, v = .func (.yield l) #[] #[]
 mono : ∀ {s : S} {R1 R2 : aI} {Hy : au}, aN R R1 → aN R1 R2 → Inv s R1 Hy → Inv s R2 Hy
 call : ∀ (Hf : au) {R' : aI} {Hy : au} {s : S} {x : α} {va : Value} {z : S × Bool}, aN R R' → Inv s R' Hy → A R' x va → y x s = some z →
  ER ag v #[va] R' (Hf ++ Hy) λ w bN ct => aN R' bN ∧ w = .bool z.2 ∧ ∃ EI, Inv z.1 bN EI ∧ ct = Hf ++ EI
theorem iq.up {R' : aI} {α S : Type} {A : jS α} {v : Value} {y : α → S → Option (S × Bool)} {Inv : S → aI → au → Prop} (h : iq ag R A v y Inv) (hR : aN R R') : iq ag R' A v y Inv :=
 ⟨h.fn, λ h1 h2 => h.mono (hR.trans h1) h2, λ Hf => λ h1 => h.call Hf (hR.trans h1)⟩
theorem iq.cells {α S : Type} {A : jS α} {v : Value} {y : α → S → Option (S × Bool)} {Inv : S → aI → au → Prop} (h : iq ag R A v y Inv) : v.cells = #[v] := by
 obtain ⟨l, rfl⟩ := h.fn; rfl
def c9 {α S O : Type} (body : α → S → Option (S ⊕ O)) (x : α) : S ⊕ O → Option ((S ⊕ O) × Bool)
 | .inl s => (body x s).map λ z => (z, z.isLeft)
 | .inr _ => none
def Shape (I : aI → au → au → Prop) : Prop := ∀ R T H, I R T H → ∃ Hs, H = Hs ++ T ∧ ∀ R' T', aN R R' → I R' T' (Hs ++ T')
theorem azq {l : Nat} {jump : Option Code} {r : Loop} {Hs T : au} : aM P B R (Hs ++ (l, .loop r) :: T) (Instr.endRound l jump) λ v R' H' => v = .bool jump.isNone ∧ R' = R ∧ H' = Hs ++ (l, .loop { r with state := if jump.isNone then .ready else .done, pending := jump }) :: T := by
 unfold Instr.endRound
 exact aM.bind (aM.getLoop (by simp) (aM.bind (aM.setObj rfl rfl dN.at_ (aM.pure ⟨rfl, rfl, rfl⟩))))
theorem azp {l : Nat} {r : Loop} {Hs T : au} (hb : (r.state == .busy) = false) : aM P B R (Hs ++ (l, .loop r) :: T) (Instr.endLoop l) λ v R' H' => v = r.pending ∧ R' = R ∧ H' = Hs ++ (l, .loop { r with state := .exhausted }) :: T := by
 unfold Instr.endLoop
 refine aM.bind (aM.getLoop (r := r) (by simp) ?_)
 simp only [hb]
 exact aM.bind (aM.setObj rfl rfl dN.at_ (aM.pure ⟨rfl, rfl, rfl⟩))
theorem azo {l : Nat} {r : Loop} {H' : au} (hs : dN H l (.loop r) (.loop { r with state := .busy }) H') (hr : r.state = .ready) : aM P B R H (do Instr.beginRound l; pure Next.skip) λ v bN ct => v = .skip ∧ bN = R ∧ ct = H' := by
 unfold Instr.beginRound
 refine aM.bind (aM.bind (aM.getLoop hs.mem (aM.bind (aM.setObj rfl rfl hs ?_))))
 simp only [hr]
 exact aM.pure (aM.pure ⟨rfl, rfl, rfl⟩)
theorem At.beginRound {l : Nat} {r : Loop} {H' : au} (hro : c.ro = some l) (hk : (c.kind == CallKind.early) = false) (hs : dN H l (.loop r) (.loop { r with state := .busy }) H') (hr : r.state = .ready) (h : At ag c R H' st k) : At ag c R H st (.beginRound :: k) := λ tmps ht => by
 refine ag.step rfl λ w hw => ?_
 obtain ⟨v, w', R', ct, h1, h2, h3, rfl, rfl, rfl⟩ := azo (P := P) hs hr w hw
 refine ⟨br (bl c tmps k) c.cs, w', seen P c.fn ((do Instr.beginRound l; pure Next.skip : Sem Next).events P w #[]), R', ct, ?_, λ e he => h2 e (mem_seen he), h3, h tmps ht⟩
 have e := OV (P := P) (fr := bl c tmps (.beginRound :: k)) (cs := c.cs) (by simpa [bl] using hk) h1
 simpa [stepG, stepG.exec, br, bl, hro, Frame.finish] using e
def Leaves (todo : List Item) (jump : Option Code) : Prop :=
 (todo = [] ∧ jump = none) ∨ (∃ k', todo = .code .ret :: k' ∧ jump = some .ret) ∨ (∃ id k', todo = .code (.exit id) :: k' ∧ exitTo id k' = none ∧ jump = some (.exit id))
theorem abl {l f : Nat} {n : Nat} {cs : List Frame} {fr : Frame} {tmps : Array Value} {todo : List Item} {jump : Option Code} {r : Loop} {Hs T : au} (hl : Leaves todo jump)
  (h : ag.J R (Hs ++ (l, .loop { r with state := if jump.isNone then .ready else .done, pending := jump }) :: T) (br (fr.finish (.bool jump.isNone)) cs)) :
  ag.J R (Hs ++ (l, .loop r) :: T) (br (bl ⟨f, .normal, some l, n, [], fr :: cs⟩ tmps todo) (fr :: cs)) := by
 refine ag.step rfl λ w hw => ?_
 obtain ⟨v, w', R', H', h1, h2, h3, rfl, rfl, rfl⟩ := azq (P := P) (jump := jump) w hw
 refine ⟨br (fr.finish (.bool jump.isNone)) cs, w', seen P f ((Instr.endRound l jump).events P w #[]), R', _, ?_, λ e he => h2 e (mem_seen he), h3, h⟩
 rcases hl with ⟨rfl, rfl⟩ | ⟨k', rfl, rfl⟩ | ⟨id, k', rfl, hk', rfl⟩
 ·simp at h1; simp [stepG, stepG.exec, bl, h1, doReturn, GStep.after, br]
 ·simp at h1; simp [stepG, stepG.exec, bl, h1, doReturn, GStep.after, br]
 ·simp at h1; simp [stepG, stepG.exec, bl, h1, hk', doReturn, GStep.after, br]
def oG (fn : FuncId) (tmps : Array Value) (t : Tmp) (assign body : Code) (d : Nat) : Loop := { state := .ready, pending := none, fn, tmps, params := #[t], assign, body, defers := d }
theorem UB {p : Nat × Obj} {Hf Hs D : au} : List.Perm (Hs ++ p :: (Hf ++ D)) (Hf ++ (Hs ++ p :: D)) := by
 have h1 : List.Perm (Hs ++ p :: (Hf ++ D)) (p :: (Hs ++ (Hf ++ D))) := List.perm_middle
 have h2 : List.Perm (Hf ++ (Hs ++ p :: D)) (p :: (Hf ++ (Hs ++ D))) := by
  rw [← List.append_assoc, ← List.append_assoc]
  exact List.perm_middle
 refine h1.trans (List.Perm.trans (List.Perm.cons _ ?_) h2.symm)
 rw [← List.append_assoc, ← List.append_assoc]
 exact List.perm_append_comm.append_right D
section
variable {α S O : Type} {A : jS α} {body : α → S → Option (S ⊕ O)} {t : Tmp} {assign eL : Code}
 (I : S → aI → au → au → Prop) (E : O → aI → au → au → Prop) (jc : O → Code)
def OJ (R : aI) (l : Nat) (r : Loop) (D : au) : S ⊕ O → aI → au → Prop
 | .inl s, R', Hy => aN R R' ∧ I s R' ((l, .loop r) :: D) Hy
 | .inr o, R', Hy => aN R R' ∧ E o R' ((l, .loop { r with state := .done, pending := some (jc o) }) :: D) Hy
def OI (ag : Jd P B main) (c : Ctx) (R : aI) (H : au) (st : St) (A : jS α) (body : α → S → Option (S ⊕ O)) (t : Tmp) (assign eL : Code) : Prop :=
 ∀ (va : Value) (x : α) (s : S) (z : S ⊕ O) (R' : aI) (T H' : au) (l : Nat) (ld : Loop) (cs : List Frame), aN R R' → List.Sublist H T → A R' x va → I s R' ((l, .loop ld) :: T) H' → ld.state = .ready → body x s = some z →
  (∀ s' bN ct gA, z = .inl s' → aN R' bN → I s' bN ((l, .loop { ld with state := .busy }) :: T) ct → At ag ⟨c.fn, .normal, some l, c.n, [], cs⟩ bN ct gA []) →
  (∀ o bN ct gA k'', z = .inr o → aN R' bN → E o bN ((l, .loop { ld with state := .busy }) :: T) ct → Leaves (.code (jc o) :: k'') (some (jc o)) → At ag ⟨c.fn, .normal, some l, c.n, [], cs⟩ bN ct gA (.code (jc o) :: k'')) →
  At ag ⟨c.fn, .normal, some l, c.n, [], cs⟩ R' H' ((t, va) :: st) [.code assign, .beginRound, .code eL]
variable {I E jc}
theorem ZM {D : au} {l : Nat} {d : Nat} {tmps : Array Value} (kr : ∀ s, Shape (I s)) (pg : ∀ o, Shape (E o)) (ht : fe c.n st tmps) (hd : Nat.blt t c.n = true) (hH : List.Sublist H D)
  (hb : OI I E jc ag c R H st A body t assign eL) :
  iq ag R A (.func (.yield l) #[] #[]) (c9 body) (OJ I E jc R l (oG c.fn tmps t assign eL d) D) where
 fn := ⟨l, rfl⟩
 mono := by
  intro s R1 R2 Hy h1 h2 hI
  cases s with
  | inl s =>
   obtain ⟨hr, hI⟩ := hI
   obtain ⟨Hs, rfl, h⟩ := kr s _ _ _ hI
   exact ⟨hr.trans h2, h _ _ h2⟩
  | inr o =>
   obtain ⟨hr, hI⟩ := hI
   obtain ⟨Hs, rfl, h⟩ := pg o _ _ _ hI
   exact ⟨hr.trans h2, h _ _ h2⟩
 call := by
  intro Hf R' Hy s x va z hR hI hA hy
  cases s with
  | inr o => cases hy
  | inl s =>
   simp only [c9, Option.map_eq_some_iff] at hy
   obtain ⟨z', hz, rfl⟩ := hy
   obtain ⟨hr, hI⟩ := hI
   obtain ⟨Hs, rfl, hsh⟩ := kr s _ _ _ hI
   refine ⟨l, oG c.fn tmps t assign eL d, rfl, by simp, rfl, λ fr cs hk => ?_⟩
   refine J.perm (H' := Hs ++ (l, .loop (oG c.fn tmps t assign eL d)) :: (Hf ++ D)) UB ?_
   have apz : fe c.n ((t, va) :: st) (((oG c.fn tmps t assign eL d).params.zip #[va]).foldl (λ tmps (t, a) => tmps.setIfInBounds t a) (oG c.fn tmps t assign eL d).tmps) := by
    have := ht.put (dst := some t) va hd
    simpa [oG, bQ, eN] using this
   refine hb va x s z' R' (Hf ++ D) _ l (oG c.fn tmps t assign eL d) (fr :: cs) hR (hH.trans (List.sublist_append_right _ _)) hA (hsh R' _ (aN.refl _)) rfl hz (λ s' bN ct gA TL zv aks => ?_) (λ o bN ct gA k'' TL zv akr hl => ?_) _ apz
   ·subst TL
    obtain ⟨cH, rfl, qA⟩ := kr s' _ _ _ aks
    intro tmps' _
    refine abl (jump := none) (.inl ⟨rfl, rfl⟩) ?_
    refine J.perm UB.symm ?_
    exact hk _ _ _ ⟨zv, rfl, _, ⟨hR.trans zv, qA bN _ (aN.refl _)⟩, rfl⟩
   ·subst TL
    obtain ⟨cH, rfl, qA⟩ := pg o _ _ _ akr
    intro tmps' _
    refine abl (jump := some (jc o)) hl ?_
    refine J.perm UB.symm ?_
    exact hk _ _ _ ⟨zv, rfl, _, ⟨hR.trans zv, qA bN _ (aN.refl _)⟩, rfl⟩
theorem azs {fn : FuncId} {tmps : Array Value} {ps : Array Tmp} {assign eL : Code} : aM P B R H (Instr.enterLoop fn tmps ps assign eL none) λ q R' H' => R' = R ∧ ∃ r, q.2 = [⟨.collected r, #[]⟩] ∧ H' = (q.1, .loop ⟨.ready, none, fn, tmps, ps, assign, eL, r⟩) :: (r, .deferred (some [])) :: H := by
 unfold Instr.enterLoop
 refine aM.bind (aM.new λ r _ _ => aM.bind (aM.pure ?_))
 refine aM.bind (aM.new λ l _ _ => aM.pure ?_)
 exact ⟨rfl, r, rfl, rfl⟩
theorem azr {fn : FuncId} {tmps : Array Value} {ps : Array Tmp} {assign eL : Code} {l0 : Nat} {r0 : Loop} (h0 : (l0, Obj.loop r0) ∈ H) : aM P B R H (Instr.enterLoop fn tmps ps assign eL (some l0)) λ q R' H' => R' = R ∧ q.2 = [] ∧ H' = (q.1, .loop ⟨.ready, none, fn, tmps, ps, assign, eL, r0.defers⟩) :: H := by
 unfold Instr.enterLoop
 refine aM.bind (aM.getLoop h0 (aM.bind (aM.pure ?_)))
 refine aM.bind (aM.new λ l _ _ => aM.pure ?_)
 exact ⟨rfl, rfl, rfl⟩
theorem At.YY {x : Operand} {fid : FuncId} {first cap : Array Value} (hx : bk st x = some (.func (.func fid) first cap)) (he : aV P fid) (hk : (c.kind == CallKind.early) = false) {K : Nat × List Deferred → aI → au → Prop}
  (hent : ∀ tmps, aM P B R H (Instr.enterLoop c.fn tmps #[t] assign eL c.ro) λ q R' H' => R' = R ∧ ∃ d Hm, H' = (q.1, .loop (oG c.fn tmps t assign eL d)) :: Hm ∧ K q R Hm)
  (h : ∀ l mark d Hm tmps, fe c.n st tmps → K (l, mark) R Hm → ag.J R ((l, .loop (oG c.fn tmps t assign eL d)) :: Hm) (br (Frame.enter P fid (first ++ #[.func (.yield l) #[] #[]] ++ cap) .normal) (bl ⟨c.fn, c.kind, c.ro, c.n, mark ++ c.defers, c.cs⟩ tmps (.inRangeFunc l :: k) :: c.cs))) :
  At ag c R H st (.code (.rangeFunc x #[t] assign eL) :: k) := by
 intro tmps ht
 refine ag.step rfl λ w hw => ?_
 obtain ⟨⟨l, mark⟩, w', R', H', h1, h2, h3, rfl, d, Hm, rfl, hK⟩ := hent tmps w hw
 have hkn := ht.knows ⟨c.fn, c.kind, c.ro, c.n, mark ++ c.defers, c.cs⟩ (.inRangeFunc l :: k)
 have hv : av P (do let d ← resolve (bl ⟨c.fn, c.kind, c.ro, c.n, mark ++ c.defers, c.cs⟩ tmps (.inRangeFunc l :: k)).eval { callee := .value x, args := #[.const (.func (.yield l) #[] #[])], argTypes := #[] } 0; invoke d.target d.args) (.enter fid (first ++ #[.func (.yield l) #[] #[]] ++ cap)) := by
  obtain ⟨fn, e1, e2, e3⟩ := he.ex
  simp only [resolve, hkn x _ hx, Deferred.ofValue]
  refine av.bind (a := ⟨.fn (.func fid) cap, first ++ #[.func (.yield l) #[] #[]]⟩) (by simpa [Frame.eval] using av.pure _) ?_
  simp only [invoke]
  exact U2 e1 e2 e3
 have hj := h l mark d Hm tmps ht hK
 refine ⟨_, w', seen P c.fn ((Instr.enterLoop c.fn tmps #[t] assign eL c.ro).events P w #[]), R', _, ?_, λ e hee => h2 e (mem_seen hee), h3, hj⟩
 have Gy := hv w'
 simp only [bl] at Gy
 have hk' : (c.kind == CallKind.early) = false := hk
 simp [stepG, stepG.exec, stepG.apply, br, bl, h1, Gy.1, Gy.2, GStep.after, hk', seen]
theorem At.JU {l : Nat} {r : Loop} {Hs T : au} {ab5 : Option Code} (hb : (r.state == .busy) = false) (hp : r.pending = ab5) (h : At ag c R (Hs ++ T) st ((ab5.map Item.code).toList ++ k)) : At ag c R (Hs ++ (l, .loop r) :: T) st (.endRangeFunc l :: k) := λ tmps ht => by
 subst hp
 refine ag.step rfl λ w hw => ?_
 obtain ⟨v, w', R', H', h1, h2, h3, rfl, rfl, rfl⟩ := azp (P := P) hb w hw
 refine ⟨br (bl c tmps ((r.pending.map Item.code).toList ++ k)) c.cs, w', seen P c.fn ((Instr.endLoop l).events P w #[]), R', _, ?_, λ e he => h2 e (mem_seen he), h3, J.drop ?_ (h tmps ht)⟩
 ·simp [stepG, stepG.exec, br, bl, h1, GStep.after]
 ·exact (List.sublist_cons_self _ _).append_left _
theorem Zg {tmps : Array Value} {l : Nat} {w : Value} : (bl c tmps (.inRangeFunc l :: k)).finish w = bl c tmps (.endRangeFunc l :: k) := rfl
theorem At.acf {ρ : Type} {jl : (α → (S ⊕ O) → Option ((S ⊕ O) × Bool)) → (S ⊕ O) → Option (S ⊕ O)} {cont : S ⊕ O → Option ρ} {s0 : S} {rr : ρ} {x : Operand} {fid : FuncId} {first cap : Array Value} {H1 : au}
  (hM : (jl (c9 body) (.inl s0)).bind cont = some rr) (hx : bk st x = some (.func (.func fid) first cap)) (he : aV P fid) (hk : (c.kind == CallKind.early) = false) (hro : c.ro = none) (hd : Nat.blt t c.n = true)
  (I : S → aI → au → au → Prop) (E : O → aI → au → au → Prop) (jc : O → Code) (kr : ∀ s, Shape (I s)) (pg : ∀ o, Shape (E o))
  (uI : ∀ v Inv Hy z, iq ag R A v (c9 body) Inv → Inv (.inl s0) R Hy → jl (c9 body) (.inl s0) = some z → aJ ag fid (first ++ #[v] ++ cap) R Hy λ _ R' H' => aN R R' ∧ Inv z R' H')
  (h0 : I s0 R H H1)
  (ha : ∀ r s R' H', aN R R' → I s R' ((r, .deferred (some [])) :: H) H' → cont (.inl s) = some rr → At ag ⟨c.fn, c.kind, none, c.n, ⟨.collected r, #[]⟩ :: c.defers, c.cs⟩ R' H' st k)
  (hz : ∀ r o R' H', aN R R' → E o R' ((r, .deferred (some [])) :: H) H' → cont (.inr o) = some rr → At ag ⟨c.fn, c.kind, none, c.n, ⟨.collected r, #[]⟩ :: c.defers, c.cs⟩ R' H' st (.code (jc o) :: k))
  (hb : OI I E jc ag c R H st A body t assign eL) :
  At ag c R H1 st (.code (.rangeFunc x #[t] assign eL) :: k) := by
 obtain ⟨z, hm, hc⟩ := ao hM
 refine At.YY hx he hk (K := λ q R' Hm => ∃ r, q.2 = [⟨.collected r, #[]⟩] ∧ Hm = (r, .deferred (some [])) :: H1) (λ tmps => ?_) ?_
 ·rw [hro]
  exact azs.mono λ q R' H' ⟨h1, r, h2, h3⟩ => ⟨h1, r, _, h3, r, h2, rfl⟩
 rintro l mark d Hm tmps ht ⟨r, hmk, rfl⟩
 have hmk : mark = [⟨.collected r, #[]⟩] := hmk
 subst hmk
 obtain ⟨Hs, rfl, hsh⟩ := kr s0 _ _ _ h0
 have QY : iq ag R A (.func (.yield l) #[] #[]) (c9 body) (OJ I E jc R l (oG c.fn tmps t assign eL d) ((r, .deferred (some [])) :: H)) := ZM kr pg ht hd (List.sublist_cons_self _ _) hb
 refine J.perm (H' := Hs ++ (l, .loop (oG c.fn tmps t assign eL d)) :: (r, .deferred (some [])) :: H) ?_ ?_
 ·exact List.perm_middle.trans (List.Perm.cons _ List.perm_middle)
 refine uI _ _ _ z QY ⟨aN.refl R, hsh R _ (aN.refl R)⟩ hm _ _ λ v R' H' hv => ?_
 rw [Zg]
 obtain ⟨hR, hI⟩ := hv
 cases z with
 | inl s =>
  obtain ⟨_, hI⟩ := hI
  obtain ⟨cH, rfl, qA⟩ := kr s _ _ _ hI
  rw [hro]
  exact At.JU (c := ⟨c.fn, c.kind, none, c.n, ⟨.collected r, #[]⟩ :: c.defers, c.cs⟩) rfl rfl (ha r s R' _ hR (qA R' _ (aN.refl R')) hc) tmps ht
 | inr o =>
  obtain ⟨_, hI⟩ := hI
  obtain ⟨cH, rfl, qA⟩ := pg o _ _ _ hI
  rw [hro]
  exact At.JU (c := ⟨c.fn, c.kind, none, c.n, ⟨.collected r, #[]⟩ :: c.defers, c.cs⟩) rfl rfl (hz r o R' _ hR (qA R' _ (aN.refl R')) hc) tmps ht
theorem At.ayZ {ρ : Type} {jl : (α → (S ⊕ O) → Option ((S ⊕ O) × Bool)) → (S ⊕ O) → Option (S ⊕ O)} {cont : S ⊕ O → Option ρ} {s0 : S} {rr : ρ} {x : Operand} {fid : FuncId} {first cap : Array Value} {H1 : au} {l0 : Nat} {r0 : Loop}
  (hM : (jl (c9 body) (.inl s0)).bind cont = some rr) (hx : bk st x = some (.func (.func fid) first cap)) (he : aV P fid) (hk : (c.kind == CallKind.early) = false) (hro : c.ro = some l0) (IQ : (l0, Obj.loop r0) ∈ H1) (hd : Nat.blt t c.n = true)
  (I : S → aI → au → au → Prop) (E : O → aI → au → au → Prop) (jc : O → Code) (kr : ∀ s, Shape (I s)) (pg : ∀ o, Shape (E o))
  (uI : ∀ v Inv Hy z, iq ag R A v (c9 body) Inv → Inv (.inl s0) R Hy → jl (c9 body) (.inl s0) = some z → aJ ag fid (first ++ #[v] ++ cap) R Hy λ _ R' H' => aN R R' ∧ Inv z R' H')
  (h0 : I s0 R H H1)
  (ha : ∀ s R' H', aN R R' → I s R' H H' → cont (.inl s) = some rr → At ag c R' H' st k)
  (hz : ∀ o R' H', aN R R' → E o R' H H' → cont (.inr o) = some rr → At ag c R' H' st (.code (jc o) :: k))
  (hb : OI I E jc ag c R H st A body t assign eL) :
  At ag c R H1 st (.code (.rangeFunc x #[t] assign eL) :: k) := by
 obtain ⟨z, hm, hc⟩ := ao hM
 refine At.YY hx he hk (K := λ q R' Hm => q.2 = [] ∧ Hm = H1) (λ tmps => ?_) ?_
 ·rw [hro]
  exact (azr IQ).mono λ q R' H' ⟨h1, h2, h3⟩ => ⟨h1, _, _, h3, h2, rfl⟩
 rintro l mark d Hm tmps ht ⟨hmk, rfl⟩
 have hmk : mark = [] := hmk
 subst hmk
 obtain ⟨Hs, rfl, hsh⟩ := kr s0 _ _ _ h0
 have QY : iq ag R A (.func (.yield l) #[] #[]) (c9 body) (OJ I E jc R l (oG c.fn tmps t assign eL d) H) := ZM kr pg ht hd (List.Sublist.refl _) hb
 refine J.perm (H' := Hs ++ (l, .loop (oG c.fn tmps t assign eL d)) :: H) List.perm_middle ?_
 refine uI _ _ _ z QY ⟨aN.refl R, hsh R _ (aN.refl R)⟩ hm _ _ λ v R' H' hv => ?_
 rw [Zg]
 obtain ⟨hR, hI⟩ := hv
 cases z with
 | inl s =>
  obtain ⟨_, hI⟩ := hI
  obtain ⟨cH, rfl, qA⟩ := kr s _ _ _ hI
  exact At.JU (c := c) rfl rfl (ha s R' _ hR (qA R' _ (aN.refl R')) hc) tmps ht
 | inr o =>
  obtain ⟨_, hI⟩ := hI
  obtain ⟨cH, rfl, qA⟩ := pg o _ _ _ hI
  exact At.JU (c := c) rfl rfl (hz o R' _ hR (qA R' _ (aN.refl R')) hc) tmps ht
theorem At.HJ {ρ : Type} {body : α → S → Option (S ⊕ Empty)} (jl : (α → (S ⊕ Empty) → Option ((S ⊕ Empty) × Bool)) → (S ⊕ Empty) → Option (S ⊕ Empty)) {f : S → Option ρ} {g : Empty → Option ρ} {s0 : S} {rr : ρ} {x : Operand} {fid : FuncId} {first cap : Array Value} {H1 : au}
  (hM : (jl (c9 body) (.inl s0)).bind (Sum.elim f g) = some rr) (hx : bk st x = some (.func (.func fid) first cap)) (he : aV P fid) (hk : (c.kind == CallKind.early) = false) (hro : c.ro = none) (hd : Nat.blt t c.n = true)
  (I : S → aI → au → au → Prop) (kr : ∀ s, Shape (I s))
  (uI : ∀ v Inv Hy z, iq ag R A v (c9 body) Inv → Inv (.inl s0) R Hy → jl (c9 body) (.inl s0) = some z → aJ ag fid (first ++ #[v] ++ cap) R Hy λ _ R' H' => aN R R' ∧ Inv z R' H')
  (h0 : I s0 R H H1)
  (ha : ∀ r s R' H', aN R R' → I s R' ((r, .deferred (some [])) :: H) H' → f s = some rr → At ag ⟨c.fn, c.kind, none, c.n, ⟨.collected r, #[]⟩ :: c.defers, c.cs⟩ R' H' st k)
  (hb : ∀ (va : Value) (x : α) (s : S) (R' : aI) (T H' : au) (l : Nat) (ld : Loop) (cs : List Frame), aN R R' → List.Sublist H T → A R' x va → I s R' ((l, .loop ld) :: T) H' → ld.state = .ready → ∀ z, body x s = some z →
   (∀ s', z = .inl s' → ∀ bN ct gA, aN R' bN → I s' bN ((l, .loop { ld with state := .busy }) :: T) ct → At ag ⟨c.fn, .normal, some l, c.n, [], cs⟩ bN ct gA []) →
   At ag ⟨c.fn, .normal, some l, c.n, [], cs⟩ R' H' ((t, va) :: st) [.code assign, .beginRound, .code eL]) :
  At ag c R H1 st (.code (.rangeFunc x #[t] assign eL) :: k) :=
 At.acf (jl := jl) hM hx he hk hro hd I (λ o => o.elim) (λ o => o.elim) kr (λ o => o.elim) uI h0 ha (λ _ o => o.elim)
  (λ va x s z R' T H' l ld cs h1 h2 h3 h4 h5 h6 h7 _ => hb va x s R' T H' l ld cs h1 h2 h3 h4 h5 z h6 λ s' hz bN ct gA => h7 s' bN ct gA hz)
theorem At.UH {ρ : Type} (jl : (α → (S ⊕ O) → Option ((S ⊕ O) × Bool)) → (S ⊕ O) → Option (S ⊕ O)) {f : S → Option ρ} {g : O → Option ρ} {s0 : S} {rr : ρ} {x : Operand} {fid : FuncId} {first cap : Array Value} {H1 : au} (jc : Code)
  (hM : (jl (c9 body) (.inl s0)).bind (Sum.elim f g) = some rr) (hx : bk st x = some (.func (.func fid) first cap)) (he : aV P fid) (hk : (c.kind == CallKind.early) = false) (hro : c.ro = none) (hd : Nat.blt t c.n = true)
  (I : S → aI → au → au → Prop) (E : O → aI → au → au → Prop) (kr : ∀ s, Shape (I s)) (pg : ∀ s, Shape (E s))
  (uI : ∀ v Inv Hy z, iq ag R A v (c9 body) Inv → Inv (.inl s0) R Hy → jl (c9 body) (.inl s0) = some z → aJ ag fid (first ++ #[v] ++ cap) R Hy λ _ R' H' => aN R R' ∧ Inv z R' H')
  (h0 : I s0 R H H1)
  (ha : ∀ r s R' H', aN R R' → I s R' ((r, .deferred (some [])) :: H) H' → f s = some rr → At ag ⟨c.fn, c.kind, none, c.n, ⟨.collected r, #[]⟩ :: c.defers, c.cs⟩ R' H' st k)
  (hz : ∀ r o R' H', aN R R' → E o R' ((r, .deferred (some [])) :: H) H' → g o = some rr → At ag ⟨c.fn, c.kind, none, c.n, ⟨.collected r, #[]⟩ :: c.defers, c.cs⟩ R' H' st (.code jc :: k))
  (hb : ∀ (va : Value) (x : α) (s : S) (R' : aI) (T H' : au) (l : Nat) (ld : Loop) (cs : List Frame), aN R R' → List.Sublist H T → A R' x va → I s R' ((l, .loop ld) :: T) H' → ld.state = .ready → ∀ z, body x s = some z →
   (∀ s', z = .inl s' → ∀ bN ct gA, aN R' bN → I s' bN ((l, .loop { ld with state := .busy }) :: T) ct → At ag ⟨c.fn, .normal, some l, c.n, [], cs⟩ bN ct gA []) →
   (∀ o, z = .inr o → ∀ bN ct gA k'', aN R' bN → E o bN ((l, .loop { ld with state := .busy }) :: T) ct → Leaves (.code jc :: k'') (some jc) → At ag ⟨c.fn, .normal, some l, c.n, [], cs⟩ bN ct gA (.code jc :: k'')) →
   At ag ⟨c.fn, .normal, some l, c.n, [], cs⟩ R' H' ((t, va) :: st) [.code assign, .beginRound, .code eL]) :
  At ag c R H1 st (.code (.rangeFunc x #[t] assign eL) :: k) :=
 At.acf (jl := jl) hM hx he hk hro hd I E (λ _ => jc) kr pg uI h0 ha hz
  (λ va x s z R' T H' l ld cs h1 h2 h3 h4 h5 h6 h7 h8 => hb va x s R' T H' l ld cs h1 h2 h3 h4 h5 z h6 (λ s' hz bN ct gA => h7 s' bN ct gA hz) (λ o hz bN ct gA k'' => h8 o bN ct gA k'' hz))
theorem At.ay0 {ρ : Type} (jl : (α → (S ⊕ O) → Option ((S ⊕ O) × Bool)) → (S ⊕ O) → Option (S ⊕ O)) {f : S → Option ρ} {g : O → Option ρ} {s0 : S} {rr : ρ} {x : Operand} {fid : FuncId} {first cap : Array Value} {H1 : au} {l0 : Nat} {r0 : Loop} (jc : Code)
  (hM : (jl (c9 body) (.inl s0)).bind (Sum.elim f g) = some rr) (hx : bk st x = some (.func (.func fid) first cap)) (he : aV P fid) (hk : (c.kind == CallKind.early) = false) (hro : c.ro = some l0) (IQ : (l0, Obj.loop r0) ∈ H1) (hd : Nat.blt t c.n = true)
  (I : S → aI → au → au → Prop) (E : O → aI → au → au → Prop) (kr : ∀ s, Shape (I s)) (pg : ∀ s, Shape (E s))
  (uI : ∀ v Inv Hy z, iq ag R A v (c9 body) Inv → Inv (.inl s0) R Hy → jl (c9 body) (.inl s0) = some z → aJ ag fid (first ++ #[v] ++ cap) R Hy λ _ R' H' => aN R R' ∧ Inv z R' H')
  (h0 : I s0 R H H1)
  (ha : ∀ s R' H', aN R R' → I s R' H H' → f s = some rr → At ag c R' H' st k)
  (hz : ∀ o R' H', aN R R' → E o R' H H' → g o = some rr → At ag c R' H' st (.code jc :: k))
  (hb : ∀ (va : Value) (x : α) (s : S) (R' : aI) (T H' : au) (l : Nat) (ld : Loop) (cs : List Frame), aN R R' → List.Sublist H T → A R' x va → I s R' ((l, .loop ld) :: T) H' → ld.state = .ready → ∀ z, body x s = some z →
   (∀ s', z = .inl s' → ∀ bN ct gA, aN R' bN → I s' bN ((l, .loop { ld with state := .busy }) :: T) ct → At ag ⟨c.fn, .normal, some l, c.n, [], cs⟩ bN ct gA []) →
   (∀ o, z = .inr o → ∀ bN ct gA k'', aN R' bN → E o bN ((l, .loop { ld with state := .busy }) :: T) ct → Leaves (.code jc :: k'') (some jc) → At ag ⟨c.fn, .normal, some l, c.n, [], cs⟩ bN ct gA (.code jc :: k'')) →
   At ag ⟨c.fn, .normal, some l, c.n, [], cs⟩ R' H' ((t, va) :: st) [.code assign, .beginRound, .code eL]) :
  At ag c R H1 st (.code (.rangeFunc x #[t] assign eL) :: k) :=
 At.ayZ (jl := jl) hM hx he hk hro IQ hd I E (λ _ => jc) kr pg uI h0 ha hz
  (λ va x s z R' T H' l ld cs h1 h2 h3 h4 h5 h6 h7 h8 => hb va x s R' T H' l ld cs h1 h2 h3 h4 h5 z h6 (λ s' hz bN ct gA => h7 s' bN ct gA hz) (λ o hz bN ct gA k'' => h8 o bN ct gA k'' hz))
theorem azu {r : Nat} {H' : au} (hs : dN H r (.deferred (some [])) (.deferred none) H') : aM P B R H (Instr.takeDeferred r) λ v bN ct => v = [] ∧ bN = R ∧ ct = H' := by
 unfold Instr.takeDeferred
 exact aM.bind (aM.getObj rfl (.inr hs.mem) (aM.bind (aM.setObj rfl rfl hs (aM.pure ⟨rfl, rfl, rfl⟩))))
theorem aze {fr : Frame} {cs : List Frame} {f : FuncId} {n r : Nat} {H' : au} {tmps : Array Value} {todo : List Item} (hs : dN H r (.deferred (some [])) (.deferred none) H')
  (h : ag.J R H' (br { (bl ⟨f, .normal, none, n, [], fr :: cs⟩ tmps todo) with mode := .returning } (fr :: cs))) :
  ag.J R H (br { (bl ⟨f, .normal, none, n, [⟨.collected r, #[]⟩], fr :: cs⟩ tmps todo) with mode := .returning } (fr :: cs)) := by
 refine ag.step rfl λ w hw => ?_
 obtain ⟨v, w', R', H', h1, h2, h3, rfl, rfl, rfl⟩ := azu (P := P) hs w hw
 refine ⟨_, w', seen P f ((Instr.takeDeferred r).events P w #[]), R', _, ?_, λ e he => h2 e (mem_seen he), h3, h⟩
 simp [stepG, unwind, br, bl, h1, GStep.after]
theorem azd {fr : Frame} {cs : List Frame} {f : FuncId} {n : Nat} {fn : Func} {vs : List Value} {tmps : Array Value} {todo : List Item} (hf : P.funcs[f]? = some fn) (ht : fe n st tmps) (hr : lU P R H st fn.results.toList vs) (hj : ag.J R H (br (fr.finish (pP vs)) cs)) :
  ag.J R H (br { (bl ⟨f, .normal, none, n, [], fr :: cs⟩ tmps todo) with mode := .returning } (fr :: cs)) := by
 refine ag.step rfl λ w hw => ?_
 obtain ⟨v, w', R', H', h1, h2, h3, rfl, rfl, rfl⟩ := L6 (P := P) ht hr w hw
 refine ⟨br (fr.finish (pP vs)) cs, w', seen P f ((results fn tmps).events P w #[]), R', H', ?_, λ e he => h2 e (mem_seen he), h3, hj⟩
 simp [stepG, unwind, doReturn, br, bl, hf, h1, GStep.after]
theorem At.qW {fr : Frame} {cs : List Frame} {f : FuncId} {n r : Nat} {H' : au} {fn : Func} {vs : List Value} (hs : dN H r (.deferred (some [])) (.deferred none) H') (hf : P.funcs[f]? = some fn) (hr : lU P R H' st fn.results.toList vs) (hj : ag.J R H' (br (fr.finish (pP vs)) cs)) :
  At ag ⟨f, .normal, none, n, [⟨.collected r, #[]⟩], fr :: cs⟩ R H st (.code .ret :: k) := λ tmps ht => by
 refine Jd.ctl (g' := br { (bl ⟨f, .normal, none, n, [⟨.collected r, #[]⟩], fr :: cs⟩ tmps (.code .ret :: k)) with mode := .returning } (fr :: cs)) rfl (λ w => by simp [stepG, stepG.exec, br, bl]) ?_
 exact aze hs (azd hf ht hr hj)
end
theorem aJ.hole {f : FuncId} {args : Array Value} {G : au → au} {Hs : au} (hG : gh G) {Q : Value → aI → au → Prop} (h : aJ ag f args R (Hs ++ G []) λ v R' H' => ∃ cH, Q v R' cH ∧ H' = cH ++ G []) :
  aJ ag f args R (G Hs) λ v R' H' => ∃ cH, Q v R' cH ∧ H' = G cH := by
 obtain ⟨A, D, hG⟩ := hG
 have key : ∀ X : au, List.Perm (X ++ G []) (G X) := λ X => by
  rw [hG, hG, List.nil_append, ← List.append_assoc, ← List.append_assoc]
  exact List.perm_append_comm.append_right D
 intro fr cs hk
 refine J.perm (key Hs) (h fr cs λ v R' H' hv => ?_)
 obtain ⟨cH, hq, rfl⟩ := hv
 exact J.perm (key cH).symm (hk v R' _ ⟨cH, hq, rfl⟩)
theorem Ox.B9 {x y : Operand} {t u e : TypeId} {o : Oper} {C : aI → au → St → Prop} {A : Option Addr} {n cap : Nat} {b : Bool} {st' : St} (hop : o.op = .binOp .eql t x y u) (hx : bk st x = some (.slice A n cap)) (hy : bk st y = some (.slice none 0 0)) (ht : P.underlying t = some (.slice e)) (hb : A.isNone = b)
  (hd : cj o.dst c.n) (hs : aK (bQ o.dst (.bool b) st) st') (h : C R H st') : aR P B c o R H st C :=
 Ox.val' (s := λ ρ => do eqGuard .eql t x y (ρ x) (ρ y); binOp .eql t (ρ x) (ρ y)) (by rw [hop]; rfl) hd (λ ρ => by simp only [execOp, hop]) (λ ρ hρ => by
  rw [hρ x _ hx, hρ y _ hy]
  refine av.bind (a := ()) (av.pure _) ?_
  simp only [binOp]
  refine av.bind (a := b) ?_ (av.pure _)
  unfold Op.equal Op.maxDepth Op.equalIn
  refine av.bind (av.underlying ht) ?_
  cases A with
  | none => subst hb; exact av.pure _
  | some a => subst hb; exact av.pure _) hs h
theorem bC.Ur {α : Type} {K : b7 α} {k : Nat} {v : Value} {xs : List α} (h : bC K k R H v xs) : (∃ cap, v = .slice none 0 cap ∧ xs = []) ∨ ∃ a n cap, v = .slice (some a) n cap := by
 obtain ⟨A, cap, es, rfl, h2, h3, h4⟩ := h
 cases A with
 | some a => exact .inr ⟨a, _, cap, rfl⟩
 | none =>
  cases xs with
  | nil => exact .inl ⟨cap, rfl, rfl⟩
  | cons x xs =>
   obtain ⟨b, o, g, _⟩ := h4 (by simp)
   cases g
theorem Ox.KY {x y : Operand} {t e len : Nat} {cs : Array Value} {v : Value} {kd : IntKind} {i : Int} {o : Oper} {C : aI → au → St → Prop} {st' : St} (hop : o.op = .index t x y) (hx : bk st x = some (.agg cs)) (hy : bk st y = some (.int kd i)) (ht : wv P t len e 1) (he : av P (isAgg e) false) (hi : 0 ≤ i ∧ i < len) (hv : cs[i.toNat * 1]? = some v)
  (hd : cj o.dst c.n) (hs : aK (bQ o.dst v st) st') (h : C R H st') : aR P B c o R H st C :=
 Ox.val' (s := λ ρ => Instr.index t (ρ x) (ρ y)) (by rw [hop]; rfl) hd (λ ρ => by simp only [execOp, hop]) (λ ρ hρ => by
  rw [hρ x _ hx, hρ y _ hy]
  unfold Instr.index
  refine av.bind (a := (kd, i)) (av.pure _) (av.bind (av.underlying ht.1) ?_)
  simp only [hi, and_self, if_true]
  refine av.bind ht.2 ?_
  unfold part
  refine av.bind he ?_
  simp only [hv]
  exact av.pure _) hs h
theorem At.nh {todo : List Item} {b : Nat} {cs : Array Value} {e : TypeId} {fz : Nat × Nat} (G : au → au) (hG : gh G) {H2 : au} (h2 : G [] = H2) (h : ∀ R', aN R R' → aT R' [] b 0 cs.toList → At ag c R' H2 st todo) : At ag c R (G [(b, .cells cs e fz)]) st todo := by
 obtain ⟨A, D, hG⟩ := hG
 refine At.perm (H' := (b, .cells cs e fz) :: (A ++ D)) ?_ (At.freeze λ R' hR hb => ?_)
 ·rw [hG]; exact List.perm_middle.symm
 ·have e2 : A ++ D = H2 := by rw [← h2, hG]; rfl
  rw [e2]
  exact h R' hR (aT.known (n := cs.toList.length) hb (by rw [List.drop_zero, List.take_length]))
def EM (ag : Jd P B main) (R : aI) {α S : Type} (A : jS α) (v : Value) (q : (α → S → Option (S × Bool)) → S → Option S) : Prop :=
 ∃ fid first cap, v = .func (.func fid) first cap ∧ aV P fid ∧ ∀ R', aN R R' → ∀ (w : Value) (y : α → S → Option (S × Bool)) (Inv : S → aI → au → Prop) (Hy : au) (s z : S), iq ag R' A w y Inv → Inv s R' Hy → q y s = some z →
  aJ ag fid (first ++ #[w] ++ cap) R' Hy λ _ bN H' => aN R' bN ∧ Inv z bN H'
theorem EM.mono {R' : aI} {α S : Type} {A : jS α} {v : Value} {q : (α → S → Option (S × Bool)) → S → Option S} (h : EM ag R A v q) (hR : aN R R') : EM ag R' A v q := by
 obtain ⟨fid, first, cap, h1, h2, h3⟩ := h
 exact ⟨fid, first, cap, h1, h2, λ bN qm => h3 bN (hR.trans qm)⟩
theorem iq.frame {α S : Type} {A : jS α} {v : Value} {y : α → S → Option (S × Bool)} {Inv : S → aI → au → Prop} (h : iq ag R A v y Inv) (Hf : au) : iq ag R A v y λ s R' H' => ∃ Hy, Inv s R' Hy ∧ H' = Hf ++ Hy where
 fn := h.fn
 mono := λ h1 h2 ⟨Hy, hi, e⟩ => ⟨Hy, h.mono h1 h2 hi, e⟩
 call := by
  intro H2 R' Hy s x va z hR hI hA hy
  obtain ⟨Hy, hI, rfl⟩ := hI
  have := h.call (H2 ++ Hf) hR hI hA hy
  rw [List.append_assoc] at this
  refine this.mono λ w bN ct ⟨h1, h2, EI, h3, h4⟩ => ⟨h1, h2, Hf ++ EI, ⟨EI, h3, rfl⟩, by rw [h4, List.append_assoc]⟩
section
variable {S : Nat → au} {ops : Array Oper} {n : Nat} {rem : List Nat} {H2 : au}
theorem XO {Q : Array Value → aI → au → Prop} {R' : aI} {H' : au} (hg : ∀ w, Fits B R H w → dF B R H w R' H' w) (hR : aN R R') (hS : ∀ j, ∀ p ∈ S j, p ∈ H → p ∈ H') (hQ : ∀ t, Q t R' H' → Q t R H) :
  ∀ (n : Nat) (rem : List Nat) (t : Array Value), wH ag c S ops Q n rem t R' H' → wH ag c S ops Q n rem t R H
 | 0, rem, t, h => ⟨h.1, hQ t h.2⟩
 | n + 1, rem, t, h => by
  rcases h with ⟨h1, h2⟩ | ⟨h1, h2⟩
  ·exact .inl ⟨h1, hQ t h2⟩
  ·refine .inr ⟨h1, λ ⟨w, hw⟩ i hi hr => ?_⟩
   obtain ⟨o, ho, hd, h⟩ := h2 ⟨w, (hg w hw).fits⟩ i hi hr
   refine ⟨o, ho, hd, ?_⟩
   rcases h with ⟨a, b⟩ | ⟨a, b | ⟨f, args, b, b'⟩⟩
   ·exact .inl ⟨a, XO hg hR hS hQ n _ _ b⟩
   ·exact .inr ⟨a, .inl ((aM.ghost hg b).mono λ nx bN ct ⟨v, x, y, z, hk⟩ => ⟨v, x, hR.trans y, λ p hp Rv => z p hp (hS i p hp Rv), hk⟩)⟩
   ·exact .inr ⟨a, .inr ⟨f, args, b, (aJ.ghost hg b').mono λ v bN ct ⟨y, z, hk⟩ => ⟨hR.trans y, λ p hp Rv => z p hp (hS i p hp Rv), hk⟩⟩⟩
theorem Any.ghost {R' : aI} {H' : au} (hg : ∀ w, Fits B R H w → dF B R H w R' H' w) (hR : aN R R') (hS : ∀ j, ∀ p ∈ S j, p ∈ H → p ∈ H') (h : Any ag c S ops k n rem R' H' st) : Any ag c S ops k n rem R H st :=
 ⟨h.1, λ tmps ht => XO hg hR hS (λ _ hq => ag.ghost hg hq) n rem tmps (h.2 tmps ht)⟩
theorem Any.given (cD : rem.Nodup) (hn : rem.length ≤ n) (h : (∃ w, Fits B R H w) → Any ag c S ops k n rem R H st) : Any ag c S ops k n rem R H st := by
 by_cases hw : ∃ w, Fits B R H w
 ·exact h hw
 ·refine ⟨cD, λ tmps ht => ?_⟩
  cases n with
  | zero =>
   have : rem = [] := List.length_eq_zero_iff.1 (by omega)
   exact ⟨this, J.given ag rfl λ h => absurd h hw⟩
  | succ n =>
   cases rem with
   | nil => exact .inl ⟨rfl, J.given ag rfl λ h => absurd h hw⟩
   | cons i rem => exact .inr ⟨by simp, λ h => absurd h hw⟩
theorem Any.freeze {b : Nat} {o : Obj} {A D : au} (cD : rem.Nodup) (hn : rem.length ≤ n) (hS : ∀ j, ∀ p ∈ S j, p ∈ A ++ D) (h : ∀ R', aN R R' → R' b = some o → Any ag c S ops k n rem R' (A ++ D) st) : Any ag c S ops k n rem R (A ++ (b, o) :: D) st := by
 refine Any.given cD hn λ ⟨w, hw⟩ => ?_
 have hb : R b = none := hw.dj b o (by simp)
 refine Any.ghost (R' := R.ins b o) (H' := A ++ D) (λ w hw => ?_) (aI.K0 hb) (λ j p hp _ => hS j p hp) (h _ (aI.K0 hb) (aI.aba R b o))
 exact (HP List.perm_middle.symm hw).trans (acK (HP List.perm_middle.symm hw).fits)
theorem Any.dB {α : Type} {K : b7 α} [CM K] {kk e : Nat} (G : au → au) (hG : gh G) {v : Value} {xs : List α} {Hs : au} (h2 : G [] = H2) (hO : aZ K kk e R v xs Hs) (cD : rem.Nodup) (hn : rem.length ≤ n) (hS : ∀ j, ∀ p ∈ S j, p ∈ H2) (h : ∀ R', aN R R' → aj K kk R' v xs → Any ag c S ops k n rem R' H2 st) : Any ag c S ops k n rem R (G Hs) st := by
 subst h2
 rcases hO with ⟨A, rfl, rfl, rfl⟩ | ⟨b, cap, cs, es, rfl, rfl, h3, h4, h5, h6⟩
 ·exact h R (aN.refl R) .nil
 ·obtain ⟨A, D, nj⟩ := hG
  rw [nj] at h hS ⊢
  refine Any.freeze cD hn (λ j p hp => hS j p hp) (λ R' hR hb => h R' hR ?_)
  exact ⟨_, cap, es, rfl, h5.mono hR, h4, λ _ => ⟨b, 0, cs, e, (0, 0), rfl, hb, λ j w hj => by simpa using h6 j w hj⟩⟩
theorem Any.ql {α : Type} {K : b7 α} [CM K] {kk e b m : Nat} (G : au → au) (hG : gh G) (h2 : G [] = H2) {ys : List α} {cs : Array Value} (hE : aG K kk R ys cs.toList) (hm : ys.length = m) (cD : rem.Nodup) (hn : rem.length ≤ n) (hS : ∀ j, ∀ p ∈ S j, p ∈ H2) (h : ∀ R', aN R R' → aj K kk R' (.slice (some ⟨b, 0, none⟩) m m) ys → Any ag c S ops k n rem R' H2 st) : Any ag c S ops k n rem R (G [(b, .cells cs e (0, 0))]) st := by
 subst hm h2
 obtain ⟨A, D, nj⟩ := hG
 rw [nj] at h hS ⊢
 refine Any.freeze cD hn (λ j p hp => hS j p hp) (λ R' hR hb => h R' hR ?_)
 exact ⟨_, ys.length, cs.toList, rfl, hE.mono hR, Nat.le_refl _, λ _ => ⟨b, 0, cs, e, (0, 0), rfl, hb, λ j w hj => by simpa using hj⟩⟩
end
theorem Ox.nilCheck {x : Operand} {a : Addr} {o : Oper} {C : aI → au → St → Prop} {st' : St} (hop : o.op = .nilCheck x) (hx : bk st x = some (.pointer (some a))) (hd : cj o.dst c.n)
  (hs : aK (bQ o.dst (.pointer (some a)) st) st') (h : C R H st') : aR P B c o R H st C :=
 Ox.val (by rw [hop]; rfl) hd (λ ρ hρ => by simp only [execOp, hop, hρ x _ hx]; exact av.pure _) hs h
def many (a : au) : List (Nat × au) → Nat → au
 | [], _ => a
 | (q, l) :: r, j => if j = q then l else many a r j
section
variable {a N : au} {ex : List (Nat × au)} {rem D : List Nat} {i q : Nat} {l H' : au}
theorem dm (ha : ∀ p ∈ N, p ∈ a) : ∀ j ∈ rem, j ≠ i → j ∉ D → ∀ p ∈ N, p ∈ many a [] j := λ _ _ _ _ p hp => ha p hp
theorem cq (hd : (D.contains q || q == i || !rem.contains q) = true) (h : ∀ j ∈ rem, j ≠ i → j ∉ D → ∀ p ∈ N, p ∈ many a ex j) : ∀ j ∈ rem, j ≠ i → j ∉ D → ∀ p ∈ N, p ∈ many a ((q, l) :: ex) j := by
 intro j hj hji oq p hp
 unfold many
 split
 ·subst_vars
  simp only [Bool.or_eq_true, Bool.not_eq_true', List.contains_iff_mem, beq_iff_eq] at hd
  rcases hd with (x | x) | x
  ·exact absurd x oq
  ·exact absurd x hji
  ·have : rem.contains j = true := List.contains_iff_mem.2 hj
   rw [this] at x; cases x
 ·exact h j hj hji oq p hp
theorem Hw (hl : ∀ p ∈ N, p ∈ l) (h : ∀ j ∈ rem, j ≠ i → j ∉ D → ∀ p ∈ N, p ∈ many a ex j) : ∀ j ∈ rem, j ≠ i → j ∉ D → ∀ p ∈ N, p ∈ many a ((q, l) :: ex) j := by
 intro j hj hji oq p hp
 unfold many
 split
 ·exact hl p hp
 ·exact h j hj hji oq p hp
theorem bO (he : many a ex i = l) (h : ∀ p ∈ l, p ∈ H') : ∀ p ∈ many a ex i, p ∈ H → p ∈ H' := by
 rw [he]; exact λ p hp _ => h p hp
theorem Li (ha : ∀ p ∈ a, p ∈ H') : ∀ j, ∀ p ∈ many a [] j, p ∈ H' := λ _ p hp => ha p hp
theorem Lj (hl : ∀ p ∈ l, p ∈ H') (h : ∀ j, ∀ p ∈ many a ex j, p ∈ H') : ∀ j, ∀ p ∈ many a ((q, l) :: ex) j, p ∈ H' := by
 intro j p hp
 unfold many at hp
 split at hp
 ·exact hl p hp
 ·exact h j p hp
end
end
end Go.Lg
namespace Go.Lg
open Go.Conc
abbrev fK := List (List Bool × Int)
def lu (k : List Bool) : Value := .agg (List.toArray ([] ++ (k.map Value.bool ++ [])))
def oZ : List MapEntry → fK → Prop
 | [], m => m = []
 | e :: es, m => ∃ k z r, m = (k, z) :: r ∧ e.key = lu k ∧ e.val = .int .i64 z ∧ k.length = 5 ∧ oZ es r
def kT : fK := [([], 0)]
def lM (m : fK) (k : List Bool) : Int := (m.lookup k).getD 0
theorem oZ.push {e : MapEntry} {k : List Bool} {z : Int} (h1 : e.key = lu k) (h2 : e.val = .int .i64 z) (h3 : k.length = 5) : ∀ {es : List MapEntry} {m : fK}, oZ es m → oZ (es ++ [e]) (m ++ [(k, z)])
 | [], m, h => by cases h; exact ⟨k, z, [], rfl, h1, h2, h3, rfl⟩
 | _ :: es, m, h => by
  obtain ⟨k', z', r, rfl, a, b, c, d⟩ := h
  exact ⟨k', z', r ++ [(k, z)], rfl, a, b, c, oZ.push h1 h2 h3 d⟩
def lT (v : Value) (m : fK) (Hs : au) : Prop := (v = .map none ∧ m = kT ∧ Hs = []) ∨ ∃ b es clock, v = .map (some b) ∧ Hs = [(b, .map es clock)] ∧ oZ es.toList m ∧ (m.map (·.1)).Nodup
def m5 (R : aI) (v : Value) (m : fK) : Prop := (v = .map none ∧ m = kT) ∨ ∃ b es clock m', v = .map (some b) ∧ R b = some (.map es clock) ∧ oZ es.toList m' ∧ (m'.map (·.1)).Nodup ∧ List.Perm m' m
theorem m5.mono {R R' : aI} {v : Value} {m : fK} (h : m5 R v m) (hR : aN R R') : m5 R' v m := by
 rcases h with h | ⟨b, es, cl, m', h1, h2, h3, h4, h5⟩
 ·exact .inl h
 ·exact .inr ⟨b, es, cl, m', h1, hR _ _ h2, h3, h4, h5⟩
theorem lT.one {v : Value} {m : fK} {Hs : au} (h : lT v m Hs) : v.oneCell' = true := by
 rcases h with ⟨rfl, _⟩ | ⟨b, es, cl, rfl, _⟩ <;> rfl
theorem lT.cells {v : Value} {m : fK} {Hs : au} (h : lT v m Hs) : v.cells = #[v] := by
 rcases h with ⟨rfl, _⟩ | ⟨b, es, cl, rfl, _⟩ <;> rfl
theorem lT.none : lT (.map none) kT [] := .inl ⟨rfl, rfl, rfl⟩
theorem axU {k : List Bool} (hk : k.length = 5) : lM kT k = lM [] k := by
 unfold lM kT
 rw [List.lookup_cons]
 cases k with
 | nil => cases hk
 | cons a k => rfl
theorem m5.none {R : aI} : m5 R (.map none) kT := .inl ⟨rfl, rfl⟩
theorem abn {m : fK} (hn : (m.map (·.1)).Nodup) {k : List Bool} {z : Int} (h : (k, z) ∈ m) : m.lookup k = some z := by
 induction m with
 | nil => cases h
 | cons p m ih =>
  obtain ⟨k', z'⟩ := p
  rw [List.map_cons, List.nodup_cons] at hn
  rw [List.lookup_cons]
  rcases List.mem_cons.1 h with h | h
  ·cases h; simp
  ·have hne : k ≠ k' := λ e => hn.1 (List.mem_map.2 ⟨_, h, e⟩)
   have : (k == k') = false := by simpa using hne
   rw [this]
   exact ih hn.2 h
theorem abo {m : fK} {k : List Bool} (h : k ∉ m.map (·.1)) : m.lookup k = none := by
 induction m with
 | nil => rfl
 | cons p m ih =>
  obtain ⟨k', z'⟩ := p
  rw [List.map_cons, List.mem_cons, not_or] at h
  rw [List.lookup_cons]
  have : (k == k') = false := by simpa using h.1
  rw [this]
  exact ih h.2
theorem axV {m m' : fK} (hn : (m'.map (·.1)).Nodup) (hp : List.Perm m' m) (k : List Bool) : lM m' k = lM m k := by
 have hn2 : (m.map (·.1)).Nodup := (hp.map _).nodup_iff.1 hn
 unfold lM
 by_cases hk : k ∈ m'.map (·.1)
 ·obtain ⟨⟨k', z⟩, h1, h2⟩ := List.mem_map.1 hk
  simp only at h2
  subst h2
  rw [abn hn h1, abn hn2 (hp.mem_iff.1 h1)]
 ·have hk2 : k ∉ m.map (·.1) := λ h => hk ((hp.map _).mem_iff.2 h)
  rw [abo hk, abo hk2]
structure BS (P : Program) (t kt et : TypeId) : Prop where
 ty : P.underlying t = some (.map kt et)
 key : ∃ d, P.underlying kt = some d ∧ ∀ a b, Instr.sameNow d a b = none
 eq : ∀ a b : List Bool, a.length = 5 → b.length = 5 → av P (Op.equal kt (lu a) (lu b)) (a == b)
 dg : ∀ (e : Bool) (a : List Bool), a.length = 5 → av P (Instr.checkKey e 10000 kt (lu a)) ()
 zero : av P (zeroValue et) (.int .i64 0)
section
variable {P : Program} {B : Base} {main : Bool} {ag : Jd P B main} {c : Ctx} {R : aI} {H : au} {st st' : St} {o : Oper} {C : aI → au → St → Prop}
def uu : fK → List Bool → Nat → Option (Nat × Value)
 | [], _, _ => none
 | (k', z) :: m, k, i => if k == k' then some (i, .int .i64 z) else uu m k (i + 1)
theorem acM {t kt et : TypeId} (ht : BS P t kt et) {k : List Bool} (hk : k.length = 5) : ∀ {es : List MapEntry} {m : fK} {i : Nat}, oZ es m → av P (Instr.findAsking kt (lu k) es i) (uu m k i)
 | [], m, i, h => by cases h; exact av.pure _
 | e :: es, m, i, h => by
  obtain ⟨k', z, r, rfl, h1, h2, h3, h4⟩ := h
  unfold Instr.findAsking
  rw [h1]
  refine av.bind (ht.eq k k' hk h3) ?_
  unfold uu
  cases k == k' with
  | true => rw [h2]; exact av.pure _
  | false => exact acM ht hk h4
theorem acO {t kt et : TypeId} (ht : BS P t kt et) {k : List Bool} (hk : k.length = 5) {es : List MapEntry} {m : fK} (h : oZ es m) : av P (Instr.findKey kt (lu k) es) (uu m k 0) := by
 obtain ⟨d, h1, h2⟩ := ht.key
 unfold Instr.findKey
 refine av.bind (av.underlying h1) ?_
 cases es with
 | nil => cases h; exact av.pure _
 | cons e es =>
  simp only [Instr.findNow, h2]
  exact acM ht hk h
theorem Ze : ∀ {m : fK} {k : List Bool} {i : Nat}, (match uu m k i with | some (_, v) => v | none => .int .i64 0) = .int .i64 (lM m k)
 | [], _, _ => rfl
 | (k', z) :: m, k, i => by
  unfold uu lM
  rw [List.lookup_cons]
  cases hk : k == k' with
  | true => rfl
  | false =>
   have := Ze (m := m) (k := k) (i := i + 1)
   unfold lM at this
   exact this
theorem Zf : ∀ {m : fK} {k : List Bool} {i : Nat}, k ∉ m.map (·.1) → uu m k i = none
 | [], _, _, _ => rfl
 | (k', z) :: m, k, i, h => by
  rw [List.map_cons, List.mem_cons, not_or] at h
  have : (k == k') = false := by simpa using h.1
  unfold uu
  rw [this]
  exact Zf h.2
theorem acn {t kt et : TypeId} (ht : BS P t kt et) {k : List Bool} (hk : k.length = 5) {es : List MapEntry} {m : fK} (h : oZ es m) {K : Value → aI → au → Prop} (hK : K (.int .i64 (lM m k)) R H) :
  aM P B R H (do
   Instr.checkKey es.isEmpty 10000 kt (lu k)
   let (v, ok) ← match ← Instr.findKey kt (lu k) es with
    | some (_, v) => pure (v, true)
    | none => pure (← zeroValue et, false)
   pure (if false then .tuple #[v, .bool ok] else v)) K := by
 refine av.cz (ht.dg _ k hk) (av.cz (acO ht hk h) ?_)
 have hg := Ze (m := m) (k := k) (i := 0)
 cases hf : uu m k 0 with
 | some q =>
  obtain ⟨i, v⟩ := q
  rw [hf] at hg
  simp only at hg
  subst hg
  exact aM.bind (aM.pure (aM.pure hK))
 | none =>
  rw [hf] at hg
  simp only at hg
  refine av.cz ht.zero (aM.bind (aM.pure (aM.pure ?_)))
  rw [hg]
  exact hK
theorem Ox.lookup {x y : Operand} {t kt et : TypeId} {v : Value} {m : fK} {k : List Bool} (hop : o.op = .lookup t x y false) (hx : bk st x = some v) (hy : bk st y = some (lu k)) (ht : BS P t kt et) (hm : m5 R v m) (hk : k.length = 5)
  (hd : cj o.dst c.n) (hs : aK (bQ o.dst (.int .i64 (lM m k)) st) st') (h : C R H st') : aR P B c o R H st C :=
 Ox.mem (s := λ ρ => Instr.lookup t (ρ x) (ρ y) false) (by rw [hop]; rfl) hd (λ ρ => by simp only [execOp, hop]) (λ ρ hρ => by
  rw [hρ x _ hx, hρ y _ hy]
  unfold Instr.lookup
  refine av.cz (av.underlying ht.ty) ?_
  rcases hm with ⟨rfl, rfl⟩ | ⟨b, es, cl, m', rfl, h1, h2, h3, h4⟩
  ·refine aM.bind (aM.pure ?_)
   rw [axU hk] at hs
   exact acn ht hk (es := []) rfl ⟨st', hs, h⟩
  ·refine aM.bind (aM.getObj rfl (.inl h1) ?_)
   rw [← axV h3 h4] at hs
   have := acn (B := B) (R := R) (H := H) (K := λ v R' H' => ∃ st', aK (bQ o.dst v st) st' ∧ C R' H' st') ht hk h2 ⟨st', hs, h⟩
   have e : es.isEmpty = es.toList.isEmpty := by simp
   rw [← e] at this
   exact aM.bind (aM.pure this))
theorem Ox.makeMap {t : TypeId} (hop : o.op = .makeMap t none) (hd : cj o.dst c.n)
  (hC : ∀ v Hs, lT v [] Hs → ∃ st', aK (bQ o.dst v st) st' ∧ C R (Hs ++ H) st') : aR P B c o R H st C :=
 Ox.mem (s := λ ρ => Instr.makeMap t none) (by rw [hop]; rfl) hd (λ ρ => by simp only [execOp, hop]; rfl) (λ ρ hρ => by
  unfold Instr.makeMap
  refine aM.bind (aM.new λ b _ _ => aM.pure ?_)
  exact hC (.map (some b)) [(b, .map #[] 0)] (.inr ⟨b, #[], 0, rfl, rfl, rfl, by simp⟩))
theorem Ox.axS {x y z : Operand} {t kt et : TypeId} {b : Nat} {es : Array MapEntry} {clock : Nat} {m : fK} {k : List Bool} {w : Int} {H' : au} (hop : o.op = .mapUpdate t x y z) (hx : bk st x = some (.map (some b))) (hy : bk st y = some (lu k)) (hz : bk st z = some (.int .i64 w)) (ht : BS P t kt et) (hm : oZ es.toList m) (hk : k.length = 5) (hn : k ∉ m.map (·.1))
  (hs : dN H b (.map es clock) (.map (es.push { key := lu k, val := .int .i64 w, born := clock }) (clock + 1)) H') (hd : o.dst = none) (hst : aK st st') (h : C R H' st') : aR P B c o R H st C :=
 Ox.Hz (s := λ ρ => Instr.mapUpdate t (ρ x) (ρ y) (ρ z)) (by rw [hop]; rfl) hd (λ ρ => by simp only [execOp, hop]) hst (λ ρ hρ => by
  rw [hρ x _ hx, hρ y _ hy, hρ z _ hz]
  unfold Instr.mapUpdate
  refine av.cz (av.underlying ht.ty) ?_
  refine aM.bind (aM.getObj rfl (.inr hs.mem) ?_)
  refine av.cz (ht.dg _ k hk) (av.cz (acO ht hk hm) ?_)
  rw [Zf hn]
  exact aM.setObj rfl rfl hs h)
theorem At.Fg {todo : List Item} (G : au → au) (hG : gh G) {H2 Hs : au} {v : Value} {m : fK} (h2 : G [] = H2) (hO : lT v m Hs) (h : ∀ R', aN R R' → m5 R' v m → At ag c R' H2 st todo) : At ag c R (G Hs) st todo := by
 subst h2
 rcases hO with ⟨rfl, rfl, rfl⟩ | ⟨b, es, cl, rfl, rfl, h3, h4⟩
 ·exact h R (aN.refl R) .none
 ·obtain ⟨A, D, nj⟩ := hG
  rw [nj] at h ⊢
  refine At.perm (H' := (b, .map es cl) :: (A ++ ([] ++ D))) (by simpa using List.perm_middle.symm) (At.freeze λ R' hR hb => h R' hR ?_)
  exact .inr ⟨b, es, cl, m, rfl, hb, h3, h4, List.Perm.refl _⟩
end
end Go.Lg
namespace Go.Lg
open Go.Conc
def eG (p w : Int) : Value := .agg #[.int .i64 p, .int .i64 w]
theorem Ii {p w p' w' : Int} (h : eG p w = eG p' w') : p = p' ∧ w = w' := by
 simp only [eG, Value.agg.injEq, Array.mk.injEq, List.cons.injEq, Value.int.injEq] at h
 exact ⟨h.1.2, h.2.1.2⟩
def wh (m : Int → Int → Int) (p w z : Int) : Int → Int → Int := λ a b => if a = p ∧ b = w then z else m a b
structure BO (es : List MapEntry) (m : Int → Int → Int) (clock : Nat) : Prop where
 E6 : ∀ e ∈ es, ∃ p w, e.key = eG p w ∧ e.val = .int .i64 (m p w)
 zero : ∀ p w, (∀ e ∈ es, e.key ≠ eG p w) → m p w = 0
 keys : ∀ (i j : Nat) (a b : MapEntry), es[i]? = some a → es[j]? = some b → a.key = b.key → i = j
 old : ∀ e ∈ es, e.born < clock
 O2 : ∀ (i j : Nat) (a b : MapEntry), es[i]? = some a → es[j]? = some b → a.born = b.born → i = j
def ue (v : Value) (m : Int → Int → Int) (Hs : au) : Prop := ∃ b es clock, v = .map (some b) ∧ Hs = [(b, .map es clock)] ∧ BO es.toList m clock
def Jf (v : Value) (m : Int → Int → Int) (p w g : Int) (Hs : au) : Prop := ∃ b es clock, v = .map (some b) ∧ Hs = [(b, .map es clock)] ∧ BO es.toList m clock ∧ ∃ (i : Nat) (e : MapEntry), es[i]? = some e ∧ e.key = eG p w ∧ g = (e.born : Int)
theorem Jf.own {v : Value} {m : Int → Int → Int} {p w g : Int} {Hs : au} (h : Jf v m p w g Hs) : ue v m Hs := by
 obtain ⟨b, es, cl, h1, h2, h3, _⟩ := h
 exact ⟨b, es, cl, h1, h2, h3⟩
structure EJ (P : Program) (t kt et : TypeId) : Prop where
 ty : P.underlying t = some (.map kt et)
 key : ∃ d, P.underlying kt = some d ∧ ∀ a b, Instr.sameNow d a b = none
 eq : ∀ a b c d : Int, av P (Op.equal kt (eG a b) (eG c d)) (a == c && (b == d && true))
 dg : ∀ (e : Bool) (a b : Int), av P (Instr.checkKey e 10000 kt (eG a b)) ()
 zero : av P (zeroValue et) (.int .i64 0)
section
variable {P : Program} {B : Base} {main : Bool} {ag : Jd P B main} {c : Ctx} {R : aI} {H : au} {st st' : St} {o : Oper} {C : aI → au → St → Prop}
def afR (es : List MapEntry) (p w : Int) (r : Option (Nat × Value)) : Prop :=
 (r = none ∧ ∀ e ∈ es, e.key ≠ eG p w) ∨ ∃ (i : Nat) (e : MapEntry), es[i]? = some e ∧ e.key = eG p w ∧ r = some (i, e.val)
theorem acN {t kt et : TypeId} (ht : EJ P t kt et) (p w : Int) : ∀ (es : List MapEntry) (i : Nat), (∀ e ∈ es, ∃ p w, e.key = eG p w) → ∃ r, av P (Instr.findAsking kt (eG p w) es i) r ∧ ((r = none ∧ ∀ e ∈ es, e.key ≠ eG p w) ∨ ∃ (j : Nat) (e : MapEntry), es[j]? = some e ∧ e.key = eG p w ∧ r = some (i + j, e.val))
 | [], i, h => ⟨none, av.pure _, .inl ⟨rfl, λ e he => (by cases he)⟩⟩
 | e :: es, i, h => by
  obtain ⟨p', w', hk⟩ := h e (by simp)
  by_cases heq : p = p' ∧ w = w'
  ·obtain ⟨rfl, rfl⟩ := heq
   refine ⟨some (i, e.val), ?_, .inr ⟨0, e, rfl, hk, rfl⟩⟩
   unfold Instr.findAsking
   rw [hk]
   refine av.bind (ht.eq p w p w) ?_
   simp only [beq_self_eq_true, Bool.and_self, if_true]
   exact av.pure _
  ·obtain ⟨r, hr, hc⟩ := acN ht p w es (i + 1) (λ e he => h e (by simp [he]))
   have hb : (p == p' && (w == w' && true)) = false := by
    simp only [Bool.and_true, Bool.and_eq_false_iff, beq_eq_false_iff_ne]
    by_cases hp : p = p'
    ·exact .inr λ hw => heq ⟨hp, hw⟩
    ·exact .inl hp
   refine ⟨r, ?_, ?_⟩
   ·unfold Instr.findAsking
    rw [hk]
    refine av.bind (ht.eq p w p' w') ?_
    rw [hb]
    exact hr
   ·rcases hc with ⟨rfl, hc⟩ | ⟨j, e', h1, h2, rfl⟩
    ·refine .inl ⟨rfl, λ x hx => ?_⟩
     rcases List.mem_cons.1 hx with rfl | hx
     ·intro e2
      obtain ⟨a, b⟩ := Ii (hk.symm.trans e2)
      exact heq ⟨a.symm, b.symm⟩
     ·exact hc x hx
    ·exact .inr ⟨j + 1, e', by simpa using h1, h2, by simp; omega⟩
theorem acP {t kt et : TypeId} (ht : EJ P t kt et) (p w : Int) {es : List MapEntry} {m : Int → Int → Int} {cl : Nat} (h : BO es m cl) : ∃ r, av P (Instr.findKey kt (eG p w) es) r ∧ afR es p w r := by
 obtain ⟨d, h1, h2⟩ := ht.key
 obtain ⟨r, hr, hc⟩ := acN ht p w es 0 (λ e he => let ⟨p, w, hk, _⟩ := h.E6 e he; ⟨p, w, hk⟩)
 cases es with
 | nil => exact ⟨none, by unfold Instr.findKey; exact av.bind (av.underlying h1) (av.pure _), .inl ⟨rfl, λ e he => by cases he⟩⟩
 | cons e es =>
  refine ⟨r, ?_, ?_⟩
  ·unfold Instr.findKey
   refine av.bind (av.underlying h1) ?_
   simp only [Instr.findNow, h2]
   exact hr
  ·rcases hc with hc | ⟨j, e', h1, h2, h3⟩
   ·exact .inl hc
   ·exact .inr ⟨j, e', h1, h2, by simpa using h3⟩
theorem Ox.axR {t : TypeId} (hop : o.op = .makeMap t none) (hd : cj o.dst c.n)
  (hC : ∀ v Hs, ue v (λ _ _ => 0) Hs → ∃ st', aK (bQ o.dst v st) st' ∧ C R (Hs ++ H) st') : aR P B c o R H st C :=
 Ox.mem (s := λ ρ => Instr.makeMap t none) (by rw [hop]; rfl) hd (λ ρ => by simp only [execOp, hop]; rfl) (λ ρ hρ => by
  unfold Instr.makeMap
  refine aM.bind (aM.new λ b _ _ => aM.pure ?_)
  exact hC (.map (some b)) [(b, .map #[] 0)] ⟨b, #[], 0, rfl, rfl, ⟨λ e he => (by cases he), λ _ _ _ => rfl, λ i j a b ha => (by simp at ha), λ e he => (by cases he), λ i j a b ha => (by simp at ha)⟩⟩)
theorem Ox.TU {x y : Operand} {t kt et : TypeId} {v : Value} {m : Int → Int → Int} {p w : Int} {Hs : au} (hop : o.op = .lookup t x y false) (hx : bk st x = some v) (hy : bk st y = some (eG p w)) (ht : EJ P t kt et) (hm : ue v m Hs) (hH : ∀ q ∈ Hs, q ∈ H)
  (hd : cj o.dst c.n) (hs : aK (bQ o.dst (.int .i64 (m p w)) st) st') (h : C R H st') : aR P B c o R H st C :=
 Ox.mem (s := λ ρ => Instr.lookup t (ρ x) (ρ y) false) (by rw [hop]; rfl) hd (λ ρ => by simp only [execOp, hop]) (λ ρ hρ => by
  rw [hρ x _ hx, hρ y _ hy]
  unfold Instr.lookup
  refine av.cz (av.underlying ht.ty) ?_
  obtain ⟨b, es, cl, rfl, rfl, he⟩ := hm
  refine aM.bind (aM.getObj rfl (.inr (hH (b, .map es cl) (by simp))) ?_)
  refine aM.bind (aM.pure ?_)
  obtain ⟨r, hr, hf⟩ := acP ht p w he
  refine av.cz (ht.dg _ p w) (av.cz hr ?_)
  rcases hf with ⟨rfl, hn⟩ | ⟨i, e, h1, h2, rfl⟩
  ·refine av.cz ht.zero (aM.bind (aM.pure (aM.pure ?_)))
   rw [he.zero p w hn] at hs
   exact ⟨st', hs, h⟩
  ·obtain ⟨p', w', hk, hv⟩ := he.E6 e (List.mem_of_getElem? h1)
   obtain ⟨rfl, rfl⟩ := Ii (hk.symm.trans h2)
   rw [hv]
   exact aM.bind (aM.pure (aM.pure ⟨st', hs, h⟩)))
theorem azn (p w : Int) : Instr.sameBits 10000 (eG p w) (eG p w) = true := by
 simp [Instr.sameBits, eG]
theorem ax2 {es : Array MapEntry} {i : Nat} {e : MapEntry} {k : Value} (h : es[i]? = some e) (hk : e.key = k) : es.modify i (λ e => { e with key := k }) = es := by
 apply Array.ext_getElem?
 intro j
 rw [Array.getElem?_modify]
 by_cases hj : i = j
 ·subst hj; simp [h, ← hk]
 ·simp [hj]
theorem BO.push {es : Array MapEntry} {m : Int → Int → Int} {cl : Nat} {p w : Int} (h : BO es.toList m cl) (hn : ∀ e ∈ es.toList, e.key ≠ eG p w) :
  BO (es.push { key := eG p w, val := .int .i64 0, born := cl }).toList m (cl + 1) := by
 rw [Array.toList_push]
 refine ⟨λ e he => ?_, λ p' w' hne => ?_, λ i j a b ha hb hab => ?_, λ e he => ?_, λ i j a b ha hb hab => ?_⟩
 ·rcases List.mem_append.1 he with he | he
  ·exact h.E6 e he
  ·rcases List.mem_singleton.1 he with rfl
   exact ⟨p, w, rfl, by rw [h.zero p w hn]⟩
 ·exact h.zero p' w' λ e he => hne e (List.mem_append.2 (.inl he))
 ·rw [List.getElem?_append] at ha hb
  split at ha <;> split at hb
  ·exact h.keys i j a b ha hb hab
  ·rename_i h1 h2
   have : b = { key := eG p w, val := .int .i64 0, born := cl } := by
    have := List.mem_of_getElem? hb; simpa using this
   subst this
   exact absurd hab (hn a (List.mem_of_getElem? ha))
  ·rename_i h1 h2
   have : a = { key := eG p w, val := .int .i64 0, born := cl } := by
    have := List.mem_of_getElem? ha; simpa using this
   subst this
   exact absurd hab.symm (hn b (List.mem_of_getElem? hb))
  ·have h1 := (List.getElem?_eq_some_iff.1 ha).1
   have h2 := (List.getElem?_eq_some_iff.1 hb).1
   simp only [List.length_singleton, Array.length_toList] at *
   omega
 ·rcases List.mem_append.1 he with he | he
  ·have := h.old e he; omega
  ·rcases List.mem_singleton.1 he with rfl
   exact Nat.lt_succ_self _
 ·rw [List.getElem?_append] at ha hb
  split at ha <;> split at hb
  ·exact h.O2 i j a b ha hb hab
  ·have : b = { key := eG p w, val := .int .i64 0, born := cl } := by
    have := List.mem_of_getElem? hb; simpa using this
   subst this
   have := h.old a (List.mem_of_getElem? ha)
   simp only at hab
   omega
  ·have : a = { key := eG p w, val := .int .i64 0, born := cl } := by
    have := List.mem_of_getElem? ha; simpa using this
   subst this
   have := h.old b (List.mem_of_getElem? hb)
   simp only at hab
   omega
  ·have h1 := (List.getElem?_eq_some_iff.1 ha).1
   have h2 := (List.getElem?_eq_some_iff.1 hb).1
   simp only [List.length_singleton, Array.length_toList] at *
   omega
theorem Ox.mapEntry {x y : Operand} {t kt et : TypeId} {v : Value} {m : Int → Int → Int} {p w : Int} {Hs : au} (G : au → au) (hop : o.op = .mapEntry t x y) (hx : bk st x = some v) (hy : bk st y = some (eG p w)) (ht : EJ P t kt et) (hG : gh G) (hm : ue v m Hs)
  (hd : cj o.dst c.n) (hC : ∀ g cH, Jf v m p w g cH → ∃ st', aK (bQ o.dst (.tuple #[.int .i64 (m p w), .int .i64 g]) st) st' ∧ C R (G cH) st') : aR P B c o R (G Hs) st C :=
 Ox.mem (s := λ ρ => Instr.mapEntry t (ρ x) (ρ y)) (by rw [hop]; rfl) hd (λ ρ => by simp only [execOp, hop]) (λ ρ hρ => by
  rw [hρ x _ hx, hρ y _ hy]
  unfold Instr.mapEntry
  refine av.cz (av.underlying ht.ty) ?_
  obtain ⟨b, es, cl, rfl, rfl, he⟩ := hm
  refine aM.bind (aM.getObj rfl (.inr (hG.set (o' := .map es cl)).mem) ?_)
  obtain ⟨r, hr, hf⟩ := acP ht p w he
  refine av.cz (ht.dg _ p w) (av.cz hr ?_)
  rcases hf with ⟨rfl, hn⟩ | ⟨i, e, h1, h2, rfl⟩
  ·refine av.cz ht.zero (aM.bind (aM.setObj rfl rfl hG.set (aM.pure ?_)))
   have := hC (cl : Int) [(b, .map (es.push { key := eG p w, val := .int .i64 0, born := cl }) (cl + 1))] ⟨b, es.push { key := eG p w, val := .int .i64 0, born := cl }, cl + 1, rfl, rfl, he.push hn, es.size, { key := eG p w, val := .int .i64 0, born := cl }, by simp, rfl, rfl⟩
   rw [he.zero p w hn] at this
   exact this
  ·obtain ⟨p', w', hk, hv⟩ := he.E6 e (List.mem_of_getElem? h1)
   obtain ⟨rfl, rfl⟩ := Ii (hk.symm.trans h2)
   have J6 : es[i]? = some e := by simpa using h1
   have hst : av P (Instr.keyThatStays (((es[i]?).map (·.key)).getD (eG p' w')) (eG p' w')) (eG p' w') := by
    rw [J6]
    simp only [Option.map_some, Option.getD_some, hk, Instr.keyThatStays, azn, if_true]
    exact av.pure _
   refine av.cz hst (aM.bind (aM.setObj rfl rfl hG.set (aM.pure ?_)))
   rw [ax2 J6 hk, J6, hv]
   exact hC (e.born : Int) _ ⟨b, es, cl, rfl, rfl, he, i, e, J6, hk, rfl⟩)
theorem gl {α : Type} {a : Array α} {j : Nat} {x : α} (h : a.toList[j]? = some x) : a[j]? = some x := by rwa [Array.getElem?_toList] at h
theorem av.asInt {k : IntKind} {z : Int} : av P (asInt (.int k z)) z := av.pure _
theorem Ox.entryStore {x y z : Operand} {t : TypeId} {v : Value} {m : Int → Int → Int} {p w g n : Int} {Hs : au} (G : au → au) (hop : o.op = .entryStore t x y z) (hx : bk st x = some v) (hy : bk st y = some (.int .i64 g)) (hz : bk st z = some (.int .i64 n)) (hG : gh G) (hm : Jf v m p w g Hs)
  (hd : o.dst = none) (hst : aK st st') (hC : ∀ cH, ue v (wh m p w n) cH → C R (G cH) st') : aR P B c o R (G Hs) st C :=
 Ox.Hz (s := λ ρ => Instr.entryStore t (ρ x) (ρ y) (ρ z)) (by rw [hop]; rfl) hd (λ ρ => by simp only [execOp, hop]) hst (λ ρ hρ => by
  rw [hρ x _ hx, hρ y _ hy, hρ z _ hz]
  unfold Instr.entryStore
  obtain ⟨b, es, cl, rfl, rfl, he, i, e, hi, hk, rfl⟩ := hm
  refine aM.bind (aM.getObj rfl (.inr (hG.set (o' := .map es cl)).mem) ?_)
  refine av.cz av.asInt ?_
  have hfi : es.findIdx? (λ e' => (e'.born : Int) == (e.born : Int)) = some i := by
   obtain ⟨hlt, hge⟩ := Array.getElem?_eq_some_iff.1 hi
   rw [Array.findIdx?_eq_some_iff_getElem]
   refine ⟨hlt, by simp [hge], λ j hj => ?_⟩
   have hjl : j < es.size := by omega
   simp only [Bool.not_eq_true, beq_eq_false_iff_ne]
   intro hb
   have := he.O2 j i es[j] e (by simp [hjl]) (by simpa using hi) (by exact_mod_cast hb)
   omega
  rw [hfi]
  refine aM.setObj rfl rfl hG.set (hC _ ⟨b, _, cl, rfl, rfl, ?_⟩)
  have qx : ∀ j a, (es.modify i λ e => { e with val := .int .i64 n })[j]? = some a → ∃ a0, es[j]? = some a0 ∧ a.key = a0.key ∧ a.born = a0.born ∧ a.val = if i = j then .int .i64 n else a0.val := by
   intro j a ha
   rw [Array.getElem?_modify] at ha
   by_cases hj : i = j
   ·subst hj
    rw [hi] at ha
    simp only [if_true, Option.map_some, Option.some.injEq] at ha
    subst ha
    exact ⟨e, hi, rfl, rfl, by simp⟩
   ·simp only [hj, if_false] at ha
    exact ⟨a, ha, rfl, rfl, by simp [hj]⟩
  have hmem : ∀ a ∈ (es.modify i λ e => { e with val := .int .i64 n }).toList, ∃ j, (es.modify i λ e => { e with val := .int .i64 n })[j]? = some a := λ a ha => by
   obtain ⟨j, hj⟩ := List.mem_iff_getElem?.1 ha
   exact ⟨j, gl hj⟩
  refine ⟨λ a ha => ?_, λ p' w' hne => ?_, λ j k a b' ha hb hab => ?_, λ a ha => ?_, λ j k a b' ha hb hab => ?_⟩
  ·obtain ⟨j, hj⟩ := hmem a ha
   obtain ⟨a0, h1, h2, h3, h4⟩ := qx j a hj
   obtain ⟨p', w', hk', Gy⟩ := he.E6 a0 (by rw [← Array.mem_def]; exact Array.mem_of_getElem? h1)
   refine ⟨p', w', h2.trans hk', ?_⟩
   rw [h4]
   by_cases hij : i = j
   ·subst hij
    rw [hi] at h1; cases h1
    obtain ⟨rfl, rfl⟩ := Ii (hk.symm.trans hk')
    simp [wh]
   ·rw [if_neg hij, Gy]
    unfold wh
    rw [if_neg]
    rintro ⟨rfl, rfl⟩
    exact hij (he.keys i j e a0 (by simpa using hi) (by simpa using h1) (hk.trans hk'.symm))
  ·unfold wh
   by_cases Rx : p' = p ∧ w' = w
   ·obtain ⟨rfl, rfl⟩ := Rx
    exfalso
    obtain ⟨hlt, hge⟩ := Array.getElem?_eq_some_iff.1 hi
    refine hne { e with val := .int .i64 n } ?_ hk
    rw [← Array.mem_def]
    exact Array.mem_of_getElem? (i := i) (by rw [Array.getElem?_modify]; simp [hi])
   ·rw [if_neg Rx]
    refine he.zero p' w' λ a ha => ?_
    obtain ⟨j, hj⟩ := List.mem_iff_getElem?.1 ha
    have hj' : es[j]? = some a := by simpa using hj
    by_cases hij : i = j
    ·subst hij
     rw [hi] at hj'; cases hj'
     intro e2
     obtain ⟨rfl, rfl⟩ := Ii (hk.symm.trans e2)
     exact Rx ⟨rfl, rfl⟩
    ·exact hne a (by rw [← Array.mem_def]; exact Array.mem_of_getElem? (i := j) (by rw [Array.getElem?_modify]; simp [hij, hj']))
  ·obtain ⟨a0, h1, h2, _⟩ := qx j a (gl ha)
   obtain ⟨b0, k1, k2, _⟩ := qx k b' (gl hb)
   exact he.keys j k a0 b0 (by simpa using h1) (by simpa using k1) (h2.symm.trans (hab.trans k2))
  ·obtain ⟨j, hj⟩ := hmem a ha
   obtain ⟨a0, h1, h2, h3, h4⟩ := qx j a hj
   rw [h3]
   exact he.old a0 (by rw [← Array.mem_def]; exact Array.mem_of_getElem? h1)
  ·obtain ⟨a0, h1, _, h3, _⟩ := qx j a (gl ha)
   obtain ⟨b0, k1, _, k3, _⟩ := qx k b' (gl hb)
   exact he.O2 j k a0 b0 (by simpa using h1) (by simpa using k1) (h3.symm.trans (hab.trans k3)))
end
end Go.Lg
namespace Go.Lg
open Go.Conc
class rT (P : Program) where
 off : Nat → Nat → Option Nat
 ok : ∀ s f n, off s f = some n → fq P s f n
def L2 (fo : Nat → Nat → Option Nat) (st : St) (o : Oper) : Option Value :=
 match o.op with
 | .move x => bk st x
 | .assign x => bk st x
 | .pick x y z => match bk st x with
  | some (.bool true) => bk st y
  | some (.bool false) => bk st z
  | _ => none
 | .extract x j => match bk st x with
  | some (.tuple vs) => vs[j]?
  | _ => none
 | .unOp .not _ x => match bk st x with
  | some (.bool a) => some (.bool (!a))
  | _ => none
 | .binOp bo _ x y _ => match bk st x, bk st y with
  | some (.int kd a), some (.int kd' b) => if kd = kd' then (match Pf bo a b with
   | some r => some (.bool r)
   | none => match OX bo a b with
    | some z => some (.int kd (kd.wrap z))
    | none => none) else none
  | _, _ => none
 | .fieldAddr s x f => match bk st x, fo s f with
  | some (.pointer (some ⟨b, n, none⟩)), some off => some (.pointer (some ⟨b, n + off, none⟩))
  | _, _ => none
 | _ => none
section
variable {P : Program} [rT P] {B : Base} {main : Bool} {ag : Jd P B main} {c : Ctx} {R : aI} {H : au} {st st' : St} {o : Oper} {C : aI → au → St → Prop} {k : List Item}
theorem acd {v : Value} (h : L2 (rT.off P) st o = some v) (hd : cj o.dst c.n) (hs : aK (bQ o.dst v st) st') (hC : C R H st') : aR P B c o R H st C := by
 unfold L2 at h
 split at h
 ·rename_i x hop; exact Ox.move hop h hd hs hC
 ·rename_i x hop; exact Ox.assign hop h hd hs hC
 ·rename_i x y z hop
  split at h
  ·rename_i hx; exact Ox.ayS hop hx h hd hs hC
  ·rename_i hx; exact Ox.ayR hop hx h hd hs hC
  ·cases h
 ·rename_i x j hop
  split at h
  ·rename_i hx; exact Ox.extract hop hx h hd hs hC
  ·cases h
 ·rename_i t x hop
  split at h
  ·rename_i hx; cases h; exact Ox.not hop hx hd hs hC
  ·cases h
 ·rename_i bo t x y u hop
  split at h
  ·rename_i kd a kd' b hx hy
   split at h
   ·rename_i e; subst e
    split at h
    ·rename_i r hr; cases h; exact Ox.cmp hop hx hy hr hd hs hC
    ·split at h
     ·rename_i z hz; cases h; exact Ox.ar hop hx hy hz hd hs hC
     ·cases h
   ·cases h
  ·cases h
 ·rename_i s x f hop
  split at h
  ·rename_i hx hf; cases h; exact Ox.fieldAddr hop hx (rT.ok s f _ hf) hd hs hC
  ·cases h
 ·cases h
def UR (fo : Nat → Nat → Option Nat) (ops : Array Oper) (n : Nat) (st : St) (i : Nat) : Option St :=
 match ops[i]? with
 | none => none
 | some o => match dP ops st o with
  | some true => match L2 fo st o, o.dst with
   | some v, some d => if Nat.blt d n = true then some ((d, v) :: st) else none
   | _, _ => none
  | some false => match lq o.op, o.dst with
   | false, some d => if Nat.blt d n = true then some ((d, undef) :: st) else none
   | false, none => some st
   | _, _ => none
  | none => none
def xS (fo : Nat → Nat → Option Nat) (ops : Array Oper) (n : Nat) : List Nat → St → Option St
 | [], st => some st
 | i :: is, st => match UR fo ops n st i with
  | some st' => xS fo ops n is st'
  | none => none
theorem acF {ops : Array Oper} {n i : Nat} {fo : Nat → Nat → Option Nat} (h : UR fo ops n st i = some st') : ∃ o, ops[i]? = some o ∧
  ((dP ops st o = some true ∧ ∃ v d, L2 fo st o = some v ∧ o.dst = some d ∧ cj (some d) n ∧ st' = (d, v) :: st) ∨
   (dP ops st o = some false ∧ lq o.op = false ∧ cj o.dst n ∧ st' = bQ o.dst undef st)) := by
 unfold UR at h
 split at h
 ·cases h
 ·rename_i o ho
  refine ⟨o, ho, ?_⟩
  split at h
  ·rename_i hw
   split at h
   ·rename_i v d hv hd
    split at h
    ·rename_i hl; cases h; exact .inl ⟨hw, v, d, hv, hd, hl, rfl⟩
    ·cases h
   ·cases h
  ·rename_i hw
   split at h
   ·rename_i d hdf hd
    split at h
    ·rename_i hl; cases h; exact .inr ⟨hw, hdf, by rw [hd]; exact hl, by rw [hd]; rfl⟩
    ·cases h
   ·rename_i hdf hd
    cases h; exact .inr ⟨hw, hdf, by rw [hd]; rfl, by rw [hd]; rfl⟩
   ·cases h
  ·cases h
theorem At.run {ops : Array Oper} (hk : (c.kind == CallKind.early) = false) : ∀ {is rest : List Nat} {st : St}, xS (rT.off P) ops c.n is st = some st' → At ag c R H st' (.inRegion ops rest :: k) → At ag c R H st (.inRegion ops (is ++ rest) :: k)
 | [], rest, st, h, ha => by cases h; exact ha
 | i :: is, rest, st, h, ha => by
  unfold xS at h
  split at h
  ·rename_i x4 h1
   have ih := At.run hk h ha
   obtain ⟨o, ho, ⟨hw, v, d, hv, hd, hl, rfl⟩ | ⟨hw, hdf, hl, rfl⟩⟩ := acF h1
   ·exact At.cF ho hw hk (acd hv (by rw [hd]; exact hl) (by rw [hd]; exact aK.refl _) ih)
   ·exact At.unwanted ho hw hl (aK.refl _) ih
  ·cases h
theorem At.vs (m : Nat) {ops : Array Oper} {is Aw : List Nat} (h : xS (rT.off P) ops c.n (is.take m) st = some st') (hr : is.drop m = Aw) (ha : At ag c R H st' (.inRegion ops Aw :: k)) (hk : (c.kind == CallKind.early) = false := by rfl) : At ag c R H st (.inRegion ops is :: k) := by
 subst hr
 have := At.run (rest := is.drop m) hk h ha
 rwa [List.take_append_drop] at this
def YE (ops : Array Oper) (rem : List Nat) (i : Nat) : Nat → List Nat → List Nat
 | 0, D => D
 | n + 1, D => YE ops rem i n (rem.filter λ j => j != i && (D.contains j || match ops[j]? with | some o => o.after.any λ e => Region.binds .any e && (e.on == i || D.contains e.on) | none => false))
def JQ (ops : Array Oper) (rem : List Nat) (i : Nat) : List Nat := YE ops rem i rem.length []
def JO (ops : Array Oper) : List Nat → List Nat → Bool
 | _, [] => true
 | rem, i :: is => decide rem.Nodup && nJ ops rem i (JQ ops rem i) && JO ops (rem.erase i) is
theorem Any.vs' {S : Nat → au} {ops : Array Oper} {n : Nat} : ∀ (is : List Nat) {rem : List Nat} {st : St}, xS (rT.off P) ops c.n is st = some st' → JO ops rem is = true → Any ag c S ops k n (is.foldl List.erase rem) R H st' → Any ag c S ops k (n + is.length) rem R H st
 | [], rem, st, h, _, ha => by cases h; exact ha
 | i :: is, rem, st, h, hc, ha => by
  unfold xS at h
  split at h
  ·rename_i x4 h1
   simp only [JO, Bool.and_eq_true, decide_eq_true_eq] at hc
   obtain ⟨⟨cD, gu⟩, hc⟩ := hc
   have ih := Any.vs' is h hc ha
   obtain ⟨o, ho, ⟨hw, v, d, hv, hd, hl, rfl⟩ | ⟨hw, hdf, hl, rfl⟩⟩ := acF h1
   ·exact Any.UW (N := []) _ ho hd hw gu (λ _ _ _ _ p hp => by cases hp) (λ p hp => by cases hp) (λ R' H' _ _ => acd hv (by rw [hd]; exact hl) (.one hd) ⟨rfl, rfl, rfl⟩) (aK.refl _) cD rfl ih
   ·exact Any.az4 _ ho gu hdf hl hw (aK.refl _) cD rfl ih
  ·cases h
theorem Any.vs {S : Nat → au} {ops : Array Oper} {n : Nat} (m : Nat) (is : List Nat) {rem : List Nat} {st : St} (h : xS (rT.off P) ops c.n is st = some st') (ha : Any ag c S ops k n (is.foldl List.erase rem) R H st') (hc : JO ops rem is = true := by decide +kernel) (hm : is.length = m := by rfl) : Any ag c S ops k (n + m) rem R H st := by
 subst hm
 exact Any.vs' is h hc ha
end
section
variable {P : Program} {B : Base} {main : Bool} {ag : Jd P B main} {c : Ctx} {R : aI} {H : au} {st st' : St} {o : Oper} {C : aI → au → St → Prop} {k : List Item}
theorem At.rg (is : List Nat) {id : Nat} {ops : Array Oper} (h : At ag c R H st (.inRegion ops is :: k)) (hn : ops.size = is.length := by rfl) (lg : List.range is.length = is := by rfl) : At ag c R H st (.code (.region id ops false) :: k) := At.g9 hn lg h
theorem At.dw (is : List Nat) {id : Nat} {ops : Array Oper} (hm : P.follows .mixedOrders = true) (h : Any ag c (λ _ => H) ops k is.length is R H st) (hk : (c.kind == CallKind.early) = false := by rfl) (hb : backward ops = true := by decide +kernel) (hn : ops.size = is.length := by rfl) (lg : List.range is.length = is := by rfl) : At ag c R H st (.code (.region id ops true) :: k) := At.ah5 hm hk hb hn lg h
theorem Any.tk (i : Nat) {N : au} {ops : Array Oper} {n d : Nat} {rem : List Nat} {v : Value} (ho : ops[i]? = some o) (hS : ∀ p ∈ N, p ∈ H) (hf : ∀ R' H', aN R R' → (∀ p ∈ N, p ∈ H') → aR P B c o R' H' st λ R1 H1 x4 => R1 = R' ∧ H1 = H' ∧ x4 = [(d, v)])
  (h : Any ag c (λ _ => N) ops k n (rem.erase i) R H ((d, v) :: st)) (nv : o.dst = some d := by rfl) (hw : dP ops st o = some true := by rfl) (gu : nJ ops rem i (JQ ops rem i) = true := by decide +kernel) (cD : rem.Nodup := by decide) : Any ag c (λ _ => N) ops k (n + 1) rem R H st :=
 Any.UW _ ho nv hw gu (λ _ _ _ _ _ hp => hp) hS hf (aK.refl _) cD rfl h
theorem At.cv {ops : Array Oper} {i d : Nat} {rest : List Nat} {ca : Call} {x : Operand} {f : FuncId} {first captured : Array Value} {vs : List Value} {args : Array Value} {Post : Value → aI → au → Prop} (he : aV P f) (hf : aJ ag f args R H Post)
  (h : ∀ v R' H', Post v R' H' → At ag c R' H' ((d, v) :: st) (.inRegion ops rest :: k))
  (ho : ops[i]? = some o := by rfl) (hw : dP ops st o = some true := by rfl) (hk : (c.kind == CallKind.early) = false := by rfl) (hop : o.op = .call ca := by rfl) (hc : ca.callee = .value x := by rfl) (hx : bk st x = some (.func (.func f) first captured) := by rfl)
  (ha : qf st ca.args.toList = some vs := by rfl) (hargs : first ++ vs.toArray ++ captured = args := by rfl) (hd : o.dst = some d := by rfl) (hl : Nat.blt d c.n = true := by rfl) : At ag c R H st (.inRegion ops (i :: rest) :: k) :=
 At.step ho hw hk (Ox.dO hop hc hx ha he hargs (by rw [hd]; exact hl) (hf.mono λ v R' H' hp => ⟨_, .put hd, h v R' H' hp⟩))
theorem Any.cv (i : Nat) {S : Nat → au} {ops : Array Oper} {n d : Nat} {rem : List Nat} {ca : Call} {x : Operand} {f : FuncId} {first captured : Array Value} {vs : List Value} {args : Array Value} {Post : Value → aI → au → Prop} (he : aV P f) (hf : aJ ag f args R H Post)
  (h : ∀ v R' H', Post v R' H' → aN R R' ∧ (∀ p ∈ S i, p ∈ H → p ∈ H') ∧ Any ag c S ops k n (rem.erase i) R' H' ((d, v) :: st))
  (ho : ops[i]? = some o := by rfl) (hw : dP ops st o = some true := by rfl) (hop : o.op = .call ca := by rfl) (hc : ca.callee = .value x := by rfl) (hx : bk st x = some (.func (.func f) first captured) := by rfl)
  (ha : qf st ca.args.toList = some vs := by rfl) (hargs : first ++ vs.toArray ++ captured = args := by rfl) (hd : o.dst = some d := by rfl) (hl : Nat.blt d c.n = true := by rfl) (hrd : rem.filter (kI ops rem) = [i] := by decide +kernel) (cD : rem.Nodup := by decide) : Any ag c S ops k (n + 1) rem R H st :=
 Any.one ho hrd hw cD rfl (Ox.dO hop hc hx ha he hargs (by rw [hd]; exact hl) (hf.mono λ v R' H' hp => ⟨_, .put hd, h v R' H' hp⟩))
theorem Any.on (i : Nat) {S : Nat → au} {ops : Array Oper} {n : Nat} {rem : List Nat} (ho : ops[i]? = some o) (hw : dP ops st o = some true)
  (h : lS ag c o R H st λ R' H' st' => aN R R' ∧ (∀ p ∈ S i, p ∈ H → p ∈ H') ∧ Any ag c S ops k n (rem.erase i) R' H' st') (hrd : rem.filter (kI ops rem) = [i] := by decide +kernel) (cD : rem.Nodup := by decide) : Any ag c S ops k (n + 1) rem R H st := Any.one ho hrd hw cD rfl h
theorem At.ld {ops : Array Oper} {i d : Nat} {rest : List Nat} {x : Operand} {t : TypeId} {b off : Nat} {v : Value} (ht : gk P t) (hc : Cell R H ⟨b, off, none⟩ v) (h : At ag c R H ((d, v) :: st) (.inRegion ops rest :: k))
  (ho : ops[i]? = some o := by rfl) (hw : dP ops st o = some true := by rfl) (hk : (c.kind == CallKind.early) = false := by rfl) (hop : o.op = .load t x := by rfl) (hx : bk st x = some (.pointer (some ⟨b, off, none⟩)) := by rfl) (hd : o.dst = some d := by rfl) (hl : Nat.blt d c.n = true := by rfl) : At ag c R H st (.inRegion ops (i :: rest) :: k) :=
 At.cF ho hw hk (Ox.bV hop hx ht hc (by rw [hd]; exact hl) (.put hd) h)
theorem At.kn (t : Nat) {x b : Bool} {todo : List Item} (hb : x = b) (h : At ag c R H ((t, .bool b) :: st) todo) (hx : st.lookup t = some (.bool x) := by rfl) : At ag c R H st todo := At.known hx hb h
theorem At.s {ops : Array Oper} {i : Nat} {rest : List Nat} (ho : ops[i]? = some o) (hw : dP ops st o = some true) (h : aR P B c o R H st λ R' H' st' => At ag c R' H' st' (.inRegion ops rest :: k)) (hk : (c.kind == CallKind.early) = false := by rfl) : At ag c R H st (.inRegion ops (i :: rest) :: k) := At.cF ho hw hk h
end
abbrev aL : List Nat := [0]
abbrev aQ : List Nat := [0, 1]
abbrev aS : List Nat := [0, 1, 2]
abbrev bn : List Nat := [0, 1, 2, 3]
abbrev bT : List Nat := [0, 1, 2, 3, 4]
abbrev dy : List Nat := [0, 1, 2, 3, 4, 5]
abbrev dY : List Nat := [0, 1, 2, 3, 4, 5, 6]
abbrev eC : List Nat := [0, 1, 2, 3, 4, 5, 6, 7]
abbrev gd : List Nat := [0, 1, 2, 3, 4, 5, 6, 7, 8]
abbrev mM : List Nat := [0, 1, 2, 3, 4, 5, 6, 7, 8, 9]
abbrev yO : List Nat := [0, 1, 2, 3, 4, 5, 6, 7, 8, 9, 10]
abbrev oV : List Nat := [0, 1, 2, 3, 4, 5, 6, 7, 8, 9, 10, 11]
abbrev BL : List Nat := [0, 1, 2, 3, 4, 5, 6, 7, 8, 9, 10, 11, 12]
abbrev El : List Nat := [0, 1, 2, 3, 4, 5, 6, 7, 8, 9, 10, 11, 12, 13]
abbrev BH : List Nat := [0, 1, 2, 3, 4, 5, 6, 7, 8, 9, 10, 11, 12, 13, 14]
abbrev aci : List Nat := [0, 1, 2, 3, 4, 5, 6, 7, 8, 9, 10, 11, 12, 13, 14, 15]
abbrev Wq : List Nat := [0, 1, 2, 3, 4, 5, 6, 7, 8, 9, 10, 11, 12, 13, 14, 15, 16]
abbrev UK : List Nat := [0, 1, 2, 3, 4, 5, 6, 7, 8, 9, 10, 11, 12, 13, 14, 15, 16, 17]
abbrev azf : List Nat := [0, 1, 2, 3, 4, 5, 6, 7, 8, 9, 10, 11, 12, 13, 14, 15, 16, 17, 18]
abbrev acj : List Nat := [0, 1, 2, 3, 4, 5, 6, 7, 8, 9, 10, 11, 12, 13, 14, 15, 16, 17, 18, 19]
abbrev aDV : List Nat := [0, 1, 2, 3, 4, 5, 6, 7, 8, 9, 10, 11, 12, 13, 14, 15, 16, 17, 18, 19, 20, 21, 22, 23]
abbrev azg : List Nat := [0, 1, 2, 3, 4, 5, 6, 7, 8, 9, 10, 11, 12, 13, 14, 15, 16, 17, 18, 19, 20, 21, 22, 23, 24, 25]
abbrev ack : List Nat := [0, 1, 2, 3, 4, 5, 6, 7, 8, 9, 10, 11, 12, 13, 14, 15, 16, 17, 18, 19, 20, 21, 22, 23, 24, 25, 26]
abbrev aDW : List Nat := [0, 1, 2, 3, 4, 5, 6, 7, 8, 9, 10, 11, 12, 13, 14, 15, 16, 17, 18, 19, 20, 21, 22, 23, 24, 25, 26, 27, 28]
abbrev acm : List Nat := [0, 1, 2, 3, 4, 5, 6, 7, 8, 9, 10, 11, 12, 13, 14, 15, 16, 17, 18, 19, 20, 21, 22, 23, 24, 25, 26, 27, 28, 29, 30, 31, 32, 33]
abbrev azh : List Nat := [0, 1, 2, 3, 4, 5, 6, 7, 8, 9, 10, 11, 12, 13, 14, 15, 16, 17, 18, 19, 20, 21, 22, 23, 24, 25, 26, 27, 28, 29, 30, 31, 32, 33, 34, 35, 36, 37]
abbrev azi : List Nat := [0, 1, 2, 3, 4, 5, 6, 7, 8, 9, 10, 11, 12, 13, 14, 15, 16, 17, 18, 19, 20, 21, 22, 23, 24, 25, 26, 27, 28, 29, 30, 31, 32, 33, 34, 35, 36, 37, 38, 39, 40]
abbrev azj : List Nat := [0, 1, 2, 3, 4, 5, 6, 7, 8, 9, 10, 11, 12, 13, 14, 15, 16, 17, 18, 19, 20, 21, 22, 23, 24, 25, 26, 27, 28, 29, 30, 31, 32, 33, 34, 35, 36, 37, 38, 39, 40, 41, 42, 43]
abbrev aDX : List Nat := [0, 1, 2, 3, 4, 5, 6, 7, 8, 9, 10, 11, 12, 13, 14, 15, 16, 17, 18, 19, 20, 21, 22, 23, 24, 25, 26, 27, 28, 29, 30, 31, 32, 33, 34, 35, 36, 37, 38, 39, 40, 41, 42, 43, 44, 45, 46]
end Go.Lg
namespace Go.Lg
section
variable {α : Type} {a b₁ b₂ b₃ b₄ X4 ah0 aKy aKz x : α} {l l₁ l₂ : List α}
theorem so (h : List.Sublist l₁ l₂) : List.Sublist l₁ (a :: l₂) := h.cons a
theorem sk (h : List.Sublist l₁ l₂) : List.Sublist (a :: l₁) (a :: l₂) := List.Sublist.cons_cons a h
theorem sr : List.Sublist l l := .refl _
theorem sn : List.Sublist [] l := List.nil_sublist _
theorem su (h : List.Sublist l₁ l₂) : ∀ p ∈ l₁, p ∈ l₂ := λ _ hp => h.subset hp
theorem pp : ∀ p ∈ l, p ∈ l := λ _ h => h
theorem z0 : x ∈ x :: l := .head _
theorem z1 : x ∈ a :: x :: l := .tail _ z0
theorem z2 : x ∈ a :: b₁ :: x :: l := .tail _ z1
theorem z3 : x ∈ a :: b₁ :: b₂ :: x :: l := .tail _ z2
theorem z4 : x ∈ a :: b₁ :: b₂ :: b₃ :: x :: l := .tail _ z3
theorem z5 : x ∈ a :: b₁ :: b₂ :: b₃ :: b₄ :: x :: l := .tail _ z4
theorem z6 : x ∈ a :: b₁ :: b₂ :: b₃ :: b₄ :: X4 :: x :: l := .tail _ z5
theorem z7 : x ∈ a :: b₁ :: b₂ :: b₃ :: b₄ :: X4 :: ah0 :: x :: l := .tail _ z6
end
section
variable {P : Program} {B : Base} {main : Bool} {ag : Jd P B main} {c : Ctx} {R : aI} {H : au} {st st' : St} {o : Oper} {k : List Item}
theorem sq {x y : Code} (h : At ag c R H st (.code x :: .code y :: k)) : At ag c R H st (.code (.seq x y) :: k) := At.seq h
theorem er {ops : Array Oper} (h : At ag c R H st k) : At ag c R H st (.inRegion ops [] :: k) := At.dU h
theorem es {ops : Array Oper} {x y : Code} (h : At ag c R H st (.code x :: .code y :: k)) : At ag c R H st (.inRegion ops [] :: .code (.seq x y) :: k) := At.dU (At.seq h)
theorem sg (is : List Nat) {id : Nat} {ops : Array Oper} {y : Code} (h : At ag c R H st (.inRegion ops is :: .code y :: k)) (hn : ops.size = is.length := by rfl) (lg : List.range is.length = is := by rfl) : At ag c R H st (.code (.seq (.region id ops false) y) :: k) := At.seq (At.rg is h hn lg)
theorem nx (is : List Nat) {id : Nat} {os ops : Array Oper} {y : Code} (h : At ag c R H st (.inRegion ops is :: .code y :: k)) (hn : ops.size = is.length := by rfl) (lg : List.range is.length = is := by rfl) : At ag c R H st (.inRegion os [] :: .code (.seq (.region id ops false) y) :: k) := At.dU (sg is h hn lg)
theorem sp (h : At ag c R H st k) : At ag c R H st (.code .skip :: k) := At.skip h
theorem vs [rT P] (m : Nat) {ops : Array Oper} {is Aw : List Nat} (ha : At ag c R H st' (.inRegion ops Aw :: k)) (h : xS (rT.off P) ops c.n (is.take m) st = some st' := by rfl) (hr : is.drop m = Aw := by rfl) (hk : (c.kind == CallKind.early) = false := by rfl) : At ag c R H st (.inRegion ops is :: k) := At.vs m h hr ha hk
theorem ld (j : Nat) {ops : Array Oper} {i d : Nat} {rest : List Nat} {x : Operand} {t e : TypeId} {b : Nat} {fz : Nat × Nat} {L : List Value} {v : Value} (ht : gk P t) (hm : (b, Obj.cells L.toArray e fz) ∈ H) (h : At ag c R H ((d, v) :: st) (.inRegion ops rest :: k)) (hj : L[j]? = some v := by rfl)
  (ho : ops[i]? = some o := by rfl) (hw : dP ops st o = some true := by rfl) (hk : (c.kind == CallKind.early) = false := by rfl) (hop : o.op = .load t x := by rfl) (hx : bk st x = some (.pointer (some ⟨b, 0 + j, none⟩)) := by rfl) (hd : o.dst = some d := by rfl) (hl : Nat.blt d c.n = true := by rfl) : At ag c R H st (.inRegion ops (i :: rest) :: k) :=
 At.ld ht ((aT.box hm).one hj) h ho hw hk hop hx hd hl
theorem lN (vs : List Value) (j n : Nat) {ops : Array Oper} {i d : Nat} {rest : List Nat} {x : Operand} {t e : TypeId} {b : Nat} {fz : Nat × Nat} {L : List Value} {m : Nat} (ht : jQ P t m) (hm : (b, Obj.cells L.toArray e fz) ∈ H) (h : At ag c R H ((d, .agg vs.toArray) :: st) (.inRegion ops rest :: k)) (hv : (L.drop j).take n = vs := by rfl)
  (ho : ops[i]? = some o := by rfl) (hw : dP ops st o = some true := by rfl) (hk : (c.kind == CallKind.early) = false := by rfl) (hop : o.op = .load t x := by rfl) (hx : bk st x = some (.pointer (some ⟨b, 0 + j, none⟩)) := by rfl) (hn : vs.length = m := by rfl) (hd : o.dst = some d := by rfl) (hl : Nat.blt d c.n = true := by rfl) : At ag c R H st (.inRegion ops (i :: rest) :: k) :=
 At.s ho hw (Ox.bP hop hx ht hn ((aT.box hm).part hv) (by rw [hd]; exact hl) (.put hd) h) hk
theorem bx {ops : Array Oper} {i d : Nat} {rest : List Nat} {x : Operand} {t : TypeId} {vs : Array Value} (h : ∀ b, At ag c R ((b, .cells vs t) :: H) ((d, .pointer (some ⟨b, 0, none⟩)) :: st) (.inRegion ops rest :: k))
  (ho : ops[i]? = some o := by rfl) (hw : dP ops st o = some true := by rfl) (hk : (c.kind == CallKind.early) = false := by rfl) (hop : o.op = .box t x := by rfl) (hx : bk st x = some (.agg vs) := by rfl) (hd : o.dst = some d := by rfl) (hl : Nat.blt d c.n = true := by rfl) : At ag c R H st (.inRegion ops (i :: rest) :: k) :=
 At.s ho hw (Ox.X1 hop hx (by rw [hd]; exact hl) λ b _ _ => ⟨_, .put hd, h b⟩) hk
theorem sc {α : Type} {t : Bool} {a b : Option α} {r : α} {x : Operand} {th el : Code} (hM : ah t a b = some r) (h1 : t = true → a = some r → At ag c R H st (.code th :: k)) (h2 : t = false → b = some r → At ag c R H st (.code el :: k)) (hx : bk st x = some (.bool t) := by rfl) : At ag c R H st (.code (.cond x th el) :: k) :=
 bA hM (λ h hM => At.B4 hx h (h1 h hM)) (λ h hM => At.B3 hx h (h2 h hM))
theorem ls {α : Type} {K : b7 α} {n : Nat} {ops : Array Oper} {i d : Nat} {rest : List Nat} {x : Operand} {t e : TypeId} {v : Value} {xs : List α} (hl : aj K n R v xs) (ht : P.underlying t = some (.slice e)) (h : At ag c R H ((d, .int .i64 (xs.length : Int)) :: st) (.inRegion ops rest :: k))
  (ho : ops[i]? = some o := by rfl) (hw : dP ops st o = some true := by rfl) (hk : (c.kind == CallKind.early) = false := by rfl) (hop : o.op = .call ⟨.builtin .len, #[x], #[t]⟩ := by rfl) (hx : bk st x = some v := by rfl) (hd : o.dst = some d := by rfl) (hn : Nat.blt d c.n = true := by rfl) : At ag c R H st (.inRegion ops (i :: rest) :: k) :=
 At.s ho hw (Ox.tP hop hx hl ht (by rw [hd]; exact hn) (.put hd) h) hk
theorem lr {α : Type} {K : b7 α} {n : Nat} {ops : Array Oper} {i d : Nat} {rest : List Nat} {x : Operand} {t e : TypeId} {v : Value} {xs : List α} {H0 : au} (hl : bC K n R H0 v xs) (ht : P.underlying t = some (.slice e)) (h : At ag c R H ((d, .int .i64 (xs.length : Int)) :: st) (.inRegion ops rest :: k))
  (ho : ops[i]? = some o := by rfl) (hw : dP ops st o = some true := by rfl) (hk : (c.kind == CallKind.early) = false := by rfl) (hop : o.op = .call ⟨.builtin .len, #[x], #[t]⟩ := by rfl) (hx : bk st x = some v := by rfl) (hd : o.dst = some d := by rfl) (hn : Nat.blt d c.n = true := by rfl) : At ag c R H st (.inRegion ops (i :: rest) :: k) :=
 At.s ho hw (Ox.abm hop hx hl ht (by rw [hd]; exact hn) (.put hd) h) hk
theorem rt {fr : Frame} {cs : List Frame} {f : FuncId} {n : Nat} {fn : Func} {vs : List Value} {H' : au} (hf : P.funcs[f]? = some fn) (hr : lU P R H st fn.results.toList vs) (hs : List.Sublist H' H) (hj : ag.J R H' (br (fr.finish (pP vs)) cs)) : At ag ⟨f, .normal, none, n, [], fr :: cs⟩ R H st (.code .ret :: k) :=
 At.azc hf hr (J.drop hs hj)
theorem ts (i : Nat) {ops : Array Oper} {n d : Nat} {rem : List Nat} {S : Nat → au} {v : Value} {N : au} (D : List Nat) (ho : ops[i]? = some o) (uC : ∀ j ∈ rem, j ≠ i → j ∉ D → ∀ p ∈ N, p ∈ S j) (hS : ∀ p ∈ N, p ∈ H)
  (hf : ∀ R' H', aN R R' → (∀ p ∈ N, p ∈ H') → aR P B c o R' H' st λ R1 H1 x4 => R1 = R' ∧ H1 = H' ∧ x4 = [(d, v)]) (h : Any ag c S ops k n (rem.erase i) R H ((d, v) :: st))
  (nv : o.dst = some d := by rfl) (hw : dP ops st o = some true := by rfl) (gu : nJ ops rem i D = true := by decide +kernel) (cD : rem.Nodup := by decide) : Any ag c S ops k (n + 1) rem R H st :=
 Any.UW D ho nv hw gu uC hS hf (aK.refl _) cD rfl h
theorem tl (i j : Nat) {ops : Array Oper} {n d : Nat} {rem : List Nat} {x : Operand} {t e : TypeId} {b : Nat} {fz : Nat × Nat} {L : List Value} {v : Value} (ht : gk P t) (hm : (b, Obj.cells L.toArray e fz) ∈ H) (h : Any ag c (λ _ => H) ops k n (rem.erase i) R H ((d, v) :: st)) (hj : L[j]? = some v := by rfl)
  (ho : ops[i]? = some o := by rfl) (hop : o.op = .load t x := by rfl) (hx : bk st x = some (.pointer (some ⟨b, 0 + j, none⟩)) := by rfl) (nv : o.dst = some d := by rfl) (hl : Nat.blt d c.n = true := by rfl) (hw : dP ops st o = some true := by rfl) (gu : nJ ops rem i (JQ ops rem i) = true := by decide +kernel) (cD : rem.Nodup := by decide) : Any ag c (λ _ => H) ops k (n + 1) rem R H st :=
 Any.tk i ho pp (λ _ _ _ hS => Ox.bV hop hx ht ((aT.box (hS _ hm)).one hj) (by rw [nv]; exact hl) (.one nv) ⟨rfl, rfl, rfl⟩) h nv hw gu cD
theorem tN (i : Nat) (vs : List Value) (j m : Nat) {ops : Array Oper} {n d : Nat} {rem : List Nat} {x : Operand} {t e : TypeId} {b : Nat} {fz : Nat × Nat} {L : List Value} {q : Nat} (ht : jQ P t q) (hm : (b, Obj.cells L.toArray e fz) ∈ H) (h : Any ag c (λ _ => H) ops k n (rem.erase i) R H ((d, .agg vs.toArray) :: st)) (hv : (L.drop j).take m = vs := by rfl)
  (ho : ops[i]? = some o := by rfl) (hop : o.op = .load t x := by rfl) (hx : bk st x = some (.pointer (some ⟨b, 0 + j, none⟩)) := by rfl) (hq : vs.length = q := by rfl) (nv : o.dst = some d := by rfl) (hl : Nat.blt d c.n = true := by rfl) (hw : dP ops st o = some true := by rfl) (gu : nJ ops rem i (JQ ops rem i) = true := by decide +kernel) (cD : rem.Nodup := by decide) : Any ag c (λ _ => H) ops k (n + 1) rem R H st :=
 Any.tk i ho pp (λ _ _ _ hS => Ox.bP hop hx ht hq ((aT.box (hS _ hm)).part hv) (by rw [nv]; exact hl) (.one nv) ⟨rfl, rfl, rfl⟩) h nv hw gu cD
theorem tw (i j : Nat) {S : Nat → au} {ops : Array Oper} {n : Nat} {rem : List Nat} {a b : Oper} (h1 : lS ag c a R H st λ R' H' st' => aN R R' ∧ (∀ p ∈ S i, p ∈ H → p ∈ H') ∧ Any ag c S ops k n (rem.erase i) R' H' st')
  (h2 : lS ag c b R H st λ R' H' st' => aN R R' ∧ (∀ p ∈ S j, p ∈ H → p ∈ H') ∧ Any ag c S ops k n (rem.erase j) R' H' st') (ha : ops[i]? = some a := by rfl) (hb : ops[j]? = some b := by rfl) (hrd : rem.filter (kI ops rem) = [i, j] := by decide +kernel) (Gz : dP ops st a = some true := by rfl) (GA : dP ops st b = some true := by rfl) (cD : rem.Nodup := by decide) : Any ag c S ops k (n + 1) rem R H st :=
 Any.az9 ha hb hrd Gz GA cD rfl rfl h1 h2
theorem ka {H X : au} : ∀ p ∈ H, p ∈ X → p ∈ H := λ _ h _ => h
theorem kp {R : aI} {H X : au} {C : Prop} (h : C) : aN R R ∧ (∀ p ∈ H, p ∈ X → p ∈ H) ∧ C := ⟨aN.refl _, ka, h⟩
theorem ku {H H' X : au} (h : List.Sublist H H') : ∀ p ∈ H, p ∈ X → p ∈ H' := λ _ hp _ => h.subset hp
theorem rr {R : aI} : aN R R := aN.refl _
end
abbrev CZ : b7 Int := CI .i64
end Go.Lg
namespace Go.Lg
def ai {α : Type} (a b : Option α) : Prop := ∀ r, a = some r → b = some r
theorem ai.refl {α : Type} (a : Option α) : ai a a := λ _ h => h
theorem ai.none {α : Type} {b : Option α} : ai none b := λ _ h => by cases h
theorem ai.bind {α β : Type} {a a' : Option α} {f f' : α → Option β} (h : ai a a') (hf : ∀ x, ai (f x) (f' x)) : ai (a.bind f) (a'.bind f') := by
 intro r hr
 obtain ⟨x, hx, hr⟩ := ao hr
 rw [h x hx]
 exact hf x r hr
theorem ai.ah {α : Type} {t : Bool} {a a' b b' : Option α} (h : ai a a') (h' : ai b b') : ai (ah t a b) (ah t a' b') := by
 cases t
 ·exact h'
 ·exact h
def rK {S O : Type} (body : S → Option (S ⊕ O)) (s : S) : Option O := jJ body 200 s
theorem ai.jJ {S O : Type} {body body' : S → Option (S ⊕ O)} (h : ∀ s, ai (body s) (body' s)) : ∀ (n : Nat) (s : S), ai (Go.Lg.jJ body n s) (bt body' s)
 | 0, _ => λ _ hr => by cases hr
 | n + 1, s => λ r hr => by
  simp only [Go.Lg.jJ] at hr
  cases hb : body s with
  | none => rw [hb] at hr; cases hr
  | some x =>
   rw [hb] at hr
   have hb' := h s x hb
   cases x with
   | inl s' => rw [D1 hb']; exact ai.jJ h n s' r hr
   | inr o => cases hr; exact nW hb'
theorem ai.loop {S O : Type} {body body' : S → Option (S ⊕ O)} {s : S} (h : ∀ s, ai (body s) (body' s)) : ai (rK body s) (bt body' s) := ai.jJ h 200 s
theorem ai.elim {α β γ : Type} {f f' : α → Option γ} {g g' : β → Option γ} (h : ∀ x, ai (f x) (f' x)) (h' : ∀ x, ai (g x) (g' x)) (x : α ⊕ β) : ai (Sum.elim f g x) (Sum.elim f' g' x) := by
 cases x
 ·exact h _
 ·exact h' _
theorem ai.c9 {α S O : Type} {f f' : α → S → Option (S ⊕ O)} (h : ∀ x s, ai (f x s) (f' x s)) (x : α) (s : S ⊕ O) : ai (Go.Lg.c9 f x s) (Go.Lg.c9 f' x s) := by
 intro r hr
 cases s with
 | inr s => cases hr
 | inl s =>
  simp only [Go.Lg.c9] at hr ⊢
  cases hf : f x s with
  | none => rw [hf] at hr; cases hr
  | some z => rw [hf] at hr; rw [h x s z hf]; exact hr
theorem ai.mapM {α β : Type} {f f' : α → Option β} (h : ∀ x, ai (f x) (f' x)) : ∀ l : List α, ai (l.mapM f) (l.mapM f')
 | [] => ai.refl _
 | a :: l => by
  intro r hr
  rw [List.mapM_cons] at hr ⊢
  cases ha : f a with
  | none => rw [ha] at hr; simp at hr
  | some b =>
   cases hl : l.mapM f with
   | none => rw [ha, hl] at hr; simp at hr
   | some bs =>
    rw [ha, hl] at hr
    rw [h a b ha, ai.mapM h l bs hl]
    exact hr
end Go.Lg
