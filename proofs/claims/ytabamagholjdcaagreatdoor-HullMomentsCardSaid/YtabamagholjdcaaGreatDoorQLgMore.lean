/- The logic, on: lists that are lent: they may be read while one owns what they lie in; regions in which several operations may be next. Conditions: none; over any program. -/
import Derived.Test.YtabamagholjdcaaGreatDoorQLgLoop
namespace Go.Lg
open Go.Conc
def RdS {α : Type} (C : CRel α) (k : Nat) (R : RMap) (H : HList) (v : Value) (xs : List α) : Prop :=
 ∃ A cap es, v = .slice A xs.length cap ∧ Enc C k R xs es ∧ xs.length ≤ cap ∧ (xs ≠ [] → ∃ b o, A = some ⟨b, o, none⟩ ∧ CellsAt R H b o es)
theorem RdS.le {α : Type} {C : CRel α} [CM C] {k : Nat} {R R' : RMap} {H : HList} {v : Value} {xs : List α} (h : RdS C k R H v xs) (hR : RLe R R') : RdS C k R' H v xs := by
 obtain ⟨A, cap, es, h1, h2, h3, h4⟩ := h
 refine ⟨A, cap, es, h1, h2.mono hR, h3, fun hx => ?_⟩
 obtain ⟨b, o, g1, g2⟩ := h4 hx
 exact ⟨b, o, g1, g2.le hR⟩
theorem RdS.sub {α : Type} {C : CRel α} {k : Nat} {R : RMap} {H H' : HList} {v : Value} {xs : List α} (h : RdS C k R H v xs) (hs : ∀ p ∈ H, p ∈ H') : RdS C k R H' v xs := by
 obtain ⟨A, cap, es, h1, h2, h3, h4⟩ := h
 refine ⟨A, cap, es, h1, h2, h3, fun hx => ?_⟩
 obtain ⟨b, o, g1, g2⟩ := h4 hx
 exact ⟨b, o, g1, g2.sub hs⟩
theorem SlR.rd {α : Type} {C : CRel α} {k : Nat} {R : RMap} {H : HList} {v : Value} {xs : List α} (h : SlR C k R v xs) : RdS C k R H v xs := by
 obtain ⟨A, cap, es, h1, h2, hc, h3⟩ := h
 refine ⟨A, cap, es, h1, h2, hc, fun hx => ?_⟩
 obtain ⟨b, o, arr, e, fz, g1, g2, g3⟩ := h3 hx
 exact ⟨b, o, g1, fun j w hj => ⟨rfl, arr, e, fz, .inl g2, g3 j w hj⟩⟩
theorem OwnSl.rd {α : Type} {C : CRel α} {k e : Nat} {R : RMap} {H : HList} {v : Value} {xs : List α} {Hs : HList} (h : OwnSl C k e R v xs Hs) (hs : ∀ p ∈ Hs, p ∈ H) : RdS C k R H v xs := by
 rcases h with ⟨A, rfl, rfl, rfl⟩ | ⟨b, cap, cs, es, rfl, rfl, h3, h4, h5, h6⟩
 ·exact ⟨A, 0, [], rfl, .nil, Nat.le_refl _, fun h => absurd rfl h⟩
 ·exact ⟨_, cap, es, rfl, h5, h4, fun _ => ⟨b, 0, rfl, fun j w hj => ⟨rfl, cs, e, (0, 0), .inr (hs _ (by simp)), by simpa using h6 j w hj⟩⟩⟩
theorem RdS.lit {α : Type} {C : CRel α} {k e n b : Nat} {R : RMap} {H : HList} {ys : List α} {cs : Array Value} {fz : Nat × Nat} (hm : (b, Obj.cells cs e fz) ∈ H) (hE : Enc C k R ys cs.toList) (hn : ys.length = n) : RdS C k R H (.slice (some ⟨b, 0, none⟩) n n) ys := by
 subst hn
 exact ⟨_, ys.length, cs.toList, rfl, hE, Nat.le_refl _, fun _ => ⟨b, 0, rfl, fun j w hj => ⟨rfl, cs, e, fz, .inr hm, by simpa using hj⟩⟩⟩
theorem RdS.arg {α : Type} {C : CRel α} {k : Nat} {R : RMap} {H : HList} {v : Value} {xs : List α} (h : RdS C k R H v xs) : ArgSl C k R H v xs := by
 obtain ⟨A, cap, es, h1, h2, _, h3⟩ := h
 exact ⟨A, cap, es, h1, h2, h3⟩
theorem RdS.elem {P : Program} {α : Type} {K : CRel α} {k t e : Nat} {R : RMap} {H : HList} {v : Value} {xs : List α} {i : Int} {x : α} (h : RdS K k R H v xs) (ht : SliceTy P t e k) (hi : idx xs i = some x) :
  ∃ b n es, K R x es ∧ CellsAt R H b n es ∧ IdxTo P t v i b n := by
 obtain ⟨h1, h2, h3⟩ := idx_some hi
 obtain ⟨A, cap, es, rfl, hE, _, hc⟩ := h
 obtain ⟨b, o, rfl, g2⟩ := hc (by rintro rfl; simp at h3)
 obtain ⟨e1, f1, f2, f3⟩ := hE.at_ _ _ h3
 refine ⟨b, o + i.toNat * k, e1, f1, fun j w hj => ?_, fun kd => ?_⟩
 ·have := g2 _ _ (f3 j w hj)
  simpa [Nat.add_assoc] using this
 ·have := val_index_slice (P := P) (b := b) (m := o) (cap := cap) (kd := kd) ht (j := i.toNat) (len := xs.length) (by omega)
  rwa [Int.toNat_of_nonneg h1] at this
theorem swCA (a : Nat × Obj) (B l : HList) : List.Perm (a :: (B ++ l)) (B ++ (a :: l)) := List.perm_middle.symm
section
variable {P : Program} {B : Base} {main : Bool} {𝒥 : Jd P B main} {c : Ctx} {R : RMap} {H H' : HList} {st st' : St} {o : Oper} {C : RMap → HList → St → Prop} {k : List Item}
theorem Ox.lenR {α : Type} {K : CRel α} {k : Nat} {x : Operand} {t e : TypeId} {v : Value} {xs : List α} {H0 : HList} (hop : o.op = .call ⟨.builtin .len, #[x], #[t]⟩) (hx : evalS st x = some v) (hl : RdS K k R H0 v xs) (ht : P.underlying t = some (.slice e))
  (hd : dstLt o.dst c.n) (hs : SubL (putS o.dst (.int .i64 (xs.length : Int)) st) st') (h : C R H st') : SemTo P B c o R H st C := by
 obtain ⟨A, cap, es, rfl, _⟩ := hl
 exact Ox.len hop hx ht hd hs h
theorem At.cut {it : Item} (E : RMap → HList → St → Prop) (h1 : ∀ R' H' st', E R' H' st' → At 𝒥 c R' H' st' k) (h2 : (∀ R' H' st', E R' H' st' → At 𝒥 c R' H' st' k) → At 𝒥 c R H st (it :: k)) : At 𝒥 c R H st (it :: k) := h2 h1
theorem Any.two' {S : Nat → HList} {ops : Array Oper} {n : Nat} {rem ra rb : List Nat} {i j : Nat} {a b : Oper} (ha : ops[i]? = some a) (hb : ops[j]? = some b) (hrd : rem.filter (readyR ops rem) = [i, j]) (hwa : wantedS ops st a = some true) (hwb : wantedS ops st b = some true) (hnd : rem.Nodup) (hra : rem.erase i = ra) (hrb : rem.erase j = rb)
  (h1 : OpTo 𝒥 c a R H st fun R' H' st' => RLe R R' ∧ (∀ p ∈ S i, p ∈ H → p ∈ H') ∧ Any 𝒥 c S ops k n ra R' H' st')
  (h2 : OpTo 𝒥 c b R H st fun R' H' st' => RLe R R' ∧ (∀ p ∈ S j, p ∈ H → p ∈ H') ∧ Any 𝒥 c S ops k n rb R' H' st') : Any 𝒥 c S ops k (n + 1) rem R H st := by
 subst hra hrb
 refine ⟨hnd, fun tmps ht => .inr ⟨(fun e => by rw [e] at hrd; cases hrd), fun _ x hx hxr => ?_⟩⟩
 have : x ∈ rem.filter (readyR ops rem) := List.mem_filter.2 ⟨hx, hxr⟩
 rw [hrd] at this
 simp only [List.mem_cons, List.not_mem_nil, or_false] at this
 rcases this with rfl | rfl
 ·exact h1.opStep ha (wanted_of ht hwa) ht
 ·exact h2.opStep hb (wanted_of ht hwb) ht
theorem Any.three' {S : Nat → HList} {ops : Array Oper} {n : Nat} {rem ra rb rc : List Nat} {i j l : Nat} {a b d : Oper} (ha : ops[i]? = some a) (hb : ops[j]? = some b) (hd : ops[l]? = some d) (hrd : rem.filter (readyR ops rem) = [i, j, l]) (hwa : wantedS ops st a = some true) (hwb : wantedS ops st b = some true) (hwd : wantedS ops st d = some true) (hnd : rem.Nodup) (hra : rem.erase i = ra) (hrb : rem.erase j = rb) (hrc : rem.erase l = rc)
  (h1 : OpTo 𝒥 c a R H st fun R' H' st' => RLe R R' ∧ (∀ p ∈ S i, p ∈ H → p ∈ H') ∧ Any 𝒥 c S ops k n ra R' H' st')
  (h2 : OpTo 𝒥 c b R H st fun R' H' st' => RLe R R' ∧ (∀ p ∈ S j, p ∈ H → p ∈ H') ∧ Any 𝒥 c S ops k n rb R' H' st')
  (h3 : OpTo 𝒥 c d R H st fun R' H' st' => RLe R R' ∧ (∀ p ∈ S l, p ∈ H → p ∈ H') ∧ Any 𝒥 c S ops k n rc R' H' st') : Any 𝒥 c S ops k (n + 1) rem R H st := by
 subst hra hrb hrc
 refine ⟨hnd, fun tmps ht => .inr ⟨(fun e => by rw [e] at hrd; cases hrd), fun _ x hx hxr => ?_⟩⟩
 have : x ∈ rem.filter (readyR ops rem) := List.mem_filter.2 ⟨hx, hxr⟩
 rw [hrd] at this
 simp only [List.mem_cons, List.not_mem_nil, or_false] at this
 rcases this with rfl | rfl | rfl
 ·exact h1.opStep ha (wanted_of ht hwa) ht
 ·exact h2.opStep hb (wanted_of ht hwb) ht
 ·exact h3.opStep hd (wanted_of ht hwd) ht
end
end Go.Lg
