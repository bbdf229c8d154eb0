/- The logic, on: a map that one owns, whose keys are two numbers and whose values are numbers: what it holds is told as a function. Conditions: none; what hangs on the program's types is asked as a fact. -/
import Derived.Test.YtabamagholjdcaaGreatDoorQLgMapx
namespace Go.Lg
open Go.Conc
def wKey (p w : Int) : Value := .agg #[.int .i64 p, .int .i64 w]
theorem wKey_inj {p w p' w' : Int} (h : wKey p w = wKey p' w') : p = p' ∧ w = w' := by
 simp only [wKey, Value.agg.injEq, Array.mk.injEq, List.cons.injEq, Value.int.injEq] at h
 exact ⟨h.1.2, h.2.1.2⟩
def updW (m : Int → Int → Int) (p w z : Int) : Int → Int → Int := fun a b => if a = p ∧ b = w then z else m a b
structure EntW (es : List MapEntry) (m : Int → Int → Int) (clock : Nat) : Prop where
 ent : ∀ e ∈ es, ∃ p w, e.key = wKey p w ∧ e.val = .int .i64 (m p w)
 zero : ∀ p w, (∀ e ∈ es, e.key ≠ wKey p w) → m p w = 0
 keys : ∀ (i j : Nat) (a b : MapEntry), es[i]? = some a → es[j]? = some b → a.key = b.key → i = j
 old : ∀ e ∈ es, e.born < clock
 borns : ∀ (i j : Nat) (a b : MapEntry), es[i]? = some a → es[j]? = some b → a.born = b.born → i = j
def OwnW (v : Value) (m : Int → Int → Int) (Hs : HList) : Prop := ∃ b es clock, v = .map (some b) ∧ Hs = [(b, .map es clock)] ∧ EntW es.toList m clock
def OwnWE (v : Value) (m : Int → Int → Int) (p w g : Int) (Hs : HList) : Prop := ∃ b es clock, v = .map (some b) ∧ Hs = [(b, .map es clock)] ∧ EntW es.toList m clock ∧ ∃ (i : Nat) (e : MapEntry), es[i]? = some e ∧ e.key = wKey p w ∧ g = (e.born : Int)
theorem OwnWE.own {v : Value} {m : Int → Int → Int} {p w g : Int} {Hs : HList} (h : OwnWE v m p w g Hs) : OwnW v m Hs := by
 obtain ⟨b, es, cl, h1, h2, h3, _⟩ := h
 exact ⟨b, es, cl, h1, h2, h3⟩
structure MapTyW (P : Program) (t kt et : TypeId) : Prop where
 ty : P.underlying t = some (.map kt et)
 key : ∃ d, P.underlying kt = some d ∧ ∀ a b, Instr.sameNow d a b = none
 eq : ∀ a b c d : Int, Val P (Op.equal kt (wKey a b) (wKey c d)) (a == c && (b == d && true))
 chk : ∀ (e : Bool) (a b : Int), Val P (Instr.checkKey e 10000 kt (wKey a b)) ()
 zero : Val P (zeroValue et) (.int .i64 0)
section
variable {P : Program} {B : Base} {main : Bool} {𝒥 : Jd P B main} {c : Ctx} {R : RMap} {H : HList} {st st' : St} {o : Oper} {C : RMap → HList → St → Prop}
def FoundW (es : List MapEntry) (p w : Int) (r : Option (Nat × Value)) : Prop :=
 (r = none ∧ ∀ e ∈ es, e.key ≠ wKey p w) ∨ ∃ (i : Nat) (e : MapEntry), es[i]? = some e ∧ e.key = wKey p w ∧ r = some (i, e.val)
theorem val_findAskingW {t kt et : TypeId} (ht : MapTyW P t kt et) (p w : Int) : ∀ (es : List MapEntry) (i : Nat), (∀ e ∈ es, ∃ p w, e.key = wKey p w) → ∃ r, Val P (Instr.findAsking kt (wKey p w) es i) r ∧ ((r = none ∧ ∀ e ∈ es, e.key ≠ wKey p w) ∨ ∃ (j : Nat) (e : MapEntry), es[j]? = some e ∧ e.key = wKey p w ∧ r = some (i + j, e.val))
 | [], i, h => ⟨none, Val.pure _, .inl ⟨rfl, fun e he => (by cases he)⟩⟩
 | e :: es, i, h => by
  obtain ⟨p', w', hk⟩ := h e (by simp)
  by_cases heq : p = p' ∧ w = w'
  ·obtain ⟨rfl, rfl⟩ := heq
   refine ⟨some (i, e.val), ?_, .inr ⟨0, e, rfl, hk, rfl⟩⟩
   unfold Instr.findAsking
   rw [hk]
   refine Val.bind (ht.eq p w p w) ?_
   simp only [beq_self_eq_true, Bool.and_self, if_true]
   exact Val.pure _
  ·obtain ⟨r, hr, hc⟩ := val_findAskingW ht p w es (i + 1) (fun e he => h e (by simp [he]))
   have hb : (p == p' && (w == w' && true)) = false := by
    simp only [Bool.and_true, Bool.and_eq_false_iff, beq_eq_false_iff_ne]
    by_cases hp : p = p'
    ·exact .inr fun hw => heq ⟨hp, hw⟩
    ·exact .inl hp
   refine ⟨r, ?_, ?_⟩
   ·unfold Instr.findAsking
    rw [hk]
    refine Val.bind (ht.eq p w p' w') ?_
    rw [hb]
    exact hr
   ·rcases hc with ⟨rfl, hc⟩ | ⟨j, e', h1, h2, rfl⟩
    ·refine .inl ⟨rfl, fun x hx => ?_⟩
     rcases List.mem_cons.1 hx with rfl | hx
     ·intro e2
      obtain ⟨a, b⟩ := wKey_inj (hk.symm.trans e2)
      exact heq ⟨a.symm, b.symm⟩
     ·exact hc x hx
    ·exact .inr ⟨j + 1, e', by simpa using h1, h2, by simp; omega⟩
theorem val_findW {t kt et : TypeId} (ht : MapTyW P t kt et) (p w : Int) {es : List MapEntry} {m : Int → Int → Int} {cl : Nat} (h : EntW es m cl) : ∃ r, Val P (Instr.findKey kt (wKey p w) es) r ∧ FoundW es p w r := by
 obtain ⟨d, h1, h2⟩ := ht.key
 obtain ⟨r, hr, hc⟩ := val_findAskingW ht p w es 0 (fun e he => let ⟨p, w, hk, _⟩ := h.ent e he; ⟨p, w, hk⟩)
 cases es with
 | nil => exact ⟨none, by unfold Instr.findKey; exact Val.bind (Val.underlying h1) (Val.pure _), .inl ⟨rfl, fun e he => by cases he⟩⟩
 | cons e es =>
  refine ⟨r, ?_, ?_⟩
  ·unfold Instr.findKey
   refine Val.bind (Val.underlying h1) ?_
   simp only [Instr.findNow, h2]
   exact hr
  ·rcases hc with hc | ⟨j, e', h1, h2, h3⟩
   ·exact .inl hc
   ·exact .inr ⟨j, e', h1, h2, by simpa using h3⟩
theorem Ox.makeMapW {t : TypeId} (hop : o.op = .makeMap t none) (hd : dstLt o.dst c.n)
  (hC : ∀ v Hs, OwnW v (fun _ _ => 0) Hs → ∃ st', SubL (putS o.dst v st) st' ∧ C R (Hs ++ H) st') : SemTo P B c o R H st C :=
 Ox.mem (s := fun ρ => Instr.makeMap t none) (by rw [hop]; rfl) hd (fun ρ => by simp only [execOp, hop]; rfl) (fun ρ hρ => by
  unfold Instr.makeMap
  refine SemOk.bind (SemOk.new fun b _ _ => SemOk.pure ?_)
  exact hC (.map (some b)) [(b, .map #[] 0)] ⟨b, #[], 0, rfl, rfl, ⟨fun e he => (by cases he), fun _ _ _ => rfl, fun i j a b ha => (by simp at ha), fun e he => (by cases he), fun i j a b ha => (by simp at ha)⟩⟩)
theorem Ox.lookupW {x y : Operand} {t kt et : TypeId} {v : Value} {m : Int → Int → Int} {p w : Int} {Hs : HList} (hop : o.op = .lookup t x y false) (hx : evalS st x = some v) (hy : evalS st y = some (wKey p w)) (ht : MapTyW P t kt et) (hm : OwnW v m Hs) (hH : ∀ q ∈ Hs, q ∈ H)
  (hd : dstLt o.dst c.n) (hs : SubL (putS o.dst (.int .i64 (m p w)) st) st') (h : C R H st') : SemTo P B c o R H st C :=
 Ox.mem (s := fun ρ => Instr.lookup t (ρ x) (ρ y) false) (by rw [hop]; rfl) hd (fun ρ => by simp only [execOp, hop]) (fun ρ hρ => by
  rw [hρ x _ hx, hρ y _ hy]
  unfold Instr.lookup
  refine Val.bindOk (Val.underlying ht.ty) ?_
  obtain ⟨b, es, cl, rfl, rfl, he⟩ := hm
  refine SemOk.bind (SemOk.getObj rfl (.inr (hH (b, .map es cl) (by simp))) ?_)
  refine SemOk.bind (SemOk.pure ?_)
  obtain ⟨r, hr, hf⟩ := val_findW ht p w he
  refine Val.bindOk (ht.chk _ p w) (Val.bindOk hr ?_)
  rcases hf with ⟨rfl, hn⟩ | ⟨i, e, h1, h2, rfl⟩
  ·refine Val.bindOk ht.zero (SemOk.bind (SemOk.pure (SemOk.pure ?_)))
   rw [he.zero p w hn] at hs
   exact ⟨st', hs, h⟩
  ·obtain ⟨p', w', hk, hv⟩ := he.ent e (List.mem_of_getElem? h1)
   obtain ⟨rfl, rfl⟩ := wKey_inj (hk.symm.trans h2)
   rw [hv]
   exact SemOk.bind (SemOk.pure (SemOk.pure ⟨st', hs, h⟩)))
theorem sameBits_w (p w : Int) : Instr.sameBits 10000 (wKey p w) (wKey p w) = true := by
 simp [Instr.sameBits, wKey]
theorem modify_key {es : Array MapEntry} {i : Nat} {e : MapEntry} {k : Value} (h : es[i]? = some e) (hk : e.key = k) : es.modify i (fun e => { e with key := k }) = es := by
 apply Array.ext_getElem?
 intro j
 rw [Array.getElem?_modify]
 by_cases hj : i = j
 ·subst hj; simp [h, ← hk]
 ·simp [hj]
theorem EntW.push {es : Array MapEntry} {m : Int → Int → Int} {cl : Nat} {p w : Int} (h : EntW es.toList m cl) (hn : ∀ e ∈ es.toList, e.key ≠ wKey p w) :
  EntW (es.push { key := wKey p w, val := .int .i64 0, born := cl }).toList m (cl + 1) := by
 rw [Array.toList_push]
 refine ⟨fun e he => ?_, fun p' w' hne => ?_, fun i j a b ha hb hab => ?_, fun e he => ?_, fun i j a b ha hb hab => ?_⟩
 ·rcases List.mem_append.1 he with he | he
  ·exact h.ent e he
  ·rcases List.mem_singleton.1 he with rfl
   exact ⟨p, w, rfl, by rw [h.zero p w hn]⟩
 ·exact h.zero p' w' fun e he => hne e (List.mem_append.2 (.inl he))
 ·rw [List.getElem?_append] at ha hb
  split at ha <;> split at hb
  ·exact h.keys i j a b ha hb hab
  ·rename_i h1 h2
   have : b = { key := wKey p w, val := .int .i64 0, born := cl } := by
    have := List.mem_of_getElem? hb; simpa using this
   subst this
   exact absurd hab (hn a (List.mem_of_getElem? ha))
  ·rename_i h1 h2
   have : a = { key := wKey p w, val := .int .i64 0, born := cl } := by
    have := List.mem_of_getElem? ha; simpa using this
   subst this
   exact absurd hab.symm (hn b (List.mem_of_getElem? hb))
  ·have h1 := (List.getElem?_eq_some_iff.1 ha).1
   have h2 := (List.getElem?_eq_some_iff.1 hb).1
   simp only [List.length_singleton, Array.length_toList] at *
   omega
 ·rcases List.mem_append.1 he with he | he
  ·have := h.old e he; omega
  ·rcases List.mem_singleton.1 he with rfl
   exact Nat.lt_succ_self _
 ·rw [List.getElem?_append] at ha hb
  split at ha <;> split at hb
  ·exact h.borns i j a b ha hb hab
  ·have : b = { key := wKey p w, val := .int .i64 0, born := cl } := by
    have := List.mem_of_getElem? hb; simpa using this
   subst this
   have := h.old a (List.mem_of_getElem? ha)
   simp only at hab
   omega
  ·have : a = { key := wKey p w, val := .int .i64 0, born := cl } := by
    have := List.mem_of_getElem? ha; simpa using this
   subst this
   have := h.old b (List.mem_of_getElem? hb)
   simp only at hab
   omega
  ·have h1 := (List.getElem?_eq_some_iff.1 ha).1
   have h2 := (List.getElem?_eq_some_iff.1 hb).1
   simp only [List.length_singleton, Array.length_toList] at *
   omega
theorem Ox.mapEntry {x y : Operand} {t kt et : TypeId} {v : Value} {m : Int → Int → Int} {p w : Int} {Hs : HList} (G : HList → HList) (hop : o.op = .mapEntry t x y) (hx : evalS st x = some v) (hy : evalS st y = some (wKey p w)) (ht : MapTyW P t kt et) (hG : Hole G) (hm : OwnW v m Hs)
  (hd : dstLt o.dst c.n) (hC : ∀ g Hs', OwnWE v m p w g Hs' → ∃ st', SubL (putS o.dst (.tuple #[.int .i64 (m p w), .int .i64 g]) st) st' ∧ C R (G Hs') st') : SemTo P B c o R (G Hs) st C :=
 Ox.mem (s := fun ρ => Instr.mapEntry t (ρ x) (ρ y)) (by rw [hop]; rfl) hd (fun ρ => by simp only [execOp, hop]) (fun ρ hρ => by
  rw [hρ x _ hx, hρ y _ hy]
  unfold Instr.mapEntry
  refine Val.bindOk (Val.underlying ht.ty) ?_
  obtain ⟨b, es, cl, rfl, rfl, he⟩ := hm
  refine SemOk.bind (SemOk.getObj rfl (.inr (hG.set (o' := .map es cl)).mem) ?_)
  obtain ⟨r, hr, hf⟩ := val_findW ht p w he
  refine Val.bindOk (ht.chk _ p w) (Val.bindOk hr ?_)
  rcases hf with ⟨rfl, hn⟩ | ⟨i, e, h1, h2, rfl⟩
  ·refine Val.bindOk ht.zero (SemOk.bind (SemOk.setObj rfl rfl hG.set (SemOk.pure ?_)))
   have := hC (cl : Int) [(b, .map (es.push { key := wKey p w, val := .int .i64 0, born := cl }) (cl + 1))] ⟨b, es.push { key := wKey p w, val := .int .i64 0, born := cl }, cl + 1, rfl, rfl, he.push hn, es.size, { key := wKey p w, val := .int .i64 0, born := cl }, by simp, rfl, rfl⟩
   rw [he.zero p w hn] at this
   exact this
  ·obtain ⟨p', w', hk, hv⟩ := he.ent e (List.mem_of_getElem? h1)
   obtain ⟨rfl, rfl⟩ := wKey_inj (hk.symm.trans h2)
   have h1' : es[i]? = some e := by simpa using h1
   have hst : Val P (Instr.keyThatStays (((es[i]?).map (·.key)).getD (wKey p' w')) (wKey p' w')) (wKey p' w') := by
    rw [h1']
    simp only [Option.map_some, Option.getD_some, hk, Instr.keyThatStays, sameBits_w, if_true]
    exact Val.pure _
   refine Val.bindOk hst (SemOk.bind (SemOk.setObj rfl rfl hG.set (SemOk.pure ?_)))
   rw [modify_key h1' hk, h1', hv]
   exact hC (e.born : Int) _ ⟨b, es, cl, rfl, rfl, he, i, e, h1', hk, rfl⟩)
theorem gl {α : Type} {a : Array α} {j : Nat} {x : α} (h : a.toList[j]? = some x) : a[j]? = some x := by rwa [Array.getElem?_toList] at h
theorem Val.asInt {k : IntKind} {z : Int} : Val P (asInt (.int k z)) z := Val.pure _
theorem Ox.entryStore {x y z : Operand} {t : TypeId} {v : Value} {m : Int → Int → Int} {p w g n : Int} {Hs : HList} (G : HList → HList) (hop : o.op = .entryStore t x y z) (hx : evalS st x = some v) (hy : evalS st y = some (.int .i64 g)) (hz : evalS st z = some (.int .i64 n)) (hG : Hole G) (hm : OwnWE v m p w g Hs)
  (hd : o.dst = none) (hst : SubL st st') (hC : ∀ Hs', OwnW v (updW m p w n) Hs' → C R (G Hs') st') : SemTo P B c o R (G Hs) st C :=
 Ox.memU (s := fun ρ => Instr.entryStore t (ρ x) (ρ y) (ρ z)) (by rw [hop]; rfl) hd (fun ρ => by simp only [execOp, hop]) hst (fun ρ hρ => by
  rw [hρ x _ hx, hρ y _ hy, hρ z _ hz]
  unfold Instr.entryStore
  obtain ⟨b, es, cl, rfl, rfl, he, i, e, hi, hk, rfl⟩ := hm
  refine SemOk.bind (SemOk.getObj rfl (.inr (hG.set (o' := .map es cl)).mem) ?_)
  refine Val.bindOk Val.asInt ?_
  have hfi : es.findIdx? (fun e' => (e'.born : Int) == (e.born : Int)) = some i := by
   obtain ⟨hlt, hge⟩ := Array.getElem?_eq_some_iff.1 hi
   rw [Array.findIdx?_eq_some_iff_getElem]
   refine ⟨hlt, by simp [hge], fun j hj => ?_⟩
   have hjl : j < es.size := by omega
   simp only [Bool.not_eq_true, beq_eq_false_iff_ne]
   intro hb
   have := he.borns j i es[j] e (by simp [hjl]) (by simpa using hi) (by exact_mod_cast hb)
   omega
  rw [hfi]
  refine SemOk.setObj rfl rfl hG.set (hC _ ⟨b, _, cl, rfl, rfl, ?_⟩)
  have hget : ∀ j a, (es.modify i fun e => { e with val := .int .i64 n })[j]? = some a → ∃ a0, es[j]? = some a0 ∧ a.key = a0.key ∧ a.born = a0.born ∧ a.val = if i = j then .int .i64 n else a0.val := by
   intro j a ha
   rw [Array.getElem?_modify] at ha
   by_cases hj : i = j
   ·subst hj
    rw [hi] at ha
    simp only [if_true, Option.map_some, Option.some.injEq] at ha
    subst ha
    exact ⟨e, hi, rfl, rfl, by simp⟩
   ·simp only [hj, if_false] at ha
    exact ⟨a, ha, rfl, rfl, by simp [hj]⟩
  have hmem : ∀ a ∈ (es.modify i fun e => { e with val := .int .i64 n }).toList, ∃ j, (es.modify i fun e => { e with val := .int .i64 n })[j]? = some a := fun a ha => by
   obtain ⟨j, hj⟩ := List.mem_iff_getElem?.1 ha
   exact ⟨j, gl hj⟩
  refine ⟨fun a ha => ?_, fun p' w' hne => ?_, fun j k a b' ha hb hab => ?_, fun a ha => ?_, fun j k a b' ha hb hab => ?_⟩
  ·obtain ⟨j, hj⟩ := hmem a ha
   obtain ⟨a0, h1, h2, h3, h4⟩ := hget j a hj
   obtain ⟨p', w', hk', hv'⟩ := he.ent a0 (by rw [← Array.mem_def]; exact Array.mem_of_getElem? h1)
   refine ⟨p', w', h2.trans hk', ?_⟩
   rw [h4]
   by_cases hij : i = j
   ·subst hij
    rw [hi] at h1; cases h1
    obtain ⟨rfl, rfl⟩ := wKey_inj (hk.symm.trans hk')
    simp [updW]
   ·rw [if_neg hij, hv']
    unfold updW
    rw [if_neg]
    rintro ⟨rfl, rfl⟩
    exact hij (he.keys i j e a0 (by simpa using hi) (by simpa using h1) (hk.trans hk'.symm))
  ·unfold updW
   by_cases hpw : p' = p ∧ w' = w
   ·obtain ⟨rfl, rfl⟩ := hpw
    exfalso
    obtain ⟨hlt, hge⟩ := Array.getElem?_eq_some_iff.1 hi
    refine hne { e with val := .int .i64 n } ?_ hk
    rw [← Array.mem_def]
    exact Array.mem_of_getElem? (i := i) (by rw [Array.getElem?_modify]; simp [hi])
   ·rw [if_neg hpw]
    refine he.zero p' w' fun a ha => ?_
    obtain ⟨j, hj⟩ := List.mem_iff_getElem?.1 ha
    have hj' : es[j]? = some a := by simpa using hj
    by_cases hij : i = j
    ·subst hij
     rw [hi] at hj'; cases hj'
     intro e2
     obtain ⟨rfl, rfl⟩ := wKey_inj (hk.symm.trans e2)
     exact hpw ⟨rfl, rfl⟩
    ·exact hne a (by rw [← Array.mem_def]; exact Array.mem_of_getElem? (i := j) (by rw [Array.getElem?_modify]; simp [hij, hj']))
  ·obtain ⟨a0, h1, h2, _⟩ := hget j a (gl ha)
   obtain ⟨b0, k1, k2, _⟩ := hget k b' (gl hb)
   exact he.keys j k a0 b0 (by simpa using h1) (by simpa using k1) (h2.symm.trans (hab.trans k2))
  ·obtain ⟨j, hj⟩ := hmem a ha
   obtain ⟨a0, h1, h2, h3, h4⟩ := hget j a hj
   rw [h3]
   exact he.old a0 (by rw [← Array.mem_def]; exact Array.mem_of_getElem? h1)
  ·obtain ⟨a0, h1, _, h3, _⟩ := hget j a (gl ha)
   obtain ⟨b0, k1, _, k3, _⟩ := hget k b' (gl hb)
   exact he.borns j k a0 b0 (by simpa using h1) (by simpa using k1) (h3.symm.trans (hab.trans k3)))
end
end Go.Lg
