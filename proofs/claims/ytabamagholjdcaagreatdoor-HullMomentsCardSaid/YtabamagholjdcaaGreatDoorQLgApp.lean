/- The logic, on: append; what one owns of a list is known for good from then on. Conditions: lists of at most 16777216 elements. -/
import Derived.Test.YtabamagholjdcaaGreatDoorQLgOx
namespace Go.Lg
open Go.Conc
theorem putCells_get : ∀ (vs : List Value) (cs : Array Value) (o j : Nat), o + vs.length ≤ cs.size → (putCells cs o vs)[j]? = if o ≤ j ∧ j < o + vs.length then vs[j - o]? else cs[j]?
 | [], cs, o, j, _ => by
  simp only [putCells, List.length_nil, Nat.add_zero]
  rw [if_neg (by omega)]
 | v :: r, cs, o, j, h => by
  simp only [List.length_cons] at h
  simp only [putCells]
  rw [putCells_get r _ (o + 1) j (by simp; omega)]
  by_cases h1 : o + 1 ≤ j ∧ j < o + 1 + r.length
  ·rw [if_pos h1, if_pos (by simp only [List.length_cons]; omega)]
   have : j - o = (j - (o + 1)) + 1 := by omega
   rw [this]; simp
  ·rw [if_neg h1]
   by_cases h2 : o = j
   ·subst h2
    rw [if_pos (by simp only [List.length_cons]; omega)]
    rw [Array.getElem?_setIfInBounds_self_of_lt (by omega)]
    simp
   ·rw [if_neg (by simp only [List.length_cons]; omega), Array.getElem?_setIfInBounds_ne h2]
structure AppTy (P : Program) (t e k : Nat) : Prop where
 sl : P.underlying t = some (.slice e)
 size : Val P (sizeOf e) k
 info : ∃ i, P.info? e = some i ∧ i.bytes ≤ 65536
 zero : ∃ z, Val P (zeroValue e) z ∧ z.cells.size = k
section
variable {P : Program} {B : Base} {main : Bool} {𝒥 : Jd P B main} {c : Ctx} {R : RMap} {H H' : HList} {st st' : St} {o : Oper}
theorem SemOk.weaken {α : Type} {s : Sem α} {K K' : α → RMap → HList → Prop} (h : SemOk P B R H s K) (hk : ∀ a R' H', K a R' H' → ∃ R'' H'', (∀ w, Fits B R' H' w → Upd B R' H' w R'' H'' w) ∧ K' a R'' H'') : SemOk P B R H s K' := by
 intro w hw
 obtain ⟨a, w', R', H', h1, h2, h3, h4⟩ := h w hw
 obtain ⟨R'', H'', g1, g2⟩ := hk a R' H' h4
 exact ⟨a, w', R'', H'', h1, h2, h3.trans (g1 w' h3.fits), g2⟩
theorem SemOk.firstCells {α : Type} {K : CRel α} {k : Nat} {u : Value} {ys : List α} {Q : Array Value → RMap → HList → Prop} (hu : ArgSl K k R H u ys) (hQ : ∀ es : List Value, Enc K k R ys es → Q es.toArray R H) : SemOk P B R H (Builtin.firstCells k ys.length u) Q := by
 obtain ⟨A, cap, es, rfl, hE, hc⟩ := hu
 cases ys with
 | nil =>
  have e0 : es = [] := by have := hE.len; simpa using this
  subst e0
  cases A with
  | none => exact SemOk.pure (hQ [] hE)
  | some a =>
   simp only [Builtin.firstCells, List.length_nil, Nat.zero_mul, loadCells]
   exact SemOk.pure (hQ [] hE)
 | cons y ys =>
  obtain ⟨b, o, rfl, hcs⟩ := hc (by simp)
  simp only [Builtin.firstCells, loadCells]
  rw [← hE.len]
  exact SemOk.loadCellsFrom es 0 #[] (by simpa using hcs) (by simpa using hQ es hE)
theorem OwnSl.arg {α : Type} {K : CRel α} {k e : Nat} {G : HList → HList} (hG : Hole G) {v : Value} {xs : List α} {Hs : HList} (h : OwnSl K k e R v xs Hs) : ArgSl K k R (G Hs) v xs := by
 rcases h with ⟨A, rfl, rfl, _⟩ | ⟨b, cap, cs, es, rfl, rfl, h3, h4, h5, h6⟩
 ·exact ⟨A, 0, [], rfl, .nil, fun h => absurd rfl h⟩
 ·refine ⟨_, cap, es, rfl, h5, fun _ => ⟨b, 0, rfl, fun j w hj => ⟨rfl, cs, e, (0, 0), .inr ?_, by simpa using h6 j w hj⟩⟩⟩
  obtain ⟨A, D, hGe⟩ := hG
  rw [hGe]; simp
theorem nextcap_le {n m : Nat} (h : m < n) (hn : n ≤ 16777216) : Builtin.nextslicecap n m ≤ 67108864 := by
 unfold Builtin.nextslicecap
 split
 ·omega
 ·split
  ·omega
  ·have : ∀ (r c : Nat), c ≤ 16777216 → Builtin.growBy n r c ≤ 67108864 := by
    intro r
    induction r with
    | zero => intro c hc; simp only [Builtin.growBy]; omega
    | succ r ih =>
     intro c hc
     simp only [Builtin.growBy]
     split
     ·omega
     ·rename_i hcn
      by_cases h2 : c + (c + 768) / 4 ≤ 16777216
      ·exact ih _ h2
      ·
       cases r with
       | zero => simp only [Builtin.growBy]; omega
       | succ r => simp only [Builtin.growBy]; rw [if_pos (by omega)]; omega
   exact this 4 m (by omega)
theorem SemOk.append {α : Type} {K : CRel α} [CM K] {k t e xT T : Nat} {G : HList → HList} (hG : Hole G) {v u : Value} {xs ys : List α} {Hs : HList} {dx : TypeDesc} (ht : AppTy P t e k) (hxT : P.underlying xT = some dx) (hdx : ∀ kd, dx ≠ .int kd)
  (hO : OwnSl K k e R v xs Hs) (hu : ArgSl K k R (G Hs) u ys) (hl : xs.length + ys.length ≤ 16777216) {Q : Value → RMap → HList → Prop} (hk : ∀ v' Hs', OwnSl K k e R v' (xs ++ ys) Hs' → Q v' R (G Hs')) :
  SemOk P B R (G Hs) (Builtin.append_ #[t, xT] T #[v, u]) Q := by
 obtain ⟨A2, cap2, es2, hu2⟩ := id hu
 have hv : ∃ base cap, v = .slice base xs.length cap := by
  rcases hO with ⟨A, rfl, rfl, _⟩ | ⟨b, cap, cs, es, rfl, _⟩
  ·exact ⟨A, 0, rfl⟩
  ·exact ⟨_, cap, rfl⟩
 obtain ⟨base, cap, rfl⟩ := hv
 obtain ⟨i, hi, hbytes⟩ := ht.info
 obtain ⟨z, hz, hzs⟩ := ht.zero
 have hlen : Val P (Builtin.lenOf u) ys.length := by rw [hu2.1]; exact Val.pure _
 have run : SemOk P B R (G Hs) (do
   let need := xs.length + ys.length
   if need ≤ cap then do
    let new ← Builtin.firstCells k ys.length u
    if let some a := base then storeCells (a.add (xs.length * k)) new.toList
    Pure.pure (Value.slice base need cap)
   else do
    if (need : Int) > IntKind.i64.max ∧ (false = true ∨ (← typeInfo e).bytes = 0) then runtimePanic (.error "growslice: len out of range")
    if Builtin.nextslicecap need cap * (← typeInfo e).bytes > 2 ^ 48 then (if false = true then runtimePanic (.error "growslice: len out of range") else do
     if !(← Builtin.mayShare k xs.length ys.length base u) then mark .noRoom
     unsupported (.resourceLimit "append: a slice or a string whose bytes no memory bears"))
    let newCap ← Go.choose (Question.appendCap need cap e)
    askRoom (newCap * (← typeInfo e).bytes)
    let old ← Builtin.firstCells k xs.length (.slice base xs.length cap)
    let new ← Builtin.firstCells k ys.length u
    let rest := Builtin.zeroCells (← zeroValue e).cells (newCap - need)
    Pure.pure (Value.slice (some (← newRow e (old ++ new ++ rest))) need newCap)) Q := by
  dsimp only
  by_cases hc : xs.length + ys.length ≤ cap
  ·rw [if_pos hc]
   refine SemOk.bind (SemOk.firstCells hu fun es hE => ?_)
   rcases hO with ⟨A, e1, rfl, rfl⟩ | ⟨b, cap', cs, esx, e1, rfl, h3, h4, h5, h6⟩
   ·injection e1 with e1 e2 e3
    subst e1; subst e3
    have hy : ys = [] := by simpa using hc
    subst hy
    have e0 : es = [] := by have := hE.len; simpa using this
    subst e0
    have key : Q (.slice base ([] : List α).length 0) R (G []) := hk _ [] (.inl ⟨base, rfl, by simp, rfl⟩)
    cases base with
    | none => exact SemOk.bind (SemOk.pure (SemOk.pure key))
    | some a => exact SemOk.bind (SemOk.pure (SemOk.pure key))
   ·injection e1 with e1 _ e3
    subst e1; subst e3
    dsimp only
    rw [show (⟨b, 0, none⟩ : Addr).add (xs.length * k) = ⟨b, 0 + xs.length * k, none⟩ from add_none _ _ _, Nat.zero_add]
    refine SemOk.given fun hnd => SemOk.bind (SemOk.storeCells' es cs (xs.length * k) 0 (G [(b, .cells cs e (0, 0))]) (G [(b, .cells (putCells cs (xs.length * k) es) e (0, 0))]) hE.one ?_ (by simpa using Hole.set hG) hnd (SemOk.pure ?_))
    ·rw [h3, hE.len, Nat.add_zero, ← Nat.add_mul]; exact Nat.mul_le_mul_right k hc
    ·have hfit : xs.length * k + es.length ≤ cs.size := by rw [h3, hE.len, ← Nat.add_mul]; exact Nat.mul_le_mul_right k hc
     refine hk _ _ (.inr ⟨b, cap, putCells cs (xs.length * k) es, esx ++ es, by rw [List.length_append], rfl, by rw [putCells_size]; exact h3, by rw [List.length_append]; exact hc, h5.append hE, fun j w hj => ?_⟩)
     rw [putCells_get es cs _ _ hfit]
     by_cases hjx : j < esx.length
     ·rw [List.getElem?_append_left hjx] at hj
      rw [if_neg (by rw [← h5.len]; omega)]
      exact h6 j w hj
     ·rw [List.getElem?_append_right (by omega)] at hj
      have := (List.getElem?_eq_some_iff.1 hj).1
      rw [if_pos (by rw [← h5.len]; omega), ← h5.len]
      exact hj
  ·rw [if_neg hc]
   have hnb : Builtin.nextslicecap (xs.length + ys.length) cap * i.bytes ≤ 2 ^ 48 := by
    have h1 := nextcap_le (n := xs.length + ys.length) (m := cap) (by omega) hl
    calc _ ≤ 67108864 * 65536 := Nat.mul_le_mul h1 hbytes
     _ ≤ 2 ^ 48 := by decide
   have hni : ¬ (((xs.length + ys.length : Nat) : Int) > IntKind.i64.max ∧ (false = true ∨ i.bytes = 0)) := by
    intro h
    have : IntKind.i64.max = 9223372036854775807 := by decide
    omega
   refine Val.bindOk (Val.typeInfo hi) ?_
   rw [if_neg hni]
   refine Val.bindOk (Val.typeInfo hi) ?_
   rw [if_neg (by omega)]
   refine (SemOk.bind (SemOk.choose fun tape => Val.bindOk (Val.typeInfo hi) (SemOk.bind ?_)))
   have hask : ∀ (n : Nat) (Q' : Unit → RMap → HList → Prop), Q' () R (G Hs) → SemOk P B R (G Hs) (askRoom n) Q' := by
    intro n Q' hq
    unfold askRoom
    split
    ·exact SemOk.markRoom hq
    ·exact SemOk.pure hq
   refine hask _ _ ?_
   simp only [Question.forced, Bool.false_eq_true, if_false, Question.cut]
   generalize hcap : xs.length + ys.length + tape % (2 ^ 63 - (xs.length + ys.length)) = newCap
   refine SemOk.bind (SemOk.firstCells (OwnSl.arg hG hO) fun esx hEx => SemOk.bind (SemOk.firstCells hu fun esy hEy => Val.bindOk hz ?_))
   simp only [newRow]
   refine SemOk.bind (SemOk.bind (SemOk.weaken (SemOk.new (K := fun r R' H' => R' = R ∧ H' = (r, .cells (esx.toArray ++ esy.toArray ++ Builtin.zeroCells z.cells (newCap - (xs.length + ys.length))) e (0, 0)) :: G Hs) fun r _ _ => ⟨rfl, rfl⟩) fun r R' H' hrh => ?_))
   obtain ⟨rfl, rfl⟩ := hrh
   refine ⟨R', G [(r, .cells (esx.toArray ++ esy.toArray ++ Builtin.zeroCells z.cells (newCap - (xs.length + ys.length))) e (0, 0))], fun w hw => ?_, SemOk.pure (SemOk.pure (hk _ _ (.inr ⟨r, newCap, _, esx ++ esy, by rw [List.length_append], rfl, ?_, by rw [List.length_append]; omega, hEx.append hEy, fun j w hj => ?_⟩)))⟩
   ·obtain ⟨A, D, hGe⟩ := hG
    rw [hGe, hGe] at *
    have h1 := upd_perm (H' := A ++ (Hs ++ ((r, .cells (esx.toArray ++ esy.toArray ++ Builtin.zeroCells z.cells (newCap - (xs.length + ys.length))) e (0, 0)) :: D))) (by simpa using List.perm_middle (l₁ := A ++ Hs)) hw
    refine h1.trans (upd_sub ?_ h1.fits)
    exact List.Sublist.append_left (List.sublist_append_right _ _) _
   ·simp only [Array.size_append, List.size_toArray, hEx.len, hEy.len, Builtin.zeroCells, Array.size_map, Array.size_range, hzs]
    rw [← Nat.add_mul, ← Nat.add_mul]
    congr 1; omega
   ·have := (List.getElem?_eq_some_iff.1 hj).1
    rw [Array.getElem?_append_left (by simpa using this)]
    simpa using hj
 unfold Builtin.append_
 refine Val.bindOk (Val.underlying ht.sl) (Val.bindOk ht.size (Val.bindOk (Val.underlying hxT) (Val.bindOk (a := false) (by cases dx <;> first | exact Val.pure _ | exact absurd rfl (hdx _)) ?_)))
 exact Val.bindOk hlen run
theorem Ox.append {α : Type} {K : CRel α} [CM K] {k t e xT : Nat} (G : HList → HList) {x y : Operand} {v u : Value} {xs ys zs : List α} {Hs : HList} {dx : TypeDesc} {C : RMap → HList → St → Prop} (hop : o.op = .call ⟨.builtin .append, #[x, y], #[t, xT]⟩) (hx : evalS st x = some v) (hy : evalS st y = some u)
  (ht : AppTy P t e k) (hxT : P.underlying xT = some dx) (hdx : ∀ kd, dx ≠ .int kd) (hG : Hole G) (hO : OwnSl K k e R v xs Hs) (hu : ArgSl K k R (G Hs) u ys) (hl : appM xs ys = some zs) (hd : dstLt o.dst c.n)
  (hC : ∀ v' Hs', OwnSl K k e R v' zs Hs' → ∃ st', SubL (putS o.dst v' st) st' ∧ C R (G Hs') st') : SemTo P B c o R (G Hs) st C := by
 obtain ⟨hl1, rfl⟩ := appM_some hl
 refine ⟨by rw [hop]; rfl, hd, fun ρ hρ => ?_⟩
 simp only [execOp, hop]
 refine Val.bindOk (a := ⟨.builtin .append #[t, xT] o.type (#[x, y].map fun | .const _ => true | _ => false), #[x, y].map ρ⟩) (Val.pure _) ?_
 simp only [invoke, builtin]
 have e : (#[x, y].map ρ) = #[v, u] := by simp [hρ x _ hx, hρ y _ hy]
 rw [e]
 refine SemOk.bind (SemOk.append hG ht hxT hdx hO hu hl1 fun v' Hs' hO' => SemOk.pure ?_)
 obtain ⟨st', hs, h⟩ := hC v' Hs' hO'
 exact ⟨v', .inl rfl, st', hs, h⟩
theorem At.freezeOwn {α : Type} {K : CRel α} [CM K] {k e : Nat} {todo : List Item} (G : HList → HList) (hG : Hole G) {v : Value} {xs : List α} {Hs H2 : HList} (h2 : G [] = H2) (hO : OwnSl K k e R v xs Hs) (h : ∀ R', RLe R R' → SlR K k R' v xs → At 𝒥 c R' H2 st todo) : At 𝒥 c R (G Hs) st todo := by
 subst h2
 rcases hO with ⟨A, rfl, rfl, rfl⟩ | ⟨b, cap, cs, es, rfl, rfl, h3, h4, h5, h6⟩
 ·exact h R (RLe.refl R) .nil
 ·obtain ⟨A, D, hGe⟩ := hG
  rw [hGe] at h ⊢
  refine At.perm (H' := (b, .cells cs e (0, 0)) :: (A ++ ([] ++ D))) (by simpa using List.perm_middle.symm) (At.freeze fun R' hR hb => h R' hR ?_)
  exact ⟨_, cap, es, rfl, h5.mono hR, h4, fun _ => ⟨b, 0, cs, e, (0, 0), rfl, hb, fun j w hj => by simpa using h6 j w hj⟩⟩
theorem At.freezeLit {α : Type} {K : CRel α} [CM K] {k e b n : Nat} {todo : List Item} (G : HList → HList) (hG : Hole G) {H2 : HList} (h2 : G [] = H2) {ys : List α} {cs : Array Value} (hE : Enc K k R ys cs.toList) (hn : ys.length = n) (h : ∀ R', RLe R R' → SlR K k R' (.slice (some ⟨b, 0, none⟩) n n) ys → At 𝒥 c R' H2 st todo) : At 𝒥 c R (G [(b, .cells cs e (0, 0))]) st todo := by
 subst hn h2
 obtain ⟨A, D, hGe⟩ := hG
 rw [hGe] at h ⊢
 refine At.perm (H' := (b, .cells cs e (0, 0)) :: (A ++ ([] ++ D))) (by simpa using List.perm_middle.symm) (At.freeze fun R' hR hb => h R' hR ?_)
 exact ⟨_, ys.length, cs.toList, rfl, hE.mono hR, Nat.le_refl _, fun _ => ⟨b, 0, cs, e, (0, 0), rfl, hb, fun j w hj => by simpa using hj⟩⟩
theorem OwnSl.lit {α : Type} {K : CRel α} {k e b n : Nat} {ys : List α} {cs : Array Value} (hE : Enc K k R ys cs.toList) (hn : ys.length = n) : OwnSl K k e R (.slice (some ⟨b, 0, none⟩) n n) ys [(b, .cells cs e (0, 0))] := by
 subst hn
 exact .inr ⟨b, _, cs, cs.toList, rfl, rfl, by simpa using hE.len, Nat.le_refl _, hE, fun j w hj => by simpa using hj⟩
end
end Go.Lg
