/- The logic, on: strings' bytes, arrays that are built and copied into, parts of lists as plain values, elements of a list that one owns are written. Conditions: none; over any program. -/
import Derived.Test.YtabamagholjdcaaGreatDoorQLgEq
namespace Go.Lg
open Go.Conc
def strL (s : ByteArray) : List Int := s.data.toList.map fun b => (b.toNat : Int)
def strAt (s : ByteArray) (i : Int) : Option Int := idx (strL s) i
section
variable {P : Program} {B : Base} {main : Bool} {𝒥 : Jd P B main} {c : Ctx} {R : RMap} {H H' : HList} {st st' : St} {o : Oper} {C : RMap → HList → St → Prop} {k : List Item}
theorem Ox.indexStr {x y : Operand} {t : TypeId} {s : ByteArray} {kd : IntKind} {i z : Int} (hop : o.op = .index t x y) (hx : evalS st x = some (.string s)) (hy : evalS st y = some (.int kd i)) (ht : P.underlying t = some .string) (hz : strAt s i = some z)
  (hd : dstLt o.dst c.n) (hs : SubL (putS o.dst (.int .u8 z) st) st') (h : C R H st') : SemTo P B c o R H st C :=
 Ox.val' (s := fun ρ => Instr.index t (ρ x) (ρ y)) (by rw [hop]; rfl) hd (fun ρ => by simp only [execOp, hop]) (fun ρ hρ => by
  rw [hρ x _ hx, hρ y _ hy]
  obtain ⟨h1, h2, h3⟩ := idx_some hz
  unfold strL at h3
  rw [List.getElem?_map] at h3
  obtain ⟨b, hb, rfl⟩ := Option.map_eq_some_iff.1 h3
  unfold Instr.index
  refine Val.bind (a := (kd, i)) (Val.pure _) (Val.bind (Val.underlying ht) ?_)
  have e : (if 0 ≤ i then s[i.toNat]? else none) = some b := by
   rw [if_pos h1]
   have hb' : s.data[i.toNat]? = some b := by simpa using hb
   rw [← hb']
   rfl
  simp only [e]
  exact Val.pure _) hs h
def ArrZ (P : Program) (t : TypeId) (z : Array Value) : Prop := ZeroTy P t z ∧ ∃ n e m, P.underlying t = some (.array n e) ∧ Val P (sizeOf e) m
theorem Ox.buildZ {t : TypeId} {z : Array Value} (hop : o.op = .build t #[]) (ht : ArrZ P t z)
  (hd : dstLt o.dst c.n) (hs : SubL (putS o.dst (.agg z) st) st') (h : C R H st') : SemTo P B c o R H st C :=
 Ox.val' (s := fun _ => Instr.build t #[]) (by rw [hop]; rfl) hd (fun ρ => by simp [execOp, hop]) (fun ρ hρ => by
  obtain ⟨⟨z0, hz, rfl⟩, n, e, m, h1, h2⟩ := ht
  unfold Instr.build
  exact Val.bind hz (Val.bind (Val.underlying h1) (Val.bind h2 (Val.pure _)))) hs h
def CutTo (P : Program) (t _ : Nat) (v : Value) (len l h : Int) (v' : Value) : Prop :=
 ∀ (ρ : Operand → Value) (st : St) (x : Operand) (lo hi : Option Operand), Knows st ρ → ρ x = v → loS st lo = some l → hiS st len.toNat hi = some h → Val P (Instr.sliceAt t (ρ x) (lo.map ρ) (hi.map ρ) none) v'
theorem RdS.cut {α : Type} {K : CRel α} {k t e : Nat} {xs ys : List α} {v : Value} {l h : Int} {H0 : HList} (hS : RdS K k R H0 v xs) (ht : SliceTy P t e k) (hc : cutM xs l h = some ys) : ∃ v', RdS K k R H0 v' ys ∧ CutTo P t k v (xs.length : Int) l h v' := by
 obtain ⟨h1, h2, h3, rfl⟩ := cutM_some hc
 obtain ⟨A, cap, es, rfl, hE, hcap, hm⟩ := hS
 refine ⟨(.slice (if cap = l.toNat then A else A.map (·.add (l.toNat * k))) (h.toNat - l.toNat) (cap - l.toNat)), ?_, ?_⟩
 ·have hln : ((xs.take h.toNat).drop l.toNat).length = h.toNat - l.toNat := by
   simp only [List.length_drop, List.length_take]
   omega
  refine ⟨(if cap = l.toNat then A else A.map (·.add (l.toNat * k))), cap - l.toNat, (es.take (h.toNat * k)).drop (l.toNat * k), by rw [hln], hE.take.drop, by rw [hln]; omega, fun hne => ?_⟩
  have hlt : l.toNat < h.toNat := by
   apply Classical.byContradiction
   intro hn
   apply hne
   apply List.eq_nil_of_length_eq_zero
   simp only [List.length_drop, List.length_take]
   omega
  obtain ⟨b, o', rfl, g2⟩ := hm (by rintro rfl; simp at h3; omega)
  refine ⟨b, o' + l.toNat * k, ?_, fun j w hj => ?_⟩
  ·rw [if_neg (by omega)]; simp [add_none]
  ·rw [List.getElem?_drop, List.getElem?_take] at hj
   split at hj
   ·have := g2 _ _ hj
    simpa [Nat.add_assoc] using this
   ·cases hj
 ·intro ρ st x lo hi hρ hx hl hh
  rw [Int.toNat_natCast] at hh
  rw [hx]
  unfold Instr.sliceAt
  refine Val.bind (Val.underlying ht.1) ?_
  unfold Instr.slice
  refine Val.bind (Val.underlying ht.1) (Val.bind (val_bounds hρ hl hh ⟨h1, h2, h3⟩ hcap) (Val.bind ht.2 (Val.pure _)))
theorem SlR.cut {α : Type} {K : CRel α} {k t e : Nat} {xs ys : List α} {v : Value} {l h : Int} (hS : SlR K k R v xs) (ht : SliceTy P t e k) (hc : cutM xs l h = some ys) : ∃ v', SlR K k R v' ys ∧ CutTo P t k v (xs.length : Int) l h v' := by
 obtain ⟨h1, h2, h3, rfl⟩ := cutM_some hc
 obtain ⟨A, cap, es, rfl, hE, hcap, hm⟩ := hS
 refine ⟨(.slice (if cap = l.toNat then A else A.map (·.add (l.toNat * k))) (h.toNat - l.toNat) (cap - l.toNat)), ?_, ?_⟩
 ·have hln : ((xs.take h.toNat).drop l.toNat).length = h.toNat - l.toNat := by
   simp only [List.length_drop, List.length_take]
   omega
  refine ⟨(if cap = l.toNat then A else A.map (·.add (l.toNat * k))), cap - l.toNat, (es.take (h.toNat * k)).drop (l.toNat * k), by rw [hln], hE.take.drop, by rw [hln]; omega, fun hne => ?_⟩
  have hlt : l.toNat < h.toNat := by
   apply Classical.byContradiction
   intro hn
   apply hne
   apply List.eq_nil_of_length_eq_zero
   simp only [List.length_drop, List.length_take]
   omega
  obtain ⟨b, o', arr, e', fz, rfl, g2, g3⟩ := hm (by rintro rfl; simp at h3; omega)
  refine ⟨b, o' + l.toNat * k, arr, e', fz, ?_, g2, fun j w hj => ?_⟩
  ·rw [if_neg (by omega)]; simp [add_none]
  ·rw [List.getElem?_drop, List.getElem?_take] at hj
   split at hj
   ·have := g3 _ _ hj
    simpa [Nat.add_assoc] using this
   ·cases hj
 ·intro ρ st x lo hi hρ hx hl hh
  rw [Int.toNat_natCast] at hh
  rw [hx]
  unfold Instr.sliceAt
  refine Val.bind (Val.underlying ht.1) ?_
  unfold Instr.slice
  refine Val.bind (Val.underlying ht.1) (Val.bind (val_bounds hρ hl hh ⟨h1, h2, h3⟩ hcap) (Val.bind ht.2 (Val.pure _)))
theorem Ox.cutV {x : Operand} {t k : Nat} {lo hi : Option Operand} {v v' : Value} {len l h : Int} (hop : o.op = .slice t x lo hi none) (hx : evalS st x = some v) (hl : loS st lo = some l) (hh : hiS st len.toNat hi = some h) (hc : CutTo P t k v len l h v') (hd : dstLt o.dst c.n)
  (hs : SubL (putS o.dst v' st) st') (hC : C R H st') : SemTo P B c o R H st C :=
 Ox.val' (s := fun ρ => Instr.sliceAt t (ρ x) (lo.map ρ) (hi.map ρ) none) (by rw [hop]; rfl) hd (fun ρ => by simp only [execOp, hop]; rfl) (fun ρ hρ => hc ρ st x lo hi hρ (hρ x _ hx) hl hh) hs hC
theorem OwnSl.elemW {α : Type} {K : CRel α} {k t e : Nat} {v : Value} {xs : List α} {Hs : HList} {i : Int} {x : α} (h : OwnSl K k e R v xs Hs) (ht : SliceTy P t e k) (hi : idx xs i = some x) :
  ∃ b cs es, K R x es ∧ Hs = [(b, .cells cs e (0, 0))] ∧ CellsAt R Hs b (i.toNat * k) es ∧ (∀ (j : Nat) (w : Value), es[j]? = some w → cs[i.toNat * k + j]? = some w) ∧ IdxTo P t v i b (i.toNat * k) ∧ es.length = k ∧ i.toNat * k + k ≤ cs.size ∧
   ∀ x' es', K R x' es' → es'.length = k → OwnSl K k e R v (xs.set i.toNat x') [(b, .cells (putCells cs (i.toNat * k) es') e (0, 0))] := by
 obtain ⟨h1, h2, h3⟩ := idx_some hi
 rcases h with ⟨A, rfl, rfl, rfl⟩ | ⟨b, cap, cs, es, rfl, rfl, g3, g4, g5, g6⟩
 ·simp at h3
 obtain ⟨e1, f1, f2, f3⟩ := g5.at_ _ _ h3
 have hlt : i.toNat < xs.length := (List.getElem?_eq_some_iff.1 h3).1
 have hsz : i.toNat * k + k ≤ xs.length * k := by
  calc i.toNat * k + k = (i.toNat + 1) * k := by rw [Nat.add_mul, Nat.one_mul]
   _ ≤ xs.length * k := Nat.mul_le_mul_right k hlt
 have hcs : xs.length * k ≤ cs.size := by rw [g3]; exact Nat.mul_le_mul_right k g4
 refine ⟨b, cs, e1, f1, rfl, fun j w hj => ⟨rfl, cs, e, (0, 0), .inr (by simp), g6 _ _ (f3 j w hj)⟩, fun j w hj => g6 _ _ (f3 j w hj), fun kd => ?_, f2, by omega, fun x' es' hx' hl' => ?_⟩
 ·have := val_index_slice (P := P) (b := b) (m := 0) (cap := cap) (kd := kd) ht (j := i.toNat) (len := xs.length) hlt
  rw [Int.toNat_of_nonneg h1] at this
  simpa using this
 ·refine .inr ⟨b, cap, _, (es.take (i.toNat * k)) ++ (es' ++ es.drop (i.toNat * k + k)), by rw [List.length_set], rfl, by rw [putCells_size]; exact g3, by rw [List.length_set]; exact g4, ?_, ?_⟩
  ·have hel := g5.len
   refine ⟨?_, fun j y hy => ?_⟩
   ·simp only [List.length_append, List.length_take, List.length_drop, List.length_set, hl', hel]
    omega
   ·rw [List.getElem?_set] at hy
    split at hy
    ·rename_i hji
     subst hji
     cases hy
     refine ⟨es', hx', hl', fun a w hw => ?_⟩
     have ha := (List.getElem?_eq_some_iff.1 hw).1
     rw [List.getElem?_append_right (by simp only [List.length_take]; omega)]
     simp only [List.length_take, hel]
     rw [show i.toNat * k + a - min (i.toNat * k) (xs.length * k) = a by omega, List.getElem?_append_left ha]
     exact hw
    ·rename_i hji
     obtain ⟨e2, q1, q2, q3⟩ := g5.at_ _ _ hy
     refine ⟨e2, q1, q2, fun a w hw => ?_⟩
     have ha := (List.getElem?_eq_some_iff.1 hw).1
     rw [q2] at ha
     have hold := q3 a w hw
     rcases Nat.lt_or_ge j i.toNat with hlt' | hge
     ·have : j * k + k ≤ i.toNat * k := by
       calc j * k + k = (j + 1) * k := by rw [Nat.add_mul, Nat.one_mul]
        _ ≤ i.toNat * k := Nat.mul_le_mul_right k hlt'
      rw [List.getElem?_append_left (by simp only [List.length_take, hel]; omega), List.getElem?_take, if_pos (by omega)]
      exact hold
     ·have : i.toNat * k + k ≤ j * k := by
       calc i.toNat * k + k = (i.toNat + 1) * k := by rw [Nat.add_mul, Nat.one_mul]
        _ ≤ j * k := Nat.mul_le_mul_right k (by omega)
      rw [List.getElem?_append_right (by simp only [List.length_take]; omega), List.getElem?_append_right (by simp only [List.length_take, hel, hl']; omega), List.getElem?_drop]
      simp only [List.length_take, hel, hl']
      rw [show i.toNat * k + k + (j * k + a - min (i.toNat * k) (xs.length * k) - k) = j * k + a by omega]
      exact hold
  ·intro j w hj
   have hel := g5.len
   rw [putCells_get es' cs (i.toNat * k) j (by rw [hl']; omega)]
   rw [List.getElem?_append] at hj
   simp only [List.length_take, hel] at hj
   split at hj
   ·rename_i hlt'
    rw [List.getElem?_take] at hj
    split at hj
    ·rw [if_neg (by omega)]
     exact g6 _ _ hj
    ·cases hj
   ·rw [List.getElem?_append] at hj
    split at hj
    ·rename_i h5 h6
     rw [if_pos (by omega), ← hj]
     congr 1
     omega
    ·rename_i h5 h6
     rw [hl'] at h6
     rw [if_neg (by rw [hl']; omega)]
     rw [List.getElem?_drop, hl'] at hj
     have := g6 _ _ hj
     rwa [show i.toNat * k + k + (j - min (i.toNat * k) (xs.length * k) - k) = j by omega] at this
theorem putCells_app : ∀ (vs ws : List Value) (cs : Array Value) (o : Nat), putCells cs o (vs ++ ws) = putCells (putCells cs o vs) (o + vs.length) ws
 | [], ws, cs, o => by simp [putCells]
 | v :: vs, ws, cs, o => by
  simp only [List.cons_append, putCells, List.length_cons]
  rw [putCells_app vs ws]
  congr 1
  omega
theorem putCells_same : ∀ (vs : List Value) (cs : Array Value) (o : Nat), (∀ j w, vs[j]? = some w → cs[o + j]? = some w) → putCells cs o vs = cs
 | [], cs, o, _ => rfl
 | v :: vs, cs, o, h => by
  have h0 : cs[o]? = some v := h 0 v rfl
  have hlt := (Array.getElem?_eq_some_iff.1 h0).1
  have e : cs.setIfInBounds o v = cs := by
   apply Array.ext_getElem?
   intro j
   by_cases hj : o = j
   ·subst hj; rw [Array.getElem?_setIfInBounds_self_of_lt hlt, h0]
   ·rw [Array.getElem?_setIfInBounds_ne hj]
  simp only [putCells, e]
  exact putCells_same vs cs (o + 1) fun j w hj => by
   have := h (j + 1) w (by simpa using hj)
   rwa [show o + (j + 1) = o + 1 + j by omega] at this
theorem Ox.storeE {α : Type} {K : CRel α} {k e t b j n : Nat} {x y : Operand} {G : HList → HList} {v w : Value} {xs : List α} {i : Int} {x' : α} {cs : Array Value} {pre mid post vs : List Value} (hG : Hole G)
  (hop : o.op = .store t x y) (hx : evalS st x = some (.pointer (some ⟨b, i.toNat * k + j, none⟩))) (hy : evalS st y = some w) (hw : w.cells.toList = vs) (ht : Val P (sizeOf t) n) (hn : vs.length = n) (h1 : ∀ u ∈ vs, u.oneCell' = true)
  (hc : ∀ (j : Nat) (w : Value), (pre ++ (mid ++ post))[j]? = some w → cs[i.toNat * k + j]? = some w) (hj : pre.length = j) (hm : mid.length = n) (hk : (pre ++ (mid ++ post)).length = k) (hsz : i.toNat * k + k ≤ cs.size)
  (hO : ∀ x' es', K R x' es' → es'.length = k → OwnSl K k e R v (xs.set i.toNat x') [(b, .cells (putCells cs (i.toNat * k) es') e (0, 0))]) (hK : K R x' (pre ++ (vs ++ post)))
  (hd : o.dst = none) (hsub : SubL st st') (h : ∀ Hs', OwnSl K k e R v (xs.set i.toNat x') Hs' → C R (G Hs') st') : SemTo P B c o R (G [(b, .cells cs e (0, 0))]) st C := by
 have hput : putCells cs (i.toNat * k + j) vs = putCells cs (i.toNat * k) (pre ++ (vs ++ post)) := by
  rw [putCells_app, putCells_same pre cs _ (fun a u ha => hc a u (by rw [List.getElem?_append_left (List.getElem?_eq_some_iff.1 ha).1]; exact ha)), putCells_app, hj, hn]
  rw [putCells_same post]
  intro a u ha
  have h2 := hc (j + n + a) u (by
   rw [List.getElem?_append_right (by omega), List.getElem?_append_right (by omega)]
   rw [show j + n + a - pre.length - mid.length = a by omega]
   exact ha)
  have hlt := (Array.getElem?_eq_some_iff.1 h2).1
  rw [putCells_get vs cs (i.toNat * k + j) _ (by rw [hn]; have := hk; simp only [List.length_append] at this; omega), if_neg (by omega)]
  rwa [show i.toNat * k + (j + n + a) = i.toNat * k + j + n + a by omega] at h2
 have hlen : (pre ++ (vs ++ post)).length = k := by
  simp only [List.length_append] at hk ⊢
  omega
 have hO' := hO x' _ hK hlen
 rw [← hput] at hO'
 refine Ox.memU (s := fun ρ => Instr.storeAt t (ρ x) (ρ y)) (by rw [hop]; rfl) hd (fun ρ => by simp only [execOp, hop]) hsub (fun ρ hρ => ?_)
 rw [hρ x _ hx, hρ y _ hy]
 simp only [Instr.storeAt, Instr.sureAddr]
 refine Val.bindOk (Val.pure _) ?_
 have hsz' : w.cells.size = n := by rw [← hn, ← hw]; simp
 refine SemOk.storeVar (cs := cs) (e := e) ht hsz' (by rw [hw]; exact h1) (by simp only [List.length_append] at hk; omega) ?_ (h _ hO')
 rw [hw]
 exact hG.set
theorem SemOk.freezeHead {b n off : Nat} {cs : Array Value} {e : TypeId} {fz : Nat × Nat} {K : Unit → RMap → HList → Prop} (hk : ∀ fz', K () R ((b, .cells cs e fz') :: H)) : SemOk P B R ((b, .cells cs e fz) :: H) (Go.freeze ⟨b, off, none⟩ n) K := by
 intro w hw
 have hb : w.heap[b]? = some (.cells cs e fz) := hw.h _ _ (by simp)
 have hrun : (Go.freeze ⟨b, off, none⟩ n).run P w = .ok () (w.freeze ⟨b, off, none⟩ n) := rfl
 have hev : (Go.freeze ⟨b, off, none⟩ n).events P w #[] = #[] := rfl
 by_cases hn : n = 0
 ·refine ⟨(), w, R, (b, .cells cs e fz) :: H, by rw [hrun]; simp [World.freeze, hn], by rw [hev]; simp, Upd.refl hw, hk fz⟩
 ·obtain ⟨lo, hi⟩ := fz
  have hw' : w.freeze ⟨b, off, none⟩ n = { w with heap := w.heap.setIfInBounds b (.cells cs e (if lo == hi then (off, off + n) else (min lo off, max hi (off + n)))) } := by
   simp only [World.freeze, hn, if_false]
   congr 1
   apply Array.ext_getElem?
   intro i
   rw [Array.getElem?_modify]
   by_cases hi' : b = i
   ·subst hi'
    rw [Array.getElem?_setIfInBounds_self_of_lt (lt_of_heap hb), hb]
    simp
   ·simp [hi', Array.getElem?_setIfInBounds_ne hi']
  refine ⟨(), _, R, _, hrun, by rw [hev]; simp, ?_, hk (if lo == hi then (off, off + n) else (min lo off, max hi (off + n)))⟩
  rw [hw']
  exact hw.hset .here
theorem Ox.strBytes {x : Operand} {t u e : TypeId} {s : ByteArray} (hop : o.op = .convert t u x) (hx : evalS st x = some (.string s)) (ht : P.underlying t = some .string) (hu : P.underlying u = some (.slice e)) (he : P.underlying e = some (.int .u8))
  (hd : dstLt o.dst c.n) (hC : ∀ v Hs, RdS (CI .u8) 1 R (Hs ++ H) v (strL s) → ∃ st', SubL (putS o.dst v st) st' ∧ C R (Hs ++ H) st') : SemTo P B c o R H st C :=
 Ox.mem (s := fun ρ => convert t u (ρ x)) (by rw [hop]; rfl) hd (fun ρ => by simp only [execOp, hop]) (fun ρ hρ => by
  rw [hρ x _ hx]
  unfold convert
  refine Val.bindOk (Val.underlying ht) (Val.bindOk (Val.underlying hu) ?_)
  dsimp only
  refine Val.bindOk (Val.underlying he) ?_
  dsimp only
  unfold Conv.stringToBytes
  refine SemOk.bind (SemOk.choose fun t' => ?_)
  generalize hcap : (if (Question.appendCap s.size 0 e).forced then 0 else (Question.appendCap s.size 0 e).cut t') = cap
  have hge : s.size ≤ cap := by
   rw [← hcap]
   simp [Question.forced, Question.cut]
  refine SemOk.bind ?_
  simp only [newRow]
  refine SemOk.bind (SemOk.new fun b h1 h2 => SemOk.pure ?_)
  refine SemOk.bind ?_
  unfold markStringish
  have fin : ∀ fz', ∃ st', SubL (putS o.dst (.slice (some ⟨b, 0, none⟩) s.size cap) st) st' ∧ C R ((b, .cells ((s.data.map fun b => Value.int .u8 b.toNat) ++ Array.replicate (cap - s.size) (.int .u8 0)) e fz') :: H) st' := fun fz' => by
   refine hC (.slice (some ⟨b, 0, none⟩) s.size cap) [(b, .cells ((s.data.map fun b => Value.int .u8 b.toNat) ++ Array.replicate (cap - s.size) (.int .u8 0)) e fz')] ⟨some ⟨b, 0, none⟩, cap, (strL s).map (Value.int .u8), by simp [strL], ?_, by simpa [strL] using hge, fun _ => ⟨b, 0, rfl, fun j w hj => ⟨rfl, _, e, fz', .inr (List.mem_cons_self ..), ?_⟩⟩⟩
   ·refine ⟨by simp, fun i y hy => ⟨[.int .u8 y], rfl, rfl, fun j w hj => ?_⟩⟩
    cases j with
    | zero => cases hj; simp [hy]
    | succ j => simp at hj
   ·have hlt := (List.getElem?_eq_some_iff.1 hj).1
    simp only [List.length_map, strL, Array.length_toList] at hlt
    simp only [Nat.zero_add]
    rw [Array.getElem?_append_left (by simpa using hlt)]
    rw [List.getElem?_map] at hj
    obtain ⟨z, hz, rfl⟩ := Option.map_eq_some_iff.1 hj
    unfold strL at hz
    rw [List.getElem?_map] at hz
    obtain ⟨q, hq, rfl⟩ := Option.map_eq_some_iff.1 hz
    rw [Array.getElem?_map]
    rw [Array.getElem?_toList] at hq
    rw [hq]
    rfl
  refine SemOk.bind (SemOk.shape fun y => ?_)
  cases y with
  | none => exact SemOk.pure (SemOk.pure (fin _))
  | some y =>
   obtain ⟨y1, y2⟩ := y
   exact SemOk.freezeHead fun fz' => SemOk.pure (fin fz'))
def copyL {α : Type} (xs ys : List α) : List α := ys.take xs.length ++ xs.drop ys.length
theorem copyL_len {α : Type} {xs ys : List α} {n : Nat} (h : xs.length = n) : (copyL xs ys).length = n := by
 simp only [copyL, List.length_append, List.length_take, List.length_drop]; omega
theorem Ox.sliceArr {x : Operand} {t len e n b off : Nat} (hop : o.op = .slice t x none none none) (hx : evalS st x = some (.pointer (some ⟨b, off, none⟩))) (ht : ArrayTy P t len e n)
  (hd : dstLt o.dst c.n) (hs : SubL (putS o.dst (.slice (some ⟨b, off, none⟩) len len) st) st') (h : C R H st') : SemTo P B c o R H st C :=
 Ox.val' (s := fun ρ => Instr.sliceAt t (ρ x) none none none) (by rw [hop]; rfl) hd (fun ρ => by simp only [execOp, hop]; rfl) (fun ρ hρ => by
  rw [hρ x _ hx]
  unfold Instr.sliceAt
  refine Val.bind (Val.underlying ht.1) ?_
  dsimp only
  unfold Instr.sliceBounds
  refine Val.bind (a := (⟨b, off, none⟩ : Addr)) (Val.pure _) (Val.bind (a := ((0 : Nat), len, len)) (Val.bind (a := len) (Val.pure _) (Val.bind (a := len) (Val.pure _) (Val.bind (a := (0 : Nat)) (Val.pure _) (Val.pure _)))) (Val.bind ht.2 ?_))
  dsimp only
  rw [Nat.zero_mul, add_none]
  simp only [Nat.add_zero, ite_self, Nat.sub_zero]
  exact Val.pure _) hs h
theorem Ox.copyArr {x y : Operand} {t e t2 b off n T : Nat} {dx : TypeDesc} {v : Value} {xs ys : List Int} {pre post : List Value} (hop : o.op = .call ⟨.builtin .copy, #[x, y], #[t, t2]⟩) (hx : evalS st x = some (.slice (some ⟨b, off, none⟩) n n)) (hy : evalS st y = some v) (ht : SliceTy P t e 1) (_ : P.underlying t2 = some dx)
  (hR : RdS (CI .i64) 1 R H v ys) (hl : xs.length = n) (hs : HSet H b (.cells ((pre ++ (xs.map (Value.int .i64) ++ post)).toArray) T (0, 0)) (.cells ((pre ++ ((copyL xs ys).map (Value.int .i64) ++ post)).toArray) T (0, 0)) H') (hpre : pre.length = off)
  (hd : dstLt o.dst c.n) (hsub : SubL (putS o.dst (goInt (Nat.min ys.length n)) st) st') (h : C R H' st') : SemTo P B c o R H st C := by
 refine ⟨by rw [hop]; rfl, hd, fun ρ hρ => ?_⟩
 simp only [execOp, hop]
 refine Val.bindOk (a := ⟨.builtin .copy #[t, t2] o.type (#[x, y].map fun | .const _ => true | _ => false), #[x, y].map ρ⟩) (Val.pure _) ?_
 simp only [invoke, builtin]
 have e1 : (#[x, y].map ρ) = #[.slice (some ⟨b, off, none⟩) n n, v] := by simp [hρ x _ hx, hρ y _ hy]
 rw [e1]
 obtain ⟨A, cap, es, rfl, hE, hcap, hm⟩ := hR
 have hes : es = ys.map (Value.int .i64) := by
  apply List.ext_getElem?
  intro j
  rw [List.getElem?_map]
  rcases Nat.lt_or_ge j ys.length with hj | hj
  ·obtain ⟨q, hq1, hq2, hq3⟩ := hE.at_ j _ (List.getElem?_eq_getElem hj)
   have hq1' : q = [.int .i64 ys[j]] := hq1
   subst hq1'
   have := hq3 0 _ rfl
   rw [Nat.mul_one, Nat.add_zero] at this
   rw [this, List.getElem?_eq_getElem hj]
   rfl
  ·rw [List.getElem?_eq_none (by rw [hE.len]; omega), List.getElem?_eq_none hj]
   rfl
 subst hes
 have hput : putCells ((pre ++ (xs.map (Value.int .i64) ++ post)).toArray) off ((ys.map (Value.int .i64)).take n) = (pre ++ ((copyL xs ys).map (Value.int .i64) ++ post)).toArray := by
  subst hpre
  apply Array.ext_getElem?
  intro j
  rw [putCells_get _ _ _ _ (by simp; omega)]
  simp only [List.length_take, List.length_map, copyL, List.map_append, List.map_take, List.map_drop, List.getElem?_toArray, hl]
  by_cases h1 : pre.length ≤ j ∧ j < pre.length + Min.min n ys.length
  ·rw [if_pos h1, List.getElem?_append_right h1.1, List.getElem?_append_left (by simp; omega), List.getElem?_append_left (by simp; omega)]
  ·rw [if_neg h1]
   rcases Nat.lt_or_ge j pre.length with h2 | h2
   ·rw [List.getElem?_append_left h2, List.getElem?_append_left h2]
   ·rw [List.getElem?_append_right h2, List.getElem?_append_right h2]
    rcases Nat.lt_or_ge (j - pre.length) n with h3 | h3
    ·rw [List.getElem?_append_left (by simp; omega), List.getElem?_append_left (by simp; omega), List.getElem?_append_right (by simp; omega), List.getElem?_drop]
     simp only [List.length_take, List.length_map]
     congr 1
     omega
    ·rw [List.getElem?_append_right (by simp; omega), List.getElem?_append_right (by simp; omega)]
     simp only [List.length_append, List.length_take, List.length_map, List.length_drop]
     congr 1
     omega
 have fin : ∀ K : Unit → RMap → HList → Prop, K () R H' → SemOk P B R H (storeCells ⟨b, off, none⟩ ((ys.map (Value.int .i64)).take n)) K := fun K hK => by
  refine SemOk.given fun hnd => SemOk.storeCells' _ ((pre ++ (xs.map (Value.int .i64) ++ post)).toArray) off 0 H H' (fun u hu => ?_) (by subst hpre; simp; omega) (by rw [Nat.add_zero, hput]; exact hs) hnd hK
  obtain ⟨z, _, rfl⟩ := List.mem_map.1 (List.mem_of_mem_take hu)
  rfl
 refine SemOk.bind ?_
 unfold Builtin.copy_
 refine Val.bindOk (Val.underlying ht.1) ?_
 dsimp only
 refine Val.bindOk (a := ys.length) (Val.pure _) (Val.bindOk ht.2 ?_)
 have last : SemOk P B R H (do storeCells ⟨b, off, none⟩ ((ys.map (Value.int .i64)).take n); pure (goInt (Nat.min ys.length n))) fun a R' H' => SemOk P B R' H' (pure (Next.value a)) fun nx R' H' => ∃ v, (nx = .value v ∨ (nx = .skip ∧ v = undef)) ∧ ∃ st', SubL (putS o.dst v st) st' ∧ C R' H' st' :=
  SemOk.bind (fin _ (SemOk.pure (SemOk.pure ⟨_, .inl rfl, st', hsub, h⟩)))
 have htake : (ys.map (Value.int .i64)).take n = (ys.map (Value.int .i64)).take (Nat.min ys.length n * 1) := by
  rw [Nat.mul_one]
  rcases Nat.le_total ys.length n with h1 | h1
  ·rw [show Nat.min ys.length n = ys.length from Nat.min_eq_left h1, List.take_of_length_le (by simpa using h1), List.take_of_length_le (by simp)]
  ·rw [show Nat.min ys.length n = n from Nat.min_eq_right h1]
 cases A with
 | none =>
  have hy0 : ys = [] := by
   apply Classical.byContradiction
   intro hn
   obtain ⟨b', o', h1, _⟩ := hm hn
   cases h1
  subst hy0
  simp only [Builtin.firstCells]
  refine Val.bindOk (a := #[]) (Val.pure _) ?_
  simpa using last
 | some A =>
  have hcells : CellsAt R H A.block A.off ((ys.map (Value.int .i64)).take n) ∧ (ys ≠ [] → A = ⟨A.block, A.off, none⟩) := by
   by_cases hn : ys = []
   ·subst hn; exact ⟨fun j u hj => by simp at hj, fun h => absurd rfl h⟩
   ·obtain ⟨b', o', h1, h2⟩ := hm hn
    cases h1
    refine ⟨fun j u hj => ?_, fun _ => rfl⟩
    rw [List.getElem?_take] at hj
    split at hj
    ·exact h2 j u hj
    ·cases hj
  simp only [Builtin.firstCells, loadCells]
  by_cases hn : ys = []
  ·subst hn
   simp only [List.length_nil, Nat.zero_mul, show Nat.min 0 n = 0 from Nat.zero_min n]
   refine Val.bindOk (a := #[]) (Val.pure _) ?_
   simpa using last
  ·rw [hcells.2 hn]
   have hln : ((ys.map (Value.int .i64)).take n).length = Nat.min ys.length n * 1 := by rw [htake]; simp [Nat.min_le_left]
   refine SemOk.bind ?_
   rw [← hln]
   refine SemOk.loadCellsFrom _ 0 #[] (by simpa using hcells.1) ?_
   simpa using last
end
end Go.Lg
