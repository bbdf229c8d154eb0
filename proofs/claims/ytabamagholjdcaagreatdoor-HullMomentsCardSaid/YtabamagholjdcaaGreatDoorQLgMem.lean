/- The logic, on: one law for each kind of operation of memory: box, alloc, load, store, build, a slice's literal, append. Conditions: none; over any program. -/
import Derived.Test.YtabamagholjdcaaGreatDoorQLgRun
namespace Go.Lg
open Go.Conc
def ZeroTy (P : Program) (t : TypeId) (cs : Array Value) : Prop := ∃ z, Val P (zeroValue t) z ∧ z.cells = cs
def OneTy (P : Program) (t : TypeId) : Prop := Val P (isAgg t) false ∧ Val P (sizeOf t) 1
def AggTy (P : Program) (t : TypeId) (n : Nat) : Prop := Val P (isAgg t) true ∧ Val P (sizeOf t) n
def CellsAt (R : RMap) (H : HList) (b o : Nat) (vs : List Value) : Prop := ∀ j v, vs[j]? = some v → Cell R H ⟨b, o + j, none⟩ v
theorem CellsAt.known {R : RMap} {H : HList} {b o n : Nat} {cs : Array Value} {e : TypeId} {fz : Nat × Nat} {vs : List Value} (hm : R b = some (Obj.cells cs e fz)) (hv : (cs.toList.drop o).take n = vs) : CellsAt R H b o vs := by
 intro j v hj
 refine ⟨rfl, cs, e, fz, .inl hm, ?_⟩
 subst hv
 rw [List.getElem?_take] at hj
 split at hj
 ·rw [List.getElem?_drop] at hj
  simpa using hj
 ·cases hj
def putCells (cs : Array Value) : Nat → List Value → Array Value
 | _, [] => cs
 | o, v :: r => putCells (cs.setIfInBounds o v) (o + 1) r
theorem putCells_size : ∀ (vs : List Value) (cs : Array Value) (o : Nat), (putCells cs o vs).size = cs.size
 | [], _, _ => rfl
 | v :: r, cs, o => by simp only [putCells]; rw [putCells_size r]; simp
theorem HSet.mid {H H1 H' : HList} {b : Nat} {o o' o'' : Obj} (h : HSet H b o o' H1) (k : HSet H b o o'' H') (hn : (H.map (·.1)).Nodup) : HSet H1 b o' o'' H' := by
 induction h generalizing H' with
 | @here b o o' H =>
  cases k with
  | here => exact .here
  | there k =>
   rw [List.map_cons, List.nodup_cons] at hn
   exact absurd (List.mem_map.2 ⟨_, k.mem, rfl⟩) hn.1
 | @there b o o' p H H1 hs ih =>
  cases k with
  | here =>
   rw [List.map_cons, List.nodup_cons] at hn
   exact absurd (List.mem_map.2 ⟨_, hs.mem, rfl⟩) hn.1
  | there k =>
   rw [List.map_cons, List.nodup_cons] at hn
   exact .there (ih k hn.2)
section
variable {P : Program} {B : Base} {main : Bool} {𝒥 : Jd P B main} {c : Ctx} {R : RMap} {H H' : HList} {st st' : St} {o : Oper} {C : RMap → HList → St → Prop}
theorem SemOk.storeCells' {b : Nat} {e : TypeId} {K : Unit → RMap → HList → Prop} : ∀ (vs : List Value) (cs : Array Value) (off i : Nat) (H H' : HList), (∀ v ∈ vs, v.oneCell' = true) → off + i + vs.length ≤ cs.size →
  HSet H b (.cells cs e (0, 0)) (.cells (putCells cs (off + i) vs) e (0, 0)) H' → (H.map (·.1)).Nodup → K () R H' → SemOk P B R H (storeCells ⟨b, off, none⟩ vs i) K
 | [], cs, off, i, H, H', _, _, hs, hn, hk => by
  have e1 : H' = H := by
   have : ∀ {H H' : HList} {o : Obj}, HSet H b o o H' → H' = H := by
    intro H H' o h
    induction H generalizing H' with
    | nil => cases h
    | cons p r ih =>
     cases h with
     | here => rfl
     | there h => rw [ih h]
   exact this hs
  subst e1
  simp only [storeCells]
  exact SemOk.pure hk
 | v :: r, cs, off, i, H, H', h1, hl, hs, hn, hk => by
  simp only [storeCells]
  simp only [List.length_cons] at hl
  have hex : ∀ (H : HList) (o o' : Obj), (b, o) ∈ H → ∃ H1, HSet H b o o' H1 := by
   intro H o o' hm
   induction H with
   | nil => cases hm
   | cons p r ih =>
    rcases List.mem_cons.1 hm with rfl | hm
    ·exact ⟨_, .here⟩
    ·obtain ⟨H1, h1⟩ := ih hm
     exact ⟨_, .there h1⟩
  obtain ⟨H1, hs1⟩ := hex H _ (.cells (cs.setIfInBounds (off + i) v) e (0, 0)) hs.mem
  have hs2 : HSet H1 b (.cells (cs.setIfInBounds (off + i) v) e (0, 0)) (.cells (putCells cs (off + i) (v :: r)) e (0, 0)) H' := HSet.mid hs1 hs hn
  refine SemOk.bind ?_
  rw [add_none]
  refine SemOk.store (h1 v (by simp)) rfl (by show off + i < cs.size; omega) hs1 ?_
  exact SemOk.storeCells' r (cs.setIfInBounds (off + i) v) off (i + 1) H1 H' (fun u hu => h1 u (by simp [hu])) (by simp; omega) (by simpa [putCells, Nat.add_assoc] using hs2) (by rw [hs1.keys]; exact hn) hk
theorem SemOk.given {α : Type} {s : Sem α} {K : α → RMap → HList → Prop} (h : (H.map (·.1)).Nodup → SemOk P B R H s K) : SemOk P B R H s K := fun w hw => h hw.nd w hw
theorem SemOk.storeVar {t : TypeId} {b off n : Nat} {e : TypeId} {v : Value} {cs : Array Value} {K : Unit → RMap → HList → Prop} (hn : Val P (sizeOf t) n) (hvn : v.cells.size = n) (h1 : ∀ u ∈ v.cells.toList, u.oneCell' = true) (hl : off + n ≤ cs.size)
  (hs : HSet H b (.cells cs e (0, 0)) (.cells (putCells cs off v.cells.toList) e (0, 0)) H') (hk : K () R H') : SemOk P B R H (storeVar t ⟨b, off, none⟩ v) K := by
 refine SemOk.given fun hnd => ?_
 unfold Go.storeVar
 refine Val.bindOk hn ?_
 simp only [hvn, ne_eq, not_true_eq_false, if_false]
 exact SemOk.storeCells' _ cs off 0 H H' h1 (by simp [hvn]; exact hl) (by simpa using hs) hnd hk
theorem SemOk.loadCellsFrom {b off : Nat} {K : Array Value → RMap → HList → Prop} : ∀ (vs : List Value) (i : Nat) (acc : Array Value), CellsAt R H b (off + i) vs → K (acc ++ vs.toArray) R H → SemOk P B R H (loadCellsFrom ⟨b, off, none⟩ i vs.length acc) K
 | [], i, acc, _, hk => by
  simp only [List.length_nil, Go.loadCellsFrom]
  exact SemOk.pure (by simpa using hk)
 | v :: r, i, acc, hc, hk => by
  simp only [List.length_cons, Go.loadCellsFrom]
  refine SemOk.bind ?_
  rw [add_none]
  refine SemOk.load (v := v) (by simpa using hc 0 v rfl) ?_
  refine SemOk.loadCellsFrom r (i + 1) (acc.push v) (fun j u hj => ?_) (by simpa using hk)
  have := hc (j + 1) u (by simpa using hj)
  simpa [Nat.add_assoc, Nat.add_comm, Nat.add_left_comm] using this
theorem Ox.load1 {x : Operand} {t : TypeId} {b off : Nat} {v : Value} (hop : o.op = .load t x) (hx : evalS st x = some (.pointer (some ⟨b, off, none⟩))) (ht : OneTy P t) (hc : Cell R H ⟨b, off, none⟩ v)
  (hd : dstLt o.dst c.n) (hs : SubL (putS o.dst v st) st') (h : C R H st') : SemTo P B c o R H st C :=
 Ox.mem (s := fun ρ => Instr.loadAt t (ρ x)) (by rw [hop]; rfl) hd (fun ρ => by simp only [execOp, hop]) (fun ρ hρ => by
  rw [hρ x _ hx]
  simp only [Instr.loadAt, Instr.sureAddr, loadVar]
  refine Val.bindOk (Val.pure _) (Val.bindOk ht.1 ?_)
  exact SemOk.load hc ⟨st', hs, h⟩)
theorem Ox.loadN {x : Operand} {t : TypeId} {b off n : Nat} {vs : List Value} (hop : o.op = .load t x) (hx : evalS st x = some (.pointer (some ⟨b, off, none⟩))) (ht : AggTy P t n) (hn : vs.length = n) (hc : CellsAt R H b off vs)
  (hd : dstLt o.dst c.n) (hs : SubL (putS o.dst (.agg vs.toArray) st) st') (h : C R H st') : SemTo P B c o R H st C :=
 Ox.mem (s := fun ρ => Instr.loadAt t (ρ x)) (by rw [hop]; rfl) hd (fun ρ => by simp only [execOp, hop]) (fun ρ hρ => by
  rw [hρ x _ hx]
  simp only [Instr.loadAt, Instr.sureAddr, loadVar]
  refine Val.bindOk (Val.pure _) (Val.bindOk ht.1 ?_)
  simp only [if_true]
  refine Val.bindOk ht.2 (SemOk.bind ?_)
  subst hn
  exact SemOk.loadCellsFrom vs 0 #[] (by simpa using hc) (SemOk.pure ⟨st', by simpa using hs, h⟩))
theorem Ox.store1 {x y : Operand} {t e : TypeId} {b off : Nat} {v : Value} {cs cs' : Array Value} (hop : o.op = .store t x y) (hx : evalS st x = some (.pointer (some ⟨b, off, none⟩))) (hy : evalS st y = some v) (ht : OneTy P t) (hv : v.oneCell' = true) (hs : HSet H b (.cells cs e (0, 0)) (.cells cs' e (0, 0)) H') (hl : Nat.blt off cs.size = true) (hcs : cs.setIfInBounds off v = cs')
  (hd : o.dst = none) (hsub : SubL st st') (h : C R H' st') : SemTo P B c o R H st C :=
 Ox.memU (s := fun ρ => Instr.storeAt t (ρ x) (ρ y)) (by rw [hop]; rfl) hd (fun ρ => by simp only [execOp, hop]) hsub (fun ρ hρ => by
  rw [hρ x _ hx, hρ y _ hy]
  simp only [Instr.storeAt, Instr.sureAddr]
  refine Val.bindOk (Val.pure _) ?_
  have hvc : v.cells = #[v] := by cases v <;> first | rfl | (simp [Value.oneCell'] at hv)
  refine SemOk.storeVar (cs := cs) (e := e) ht.2 (by rw [hvc]; rfl) (by rw [hvc]; simpa using hv) (Nat.le_of_ble_eq_true hl) ?_ h
  rw [hvc]
  simpa [putCells, hcs] using hs)
theorem Ox.storeN {x y : Operand} {t e : TypeId} {b off n : Nat} {vs : Array Value} {cs cs' : Array Value} (hop : o.op = .store t x y) (hx : evalS st x = some (.pointer (some ⟨b, off, none⟩))) (hy : evalS st y = some (.agg vs)) (ht : AggTy P t n) (hn : vs.size = n) (h1 : ∀ u ∈ vs.toList, u.oneCell' = true) (hs : HSet H b (.cells cs e (0, 0)) (.cells cs' e (0, 0)) H') (hl : Nat.ble (off + n) cs.size = true) (hcs : putCells cs off vs.toList = cs')
  (hd : o.dst = none) (hsub : SubL st st') (h : C R H' st') : SemTo P B c o R H st C :=
 Ox.memU (s := fun ρ => Instr.storeAt t (ρ x) (ρ y)) (by rw [hop]; rfl) hd (fun ρ => by simp only [execOp, hop]) hsub (fun ρ hρ => by
  rw [hρ x _ hx, hρ y _ hy]
  simp only [Instr.storeAt, Instr.sureAddr]
  refine Val.bindOk (Val.pure _) ?_
  exact SemOk.storeVar (cs := cs) (e := e) ht.2 hn h1 (Nat.le_of_ble_eq_true hl) (by simpa [Value.cells, hcs] using hs) h)
theorem Ox.box1 {x : Operand} {t : TypeId} {v : Value} (hop : o.op = .box t x) (hx : evalS st x = some v) (hv : v.cells = #[v]) (hd : dstLt o.dst c.n)
  (h : ∀ b, R b = none → (∀ x, (b, x) ∉ H) → ∃ st', SubL (putS o.dst (.pointer (some ⟨b, 0, none⟩)) st) st' ∧ C R ((b, .cells #[v] t) :: H) st') : SemTo P B c o R H st C :=
 Ox.mem (s := fun ρ => Instr.box t (ρ x)) (by rw [hop]; rfl) hd (fun ρ => by simp only [execOp, hop]) (fun ρ hρ => by
  rw [hρ x _ hx]
  simp only [Instr.box, newVar, newRow, hv]
  exact SemOk.bind (SemOk.bind (SemOk.new fun b h1 h2 => SemOk.pure (SemOk.pure (h b h1 h2)))))
theorem Ox.boxN {x : Operand} {t : TypeId} {vs : Array Value} (hop : o.op = .box t x) (hx : evalS st x = some (.agg vs)) (hd : dstLt o.dst c.n)
  (h : ∀ b, R b = none → (∀ x, (b, x) ∉ H) → ∃ st', SubL (putS o.dst (.pointer (some ⟨b, 0, none⟩)) st) st' ∧ C R ((b, .cells vs t) :: H) st') : SemTo P B c o R H st C :=
 Ox.mem (s := fun ρ => Instr.box t (ρ x)) (by rw [hop]; rfl) hd (fun ρ => by simp only [execOp, hop]) (fun ρ hρ => by
  rw [hρ x _ hx]
  simp only [Instr.box, newVar, newRow, Value.cells]
  exact SemOk.bind (SemOk.bind (SemOk.new fun b h1 h2 => SemOk.pure (SemOk.pure (h b h1 h2)))))
theorem Ox.alloc {t : TypeId} {cs : Array Value} (hop : o.op = .alloc t) (ht : ZeroTy P t cs) (hd : dstLt o.dst c.n)
  (h : ∀ b, R b = none → (∀ x, (b, x) ∉ H) → ∃ st', SubL (putS o.dst (.pointer (some ⟨b, 0, none⟩)) st) st' ∧ C R ((b, .cells cs t) :: H) st') : SemTo P B c o R H st C :=
 Ox.mem (s := fun _ => Instr.alloc t true (.tuple #[])) (by rw [hop]; rfl) hd (fun ρ => by simp only [execOp, hop]) (fun ρ hρ => by
  obtain ⟨z, hz, rfl⟩ := ht
  simp only [Instr.alloc, newVar, newRow]
  exact Val.bindOk hz (SemOk.bind (SemOk.bind (SemOk.new fun b h1 h2 => SemOk.pure (SemOk.pure (h b h1 h2))))))
def partsS (st : St) : List (Nat × Operand) → Option (List (Nat × Value))
 | [] => some []
 | (j, x) :: r => match evalS st x, partsS st r with
  | some v, some vs => some ((j, v) :: vs)
  | _, _ => none
theorem partsS_eval {ρ : Operand → Value} (hρ : Knows st ρ) : ∀ (l : List (Nat × Operand)) (r : List (Nat × Value)), partsS st l = some r → l.map (fun (j, x) => (j, ρ x)) = r
 | [], r, h => by cases h; rfl
 | (j, x) :: l, r, h => by
  simp only [partsS] at h
  cases hx : evalS st x with
  | none => simp [hx] at h
  | some v =>
   cases hl : partsS st l with
   | none => simp [hx, hl] at h
   | some vs =>
    simp [hx, hl] at h
    subst h
    simp [hρ x v hx, partsS_eval hρ l vs hl]
def StructTy (P : Program) (t : TypeId) (places : List (Nat × Nat)) (z : Array Value) : Prop :=
 ZeroTy P t z ∧ ∃ fs : Array Field, P.underlying t = some (.struct fs) ∧ Val P (fs.mapM fun f => do pure (f.offset, ← sizeOf f.type)) places.toArray
theorem Ox.build {t : TypeId} {parts : Array (Nat × Operand)} {ps : List (Nat × Value)} {places : List (Nat × Nat)} {z cells : Array Value} (hop : o.op = .build t parts) (ht : StructTy P t places z) (hp : partsS st parts.toList = some ps) (hf : Instr.fill (places.toArray[·]?) z ps = some cells)
  (hd : dstLt o.dst c.n) (hs : SubL (putS o.dst (.agg cells) st) st') (h : C R H st') : SemTo P B c o R H st C :=
 Ox.val' (s := fun ρ => Instr.build t (parts.map fun (j, x) => (j, ρ x))) (by rw [hop]; rfl) hd (fun ρ => by simp only [execOp, hop]) (fun ρ hρ => by
  obtain ⟨⟨z0, hz, rfl⟩, fs, h1, h2⟩ := ht
  have e : (parts.map fun (j, x) => (j, ρ x)) = ps.toArray := by apply Array.ext'; simpa using partsS_eval hρ _ _ hp
  rw [e]
  unfold Instr.build
  refine Val.bind hz (Val.bind (Val.underlying h1) (Val.bind h2 ?_))
  simp only [hf]
  exact Val.pure _) hs h
def ElemTy (P : Program) (t e n : Nat) (z : Array Value) : Prop := P.underlying t = some (.slice e) ∧ Val P (sizeOf e) n ∧ ZeroTy P e z ∧ z.size = n ∧ 0 < n
theorem Ox.buildSlice {t e n len : Nat} {parts : Array (Nat × Operand)} {ps : List (Nat × Value)} {z base cells : Array Value} (hop : o.op = .buildSlice t len parts) (ht : ElemTy P t e n z) (hp : partsS st parts.toList = some ps) (hlen : len * n ≤ 16777216)
  (hb : (Array.range (len * n)).map (z[· % z.size]!) = base) (hf : Instr.fill (fun j => some (j * n, n)) base ps = some cells) (hd : dstLt o.dst c.n)
  (h : ∀ b, R b = none → (∀ x, (b, x) ∉ H) → ∃ st', SubL (putS o.dst (.slice (some ⟨b, 0, none⟩) len len) st) st' ∧ C R ((b, .cells cells e) :: H) st') : SemTo P B c o R H st C :=
 Ox.mem (s := fun ρ => Instr.buildSlice t len (parts.map fun (j, x) => (j, ρ x))) (by rw [hop]; rfl) hd (fun ρ => by simp only [execOp, hop]) (fun ρ hρ => by
  subst hb
  obtain ⟨h1, h2, ⟨z0, hz, rfl⟩, h3, h4⟩ := ht
  have ep : (parts.map fun (j, x) => (j, ρ x)) = ps.toArray := by apply Array.ext'; simpa using partsS_eval hρ _ _ hp
  rw [ep]
  unfold Instr.buildSlice
  refine Val.bindOk (Val.underlying h1) (Val.bindOk h2 ?_)
  have hl : ¬ (len * n > 2 ^ 24) := by omega
  simp only [hl, if_false]
  have last : SemOk P B R H (do let a ← newRow e cells; pure (.slice (some a) len len)) fun v R' H' => ∃ st', SubL (putS o.dst v st) st' ∧ C R' H' st' := by
   simp only [newRow]
   exact SemOk.bind (SemOk.bind (SemOk.new fun b h1 h2 => SemOk.pure (SemOk.pure (h b h1 h2))))
  by_cases h0 : len * n = 0
  ·simp only [h0, if_true]
   refine Val.bindOk (Val.pure _) ?_
   have hr : ∀ f : Nat → Value, (Array.range 0).map f = #[] := fun f => by simp [Array.range]
   simp only [h0, hr] at hf ⊢
   simp only [hf]
   exact last
  ·simp only [h0, if_false]
   refine Val.bindOk hz (Val.bindOk (Val.pure _) ?_)
   simp only [hf]
   exact last)
end
end Go.Lg
