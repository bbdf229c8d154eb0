/- The logic, on: what the printed walks lean on: short words for boxes, results in cells, closures. Conditions: none; over any program. -/
import Derived.Test.YtabamagholjdcaaGreatDoorQLgApp
namespace Go.Lg
open Go.Conc
theorem SubL.one {dst : Option Tmp} {d : Tmp} {v : Value} {st : St} (h : dst = some d) : SubL (putS dst v st) [(d, v)] := by
 subst h
 intro t u hu
 simp only [List.lookup_cons, List.lookup_nil] at hu
 simp only [putS, List.lookup_cons]
 split at hu
 ·exact hu
 ·cases hu
theorem HSet.skip {Ks H H' : HList} {b : Nat} {o o' : Obj} (h : HSet H b o o' H') : HSet (Ks ++ H) b o o' (Ks ++ H') := by
 induction Ks with
 | nil => exact h
 | cons p Ks ih => exact .there ih
theorem CellsAt.box {R : RMap} {H : HList} {b : Nat} {e : TypeId} {fz : Nat × Nat} {L : List Value} (hm : (b, Obj.cells L.toArray e fz) ∈ H) : CellsAt R H b 0 L := fun j v hj => ⟨rfl, _, e, fz, .inr hm, by simpa using hj⟩
theorem Hole.id {D : HList} : Hole (fun X => X ++ D) := ⟨[], D, fun _ => rfl⟩
theorem Hole.cons {p : Nat × Obj} {G : HList → HList} (h : Hole G) : Hole (fun X => p :: G X) := by
 obtain ⟨A, D, h⟩ := h
 exact ⟨p :: A, D, fun X => by show p :: G X = _; rw [h]; rfl⟩
theorem Hole.app {L : HList} {G : HList → HList} (h : Hole G) : Hole (fun X => L ++ G X) := by
 obtain ⟨A, D, h⟩ := h
 exact ⟨L ++ A, D, fun X => by show L ++ G X = _; rw [h, List.append_assoc]⟩
theorem fill_nil {place : Nat → Option (Nat × Nat)} {cells : Array Value} : Instr.fill place cells [] = some cells := rfl
theorem put_zip (vc : List Value) : ∀ (cells : Array Value) (off j : Nat), (vc.zipIdx j).foldl (fun cs (c, i) => cs.setIfInBounds (off + i) c) cells = putCells cells (off + j) vc := by
 induction vc with
 | nil => intro cells off j; rfl
 | cons v r ih => intro cells off j; simp only [List.zipIdx_cons, List.foldl_cons, putCells]; rw [ih]; rfl
theorem put_zipA (vc cells : Array Value) (off : Nat) : vc.zipIdx.foldl (fun cs (c, i) => cs.setIfInBounds (off + i) c) cells = putCells cells off vc.toList := by
 have h := put_zip vc.toList cells off 0
 rw [Nat.add_zero] at h
 rw [← h, ← Array.foldl_toList]
 simp
theorem fill_cons {place : Nat → Option (Nat × Nat)} {cells cells' out vc : Array Value} {i off size : Nat} {v : Value} {rest : List (Nat × Value)} (hp : place i = some (off, size)) (hc : v.cells = vc)
  (hs : (vc.size == size && Nat.ble (off + vc.size) cells.size) = true) (hput : putCells cells off vc.toList = cells') (h : Instr.fill place cells' rest = some out) : Instr.fill place cells ((i, v) :: rest) = some out := by
 subst hc
 rw [Bool.and_eq_true] at hs
 have h1 : v.cells.size = size := by simpa using hs.1
 have h2 : off + v.cells.size ≤ cells.size := by simpa [Nat.ble_eq] using hs.2
 simp only [Instr.fill, hp]
 rw [if_neg (by simp [h1]; omega), put_zipA, hput]
 exact h
theorem ones_nil : ∀ u ∈ ([] : List Value), u.oneCell' = true := fun _ h => by cases h
theorem ones_cons {v : Value} {l : List Value} (h : v.oneCell' = true) (t : ∀ u ∈ l, u.oneCell' = true) : ∀ u ∈ v :: l, u.oneCell' = true := fun u hu => by
 rcases List.mem_cons.1 hu with rfl | hu
 ·exact h
 ·exact t u hu
theorem ones_app {l m : List Value} (h : ∀ u ∈ l, u.oneCell' = true) (t : ∀ u ∈ m, u.oneCell' = true) : ∀ u ∈ l ++ m, u.oneCell' = true := fun u hu => (List.mem_append.1 hu).elim (h u) (t u)
theorem ones_map {α : Type} {f : α → Value} {xs : List α} (h : ∀ x, (f x).oneCell' = true) : ∀ u ∈ xs.map f, u.oneCell' = true := fun u hu => by
 obtain ⟨x, _, rfl⟩ := List.mem_map.1 hu
 exact h x
theorem CellsAt.part {R : RMap} {H : HList} {b o j n : Nat} {L vs : List Value} (h : CellsAt R H b o L) (hv : (L.drop j).take n = vs) : CellsAt R H b (o + j) vs := by
 intro i v hi
 subst hv
 rw [List.getElem?_take] at hi
 split at hi
 ·rw [List.getElem?_drop] at hi
  have := h _ _ hi
  simpa [Nat.add_assoc] using this
 ·cases hi
theorem CellsAt.arr {α : Type} {R : RMap} {H : HList} {b o k : Nat} {f : α → Value} {pre post : List Value} {xs : List α} {i : Int} {x : α} (h : CellsAt R H b o (pre ++ (xs.map f ++ post))) (hi : idx xs i = some x) (hk : pre.length = k) : Cell R H ⟨b, o + k + i.toNat * 1, none⟩ (f x) := by
 obtain ⟨_, _, h3⟩ := idx_some hi
 have hlt := (List.getElem?_eq_some_iff.1 h3).1
 have := h (k + i.toNat) (f x) (by
  rw [List.getElem?_append_right (by omega), ← hk, Nat.add_sub_cancel_left, List.getElem?_append_left (by simpa using hlt)]
  simp [h3])
 simpa [Nat.add_assoc] using this
theorem CellsAt.sub {R : RMap} {H H' : HList} {b o : Nat} {L : List Value} (h : CellsAt R H b o L) (hs : ∀ p ∈ H, p ∈ H') : CellsAt R H' b o L := fun j v hj => by
 obtain ⟨h1, cs, e, fz, h2, h3⟩ := h j v hj
 exact ⟨h1, cs, e, fz, h2.imp id (hs _), h3⟩
theorem CellsAt.le {R R' : RMap} {H : HList} {b o : Nat} {L : List Value} (h : CellsAt R H b o L) (hs : RLe R R') : CellsAt R' H b o L := fun j v hj => by
 obtain ⟨h1, cs, e, fz, h2, h3⟩ := h j v hj
 exact ⟨h1, cs, e, fz, h2.imp (hs _ _) id, h3⟩
theorem arr_set {α : Type} {f : α → Value} {pre post : List Value} {xs : List α} {i : Int} {x y : α} {k : Nat} (hi : idx xs i = some y) (hk : pre.length = k) : ((pre ++ (xs.map f ++ post)).toArray).setIfInBounds (k + i.toNat * 1) (f x) = (pre ++ ((xs.set i.toNat x).map f ++ post)).toArray := by
 obtain ⟨_, _, h3⟩ := idx_some hi
 have hlt := (List.getElem?_eq_some_iff.1 h3).1
 subst hk
 simp only [Nat.mul_one, List.setIfInBounds_toArray, List.map_set]
 congr 1
 rw [List.set_append_right _ _ (by omega), Nat.add_sub_cancel_left, List.set_append_left _ _ (by simpa using hlt)]
theorem arr_lt {α : Type} {f : α → Value} {pre post : List Value} {xs : List α} {i : Int} {y : α} {k : Nat} (hi : idx xs i = some y) (hk : pre.length = k) : Nat.blt (k + i.toNat * 1) ((pre ++ (xs.map f ++ post)).toArray).size = true := by
 obtain ⟨_, _, h3⟩ := idx_some hi
 have hlt := (List.getElem?_eq_some_iff.1 h3).1
 rw [Nat.blt_eq]
 simp
 omega
theorem take_all {L : List Value} {n : Nat} (h : L.length = n) : (L.drop 0).take n = L := by subst h; simp
theorem idxArr' {P : Program} {α : Type} {t e len k b m : Nat} {i : Int} {xs : List α} {x : α} (ht : ArrayTy P t len e k) (hl : xs.length = len) (hi : idx xs i = some x) : IdxTo P t (.pointer (some ⟨b, m, none⟩)) i b (m + i.toNat * k) := by
 obtain ⟨h1, h2, _⟩ := idx_some hi
 exact idxArr ht ⟨h1, by omega⟩
theorem SlR.one {α : Type} {C : CRel α} {k : Nat} {R : RMap} {v : Value} {xs : List α} (h : SlR C k R v xs) : v.oneCell' = true := by
 obtain ⟨A, cap, es, rfl, _⟩ := h; rfl
theorem SlR.cells {α : Type} {C : CRel α} {k : Nat} {R : RMap} {v : Value} {xs : List α} (h : SlR C k R v xs) : v.cells = #[v] := by
 obtain ⟨A, cap, es, rfl, _⟩ := h; rfl
theorem OwnSl.cells {α : Type} {C : CRel α} {k e : Nat} {R : RMap} {v : Value} {xs : List α} {Hs : HList} (h : OwnSl C k e R v xs Hs) : v.cells = #[v] := by
 rcases h with ⟨A, rfl, _⟩ | ⟨b, cap, cs, es, rfl, _⟩ <;> rfl
theorem OwnSl.one {α : Type} {C : CRel α} {k e : Nat} {R : RMap} {v : Value} {xs : List α} {Hs : HList} (h : OwnSl C k e R v xs Hs) : v.oneCell' = true := by
 rcases h with ⟨A, rfl, _⟩ | ⟨b, cap, cs, es, rfl, _⟩ <;> rfl
theorem Enc.cons {α : Type} {C : CRel α} {k : Nat} {R : RMap} {x : α} {xs : List α} {e1 es : List Value} (h : C R x e1) (hk : e1.length = k) (g : Enc C k R xs es) : Enc C k R (x :: xs) (e1 ++ es) := (Enc.single h hk).append g
theorem Enc.le {α : Type} {C : CRel α} {k : Nat} {R : RMap} {xs : List α} {es fs : List Value} (h : Enc C k R xs es) (e : es = fs) : Enc C k R xs fs := by subst e; exact h
section
variable {P : Program} {B : Base} {main : Bool} {𝒥 : Jd P B main} {c : Ctx} {R : RMap} {H H' : HList} {st st' : St} {o : Oper} {k : List Item}
theorem SemOk.ghost {α : Type} {s : Sem α} {K : α → RMap → HList → Prop} {R' : RMap} (hg : ∀ w, Fits B R H w → Upd B R H w R' H' w) (h : SemOk P B R' H' s K) : SemOk P B R H s K := by
 intro w hw
 have h0 := hg w hw
 obtain ⟨a, w', R'', H'', h1, h2, h3, h4⟩ := h w h0.fits
 exact ⟨a, w', R'', H'', h1, fun e he => (h2 e he).up h0, h0.trans h3, h4⟩
theorem FnOk.ghost {f : FuncId} {args : Array Value} {Post : Value → RMap → HList → Prop} {R' : RMap} (hg : ∀ w, Fits B R H w → Upd B R H w R' H' w) (h : FnOk 𝒥 f args R' H' Post) : FnOk 𝒥 f args R H Post :=
 fun fr cs hk => 𝒥.ghost hg (h fr cs hk)
inductive ResOk (P : Program) (R : RMap) (H : HList) (st : St) : List ResultVar → List Value → Prop
 | nil : ResOk P R H st [] []
 | tmp {t : Tmp} {v : Value} {r : List ResultVar} {vs : List Value} : st.lookup t = some v → ResOk P R H st r vs → ResOk P R H st (.tmp t :: r) (v :: vs)
 | one {a : Tmp} {t : TypeId} {b o : Nat} {v : Value} {r : List ResultVar} {vs : List Value} : st.lookup a = some (.pointer (some ⟨b, o, none⟩)) → OneTy P t → Cell R H ⟨b, o, none⟩ v → ResOk P R H st r vs → ResOk P R H st (.cell a t :: r) (v :: vs)
 | agg {a : Tmp} {t : TypeId} {b o n : Nat} {us : List Value} {r : List ResultVar} {vs : List Value} : st.lookup a = some (.pointer (some ⟨b, o, none⟩)) → AggTy P t n → us.length = n → CellsAt R H b o us → ResOk P R H st r vs → ResOk P R H st (.cell a t :: r) (.agg us.toArray :: vs)
theorem semOk_mapM {tmps : Array Value} {n : Nat} (ht : Rep n st tmps) : ∀ {l : List ResultVar} {vs : List Value}, ResOk P R H st l vs → ∀ {K : List Value → RMap → HList → Prop}, K vs R H →
  SemOk P B R H (l.mapM (m := Sem) fun
   | .tmp t => pure (tmps.getD t undef)
   | .cell a t => do loadVar t (← asAddr (tmps.getD a undef))) K := by
 intro l vs h
 induction h with
 | nil => intro K hk; exact SemOk.pure hk
 | @tmp t v r vs hl _ ih =>
  intro K hk
  rw [List.mapM_cons]
  have : tmps.getD t undef = v := by simp [Array.getD_eq_getD_getElem?, ht.2 t v hl]
  refine Val.bindOk (a := v) (by show Val P (pure (tmps.getD t undef)) v; rw [this]; exact Val.pure _) (SemOk.bind (ih (K := fun us R' H' => K (v :: us) R' H') hk |>.mono fun us R' H' h => SemOk.pure h))
 | @one a t b o v r vs hl hty hc _ ih =>
  intro K hk
  rw [List.mapM_cons]
  have : tmps.getD a undef = .pointer (some ⟨b, o, none⟩) := by simp [Array.getD_eq_getD_getElem?, ht.2 a _ hl]
  simp only [this]
  refine SemOk.bind (Val.bindOk (a := ⟨b, o, none⟩) (Val.pure _) ?_)
  unfold loadVar
  refine Val.bindOk hty.1 (SemOk.load hc (SemOk.bind (ih (K := fun us R' H' => K (v :: us) R' H') hk |>.mono fun us R' H' h => SemOk.pure h)))
 | @agg a t b o n us r vs hl hty hn hc _ ih =>
  intro K hk
  rw [List.mapM_cons]
  have : tmps.getD a undef = .pointer (some ⟨b, o, none⟩) := by simp [Array.getD_eq_getD_getElem?, ht.2 a _ hl]
  simp only [this]
  refine SemOk.bind (Val.bindOk (a := ⟨b, o, none⟩) (Val.pure _) ?_)
  unfold loadVar
  refine Val.bindOk hty.1 ?_
  simp only [if_true]
  subst hn
  refine Val.bindOk hty.2 (SemOk.bind (SemOk.loadCellsFrom us 0 #[] (by simpa using hc) (SemOk.pure ?_)))
  simp only [List.append_toArray, List.nil_append]
  exact SemOk.bind (ih (K := fun vs R' H' => K (.agg us.toArray :: vs) R' H') hk |>.mono fun us R' H' h => SemOk.pure h)
theorem semOk_results {fn : Func} {tmps : Array Value} {n : Nat} {vs : List Value} (ht : Rep n st tmps) (h : ResOk P R H st fn.results.toList vs) : SemOk P B R H (results fn tmps) fun v R' H' => v = resV vs ∧ R' = R ∧ H' = H := by
 unfold results
 rw [← Array.toArray_toList (xs := fn.results), List.mapM_toArray]
 refine SemOk.bind (SemOk.map (semOk_mapM ht h ?_))
 cases vs with
 | nil => exact SemOk.pure ⟨rfl, rfl, rfl⟩
 | cons v r => cases r with
  | nil => exact SemOk.pure ⟨rfl, rfl, rfl⟩
  | cons _ _ => exact SemOk.pure ⟨rfl, rfl, rfl⟩
theorem At.retR {fr : Frame} {cs : List Frame} {f : FuncId} {n : Nat} {fn : Func} {vs : List Value} (hf : P.funcs[f]? = some fn) (hr : ResOk P R H st fn.results.toList vs) (hj : 𝒥.J R H (gor (fr.finish (resV vs)) cs)) :
  At 𝒥 ⟨f, .normal, none, n, [], fr :: cs⟩ R H st (.code .ret :: k) := fun tmps ht => by
 refine Jd.ctl (g' := gor { (frm ⟨f, .normal, none, n, [], fr :: cs⟩ tmps (.code .ret :: k)) with mode := .returning } (fr :: cs)) rfl (fun w => by simp [stepG, stepG.exec, gor, frm])
  (𝒥.step rfl fun w hw => ?_)
 obtain ⟨v, w', R', H', h1, h2, h3, rfl, rfl, rfl⟩ := semOk_results (P := P) ht hr w hw
 refine ⟨gor (fr.finish (resV vs)) cs, w', seen P f ((results fn tmps).events P w #[]), R', H', ?_, fun e he => h2 e (mem_seen he), h3, hj⟩
 simp [stepG, unwind, doReturn, gor, frm, hf, h1, GStep.after]
theorem At.endR {fr : Frame} {cs : List Frame} {f : FuncId} {n : Nat} {fn : Func} {vs : List Value} (hf : P.funcs[f]? = some fn) (hr : ResOk P R H st fn.results.toList vs) (hj : 𝒥.J R H (gor (fr.finish (resV vs)) cs)) :
  At 𝒥 ⟨f, .normal, none, n, [], fr :: cs⟩ R H st [] := fun tmps ht => by
 refine Jd.ctl (g' := gor { (frm ⟨f, .normal, none, n, [], fr :: cs⟩ tmps []) with mode := .returning } (fr :: cs)) rfl (fun w => by simp [stepG, stepG.exec, gor, frm])
  (𝒥.step rfl fun w hw => ?_)
 obtain ⟨v, w', R', H', h1, h2, h3, rfl, rfl, rfl⟩ := semOk_results (P := P) ht hr w hw
 refine ⟨gor (fr.finish (resV vs)) cs, w', seen P f ((results fn tmps).events P w #[]), R', H', ?_, fun e he => h2 e (mem_seen he), h3, hj⟩
 simp [stepG, unwind, doReturn, gor, frm, hf, h1, GStep.after]
end
section
variable {P : Program} {B : Base} {main : Bool}
abbrev VRel (α : Type) := RMap → α → Value → Prop
def FunR (𝒥 : Jd P B main) (R : RMap) (H : HList) {α β : Type} (A : VRel α) (D : VRel β) (v : Value) (f : α → Option β) : Prop :=
 ∃ fid first captured, v = .func (.func fid) first captured ∧ Enters P fid ∧ ∀ R' H', RLe R R' → (∀ p ∈ H, p ∈ H') → ∀ x r va, A R' x va → f x = some r → FnOk 𝒥 fid (first ++ #[va] ++ captured) R' H' fun v R'' H'' => RLe R' R'' ∧ H'' = H' ∧ D R'' r v
def VI (kd : IntKind) : VRel Int := fun _ x v => v = .int kd x
def VB : VRel Bool := fun _ x v => v = .bool x
def VSl {α : Type} (C : CRel α) (k : Nat) : VRel (List α) := fun R xs v => SlR C k R v xs
def VAgg {α : Type} (C : CRel α) : VRel α := fun R x v => ∃ es, v = .agg (List.toArray es) ∧ C R x es
theorem FunR.up {𝒥 : Jd P B main} {R R' : RMap} {H H' : HList} {α β : Type} {A : VRel α} {D : VRel β} {v : Value} {f : α → Option β} (h : FunR 𝒥 R H A D v f) (hR : RLe R R') (hH : ∀ p ∈ H, p ∈ H') : FunR 𝒥 R' H' A D v f := by
 obtain ⟨fid, first, captured, h1, h2, h3⟩ := h
 exact ⟨fid, first, captured, h1, h2, fun R'' H'' hR' hH' => h3 R'' H'' (hR.trans hR') (fun p hp => hH' p (hH p hp))⟩
end
end Go.Lg
