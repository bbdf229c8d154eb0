/- Short names of laws that printed walks use often. Conditions: none. -/
import Derived.Test.YtabamagholjdcaaGreatDoorQLgShort
namespace Go.Lg
section
variable {α : Type} {a b₁ b₂ b₃ b₄ b₅ b₆ b₇ b₈ x : α} {l l₁ l₂ : List α}
theorem so (h : List.Sublist l₁ l₂) : List.Sublist l₁ (a :: l₂) := h.cons a
theorem sk (h : List.Sublist l₁ l₂) : List.Sublist (a :: l₁) (a :: l₂) := List.Sublist.cons_cons a h
theorem sr : List.Sublist l l := .refl _
theorem sn : List.Sublist [] l := List.nil_sublist _
theorem su (h : List.Sublist l₁ l₂) : ∀ p ∈ l₁, p ∈ l₂ := fun _ hp => h.subset hp
theorem pp : ∀ p ∈ l, p ∈ l := fun _ h => h
theorem z0 : x ∈ x :: l := .head _
theorem z1 : x ∈ a :: x :: l := .tail _ z0
theorem z2 : x ∈ a :: b₁ :: x :: l := .tail _ z1
theorem z3 : x ∈ a :: b₁ :: b₂ :: x :: l := .tail _ z2
theorem z4 : x ∈ a :: b₁ :: b₂ :: b₃ :: x :: l := .tail _ z3
theorem z5 : x ∈ a :: b₁ :: b₂ :: b₃ :: b₄ :: x :: l := .tail _ z4
theorem z6 : x ∈ a :: b₁ :: b₂ :: b₃ :: b₄ :: b₅ :: x :: l := .tail _ z5
theorem z7 : x ∈ a :: b₁ :: b₂ :: b₃ :: b₄ :: b₅ :: b₆ :: x :: l := .tail _ z6
end
section
variable {P : Program} {B : Base} {main : Bool} {𝒥 : Jd P B main} {c : Ctx} {R : RMap} {H : HList} {st st' : St} {o : Oper} {k : List Item}
theorem sq {x y : Code} (h : At 𝒥 c R H st (.code x :: .code y :: k)) : At 𝒥 c R H st (.code (.seq x y) :: k) := At.seq h
theorem er {ops : Array Oper} (h : At 𝒥 c R H st k) : At 𝒥 c R H st (.inRegion ops [] :: k) := At.endRegion h
theorem es {ops : Array Oper} {x y : Code} (h : At 𝒥 c R H st (.code x :: .code y :: k)) : At 𝒥 c R H st (.inRegion ops [] :: .code (.seq x y) :: k) := At.endRegion (At.seq h)
theorem sg (is : List Nat) {id : Nat} {ops : Array Oper} {y : Code} (h : At 𝒥 c R H st (.inRegion ops is :: .code y :: k)) (hn : ops.size = is.length := by rfl) (his : List.range is.length = is := by rfl) : At 𝒥 c R H st (.code (.seq (.region id ops false) y) :: k) := At.seq (At.rg is h hn his)
theorem nx (is : List Nat) {id : Nat} {os ops : Array Oper} {y : Code} (h : At 𝒥 c R H st (.inRegion ops is :: .code y :: k)) (hn : ops.size = is.length := by rfl) (his : List.range is.length = is := by rfl) : At 𝒥 c R H st (.inRegion os [] :: .code (.seq (.region id ops false) y) :: k) := At.endRegion (sg is h hn his)
theorem sp (h : At 𝒥 c R H st k) : At 𝒥 c R H st (.code .skip :: k) := At.skip h
theorem vs [Fields P] (m : Nat) {ops : Array Oper} {is is' : List Nat} (ha : At 𝒥 c R H st' (.inRegion ops is' :: k)) (h : runV (Fields.off P) ops c.n (is.take m) st = some st' := by rfl) (hr : is.drop m = is' := by rfl) (hk : (c.kind == CallKind.early) = false := by rfl) : At 𝒥 c R H st (.inRegion ops is :: k) := At.vs m h hr ha hk
theorem ld (j : Nat) {ops : Array Oper} {i d : Nat} {rest : List Nat} {x : Operand} {t e : TypeId} {b : Nat} {fz : Nat × Nat} {L : List Value} {v : Value} (ht : OneTy P t) (hm : (b, Obj.cells L.toArray e fz) ∈ H) (h : At 𝒥 c R H ((d, v) :: st) (.inRegion ops rest :: k)) (hj : L[j]? = some v := by rfl)
  (ho : ops[i]? = some o := by rfl) (hw : wantedS ops st o = some true := by rfl) (hk : (c.kind == CallKind.early) = false := by rfl) (hop : o.op = .load t x := by rfl) (hx : evalS st x = some (.pointer (some ⟨b, 0 + j, none⟩)) := by rfl) (hd : o.dst = some d := by rfl) (hl : Nat.blt d c.n = true := by rfl) : At 𝒥 c R H st (.inRegion ops (i :: rest) :: k) :=
 At.ld ht ((CellsAt.box hm).one hj) h ho hw hk hop hx hd hl
theorem lN (vs : List Value) (j n : Nat) {ops : Array Oper} {i d : Nat} {rest : List Nat} {x : Operand} {t e : TypeId} {b : Nat} {fz : Nat × Nat} {L : List Value} {m : Nat} (ht : AggTy P t m) (hm : (b, Obj.cells L.toArray e fz) ∈ H) (h : At 𝒥 c R H ((d, .agg vs.toArray) :: st) (.inRegion ops rest :: k)) (hv : (L.drop j).take n = vs := by rfl)
  (ho : ops[i]? = some o := by rfl) (hw : wantedS ops st o = some true := by rfl) (hk : (c.kind == CallKind.early) = false := by rfl) (hop : o.op = .load t x := by rfl) (hx : evalS st x = some (.pointer (some ⟨b, 0 + j, none⟩)) := by rfl) (hn : vs.length = m := by rfl) (hd : o.dst = some d := by rfl) (hl : Nat.blt d c.n = true := by rfl) : At 𝒥 c R H st (.inRegion ops (i :: rest) :: k) :=
 At.s ho hw (Ox.loadN hop hx ht hn ((CellsAt.box hm).part hv) (by rw [hd]; exact hl) (.put hd) h) hk
theorem bx {ops : Array Oper} {i d : Nat} {rest : List Nat} {x : Operand} {t : TypeId} {vs : Array Value} (h : ∀ b, At 𝒥 c R ((b, .cells vs t) :: H) ((d, .pointer (some ⟨b, 0, none⟩)) :: st) (.inRegion ops rest :: k))
  (ho : ops[i]? = some o := by rfl) (hw : wantedS ops st o = some true := by rfl) (hk : (c.kind == CallKind.early) = false := by rfl) (hop : o.op = .box t x := by rfl) (hx : evalS st x = some (.agg vs) := by rfl) (hd : o.dst = some d := by rfl) (hl : Nat.blt d c.n = true := by rfl) : At 𝒥 c R H st (.inRegion ops (i :: rest) :: k) :=
 At.s ho hw (Ox.boxN hop hx (by rw [hd]; exact hl) fun b _ _ => ⟨_, .put hd, h b⟩) hk
theorem sc {α : Type} {t : Bool} {a b : Option α} {r : α} {x : Operand} {th el : Code} (hM : sel t a b = some r) (h1 : t = true → a = some r → At 𝒥 c R H st (.code th :: k)) (h2 : t = false → b = some r → At 𝒥 c R H st (.code el :: k)) (hx : evalS st x = some (.bool t) := by rfl) : At 𝒥 c R H st (.code (.cond x th el) :: k) :=
 selC hM (fun h hM => At.condT hx h (h1 h hM)) (fun h hM => At.condF hx h (h2 h hM))
theorem ls {α : Type} {K : CRel α} {n : Nat} {ops : Array Oper} {i d : Nat} {rest : List Nat} {x : Operand} {t e : TypeId} {v : Value} {xs : List α} (hl : SlR K n R v xs) (ht : P.underlying t = some (.slice e)) (h : At 𝒥 c R H ((d, .int .i64 (xs.length : Int)) :: st) (.inRegion ops rest :: k))
  (ho : ops[i]? = some o := by rfl) (hw : wantedS ops st o = some true := by rfl) (hk : (c.kind == CallKind.early) = false := by rfl) (hop : o.op = .call ⟨.builtin .len, #[x], #[t]⟩ := by rfl) (hx : evalS st x = some v := by rfl) (hd : o.dst = some d := by rfl) (hn : Nat.blt d c.n = true := by rfl) : At 𝒥 c R H st (.inRegion ops (i :: rest) :: k) :=
 At.s ho hw (Ox.lenS hop hx hl ht (by rw [hd]; exact hn) (.put hd) h) hk
theorem lr {α : Type} {K : CRel α} {n : Nat} {ops : Array Oper} {i d : Nat} {rest : List Nat} {x : Operand} {t e : TypeId} {v : Value} {xs : List α} {H0 : HList} (hl : RdS K n R H0 v xs) (ht : P.underlying t = some (.slice e)) (h : At 𝒥 c R H ((d, .int .i64 (xs.length : Int)) :: st) (.inRegion ops rest :: k))
  (ho : ops[i]? = some o := by rfl) (hw : wantedS ops st o = some true := by rfl) (hk : (c.kind == CallKind.early) = false := by rfl) (hop : o.op = .call ⟨.builtin .len, #[x], #[t]⟩ := by rfl) (hx : evalS st x = some v := by rfl) (hd : o.dst = some d := by rfl) (hn : Nat.blt d c.n = true := by rfl) : At 𝒥 c R H st (.inRegion ops (i :: rest) :: k) :=
 At.s ho hw (Ox.lenR hop hx hl ht (by rw [hd]; exact hn) (.put hd) h) hk
theorem rt {fr : Frame} {cs : List Frame} {f : FuncId} {n : Nat} {fn : Func} {vs : List Value} {H' : HList} (hf : P.funcs[f]? = some fn) (hr : ResOk P R H st fn.results.toList vs) (hs : List.Sublist H' H) (hj : 𝒥.J R H' (gor (fr.finish (resV vs)) cs)) : At 𝒥 ⟨f, .normal, none, n, [], fr :: cs⟩ R H st (.code .ret :: k) :=
 At.retR hf hr (J.drop hs hj)
theorem ts (i : Nat) {ops : Array Oper} {n d : Nat} {rem : List Nat} {S : Nat → HList} {v : Value} {N : HList} (D : List Nat) (ho : ops[i]? = some o) (hSS : ∀ j ∈ rem, j ≠ i → j ∉ D → ∀ p ∈ N, p ∈ S j) (hS : ∀ p ∈ N, p ∈ H)
  (hf : ∀ R' H', RLe R R' → (∀ p ∈ N, p ∈ H') → SemTo P B c o R' H' st fun R1 H1 st1 => R1 = R' ∧ H1 = H' ∧ st1 = [(d, v)]) (h : Any 𝒥 c S ops k n (rem.erase i) R H ((d, v) :: st))
  (hdst : o.dst = some d := by rfl) (hw : wantedS ops st o = some true := by rfl) (htk : takeOk ops rem i D = true := by decide +kernel) (hnd : rem.Nodup := by decide) : Any 𝒥 c S ops k (n + 1) rem R H st :=
 Any.takeS D ho hdst hw htk hSS hS hf (SubL.refl _) hnd rfl h
theorem tl (i j : Nat) {ops : Array Oper} {n d : Nat} {rem : List Nat} {x : Operand} {t e : TypeId} {b : Nat} {fz : Nat × Nat} {L : List Value} {v : Value} (ht : OneTy P t) (hm : (b, Obj.cells L.toArray e fz) ∈ H) (h : Any 𝒥 c (fun _ => H) ops k n (rem.erase i) R H ((d, v) :: st)) (hj : L[j]? = some v := by rfl)
  (ho : ops[i]? = some o := by rfl) (hop : o.op = .load t x := by rfl) (hx : evalS st x = some (.pointer (some ⟨b, 0 + j, none⟩)) := by rfl) (hdst : o.dst = some d := by rfl) (hl : Nat.blt d c.n = true := by rfl) (hw : wantedS ops st o = some true := by rfl) (htk : takeOk ops rem i (depOf ops rem i) = true := by decide +kernel) (hnd : rem.Nodup := by decide) : Any 𝒥 c (fun _ => H) ops k (n + 1) rem R H st :=
 Any.tk i ho pp (fun _ _ _ hS => Ox.load1 hop hx ht ((CellsAt.box (hS _ hm)).one hj) (by rw [hdst]; exact hl) (.one hdst) ⟨rfl, rfl, rfl⟩) h hdst hw htk hnd
theorem tN (i : Nat) (vs : List Value) (j m : Nat) {ops : Array Oper} {n d : Nat} {rem : List Nat} {x : Operand} {t e : TypeId} {b : Nat} {fz : Nat × Nat} {L : List Value} {q : Nat} (ht : AggTy P t q) (hm : (b, Obj.cells L.toArray e fz) ∈ H) (h : Any 𝒥 c (fun _ => H) ops k n (rem.erase i) R H ((d, .agg vs.toArray) :: st)) (hv : (L.drop j).take m = vs := by rfl)
  (ho : ops[i]? = some o := by rfl) (hop : o.op = .load t x := by rfl) (hx : evalS st x = some (.pointer (some ⟨b, 0 + j, none⟩)) := by rfl) (hq : vs.length = q := by rfl) (hdst : o.dst = some d := by rfl) (hl : Nat.blt d c.n = true := by rfl) (hw : wantedS ops st o = some true := by rfl) (htk : takeOk ops rem i (depOf ops rem i) = true := by decide +kernel) (hnd : rem.Nodup := by decide) : Any 𝒥 c (fun _ => H) ops k (n + 1) rem R H st :=
 Any.tk i ho pp (fun _ _ _ hS => Ox.loadN hop hx ht hq ((CellsAt.box (hS _ hm)).part hv) (by rw [hdst]; exact hl) (.one hdst) ⟨rfl, rfl, rfl⟩) h hdst hw htk hnd
theorem tw (i j : Nat) {S : Nat → HList} {ops : Array Oper} {n : Nat} {rem : List Nat} {a b : Oper} (h1 : OpTo 𝒥 c a R H st fun R' H' st' => RLe R R' ∧ (∀ p ∈ S i, p ∈ H → p ∈ H') ∧ Any 𝒥 c S ops k n (rem.erase i) R' H' st')
  (h2 : OpTo 𝒥 c b R H st fun R' H' st' => RLe R R' ∧ (∀ p ∈ S j, p ∈ H → p ∈ H') ∧ Any 𝒥 c S ops k n (rem.erase j) R' H' st') (ha : ops[i]? = some a := by rfl) (hb : ops[j]? = some b := by rfl) (hrd : rem.filter (readyR ops rem) = [i, j] := by decide +kernel) (hwa : wantedS ops st a = some true := by rfl) (hwb : wantedS ops st b = some true := by rfl) (hnd : rem.Nodup := by decide) : Any 𝒥 c S ops k (n + 1) rem R H st :=
 Any.two' ha hb hrd hwa hwb hnd rfl rfl h1 h2
theorem ka {H X : HList} : ∀ p ∈ H, p ∈ X → p ∈ H := fun _ h _ => h
theorem kp {R : RMap} {H X : HList} {C : Prop} (h : C) : RLe R R ∧ (∀ p ∈ H, p ∈ X → p ∈ H) ∧ C := ⟨RLe.refl _, ka, h⟩
theorem ku {H H' X : HList} (h : List.Sublist H H') : ∀ p ∈ H, p ∈ X → p ∈ H' := fun _ hp _ => h.subset hp
theorem rr {R : RMap} : RLe R R := RLe.refl _
end
abbrev CZ : CRel Int := CI .i64
end Go.Lg
