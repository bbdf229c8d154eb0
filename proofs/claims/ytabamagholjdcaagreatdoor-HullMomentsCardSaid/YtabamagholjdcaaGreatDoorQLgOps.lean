/- The logic, on: a goroutine's judgement ('Jd': closed under one step of its own, shown for every world that fits), the state of a frame ('At': which slots hold what), the moves of control, an operation, a call by its contract, a return. Conditions: none; over any program. -/
import Derived.Test.YtabamagholjdcaaGreatDoorQLgBase
namespace Go.Lg
open Go.Conc
structure Jd (P : Program) (B : Base) (main : Bool) where
 J : RMap → HList → Goroutine → Prop
 step : ∀ {R H g}, g.status = .running → (∀ w, Fits B R H w → ∃ g' w' es R' H', stepG P main g w = .go g' w' es ∧ (∀ e ∈ es, EvOk R H w.heap.size w'.heap.size e) ∧ Upd B R H w R' H' w' ∧ J R' H' g') → J R H g
 ghost : ∀ {R H R' H' g}, (∀ w, Fits B R H w → Upd B R H w R' H' w) → J R' H' g → J R H g
abbrev St := List (Nat × Value)
structure Ctx where
 fn : FuncId
 kind : CallKind
 ro : Option Nat
 n : Nat
 defers : List Deferred
 cs : List Frame
def gor (fr : Frame) (cs : List Frame) : Goroutine := { frame := fr, callers := cs, status := .running, dying := none }
def frm (c : Ctx) (tmps : Array Value) (todo : List Item) : Frame := { fn := c.fn, tmps, todo, defers := c.defers, mode := .run, kind := c.kind, roundOf := c.ro }
def Rep (n : Nat) (st : St) (tmps : Array Value) : Prop := tmps.size = n ∧ ∀ t v, st.lookup t = some v → tmps[t]? = some v
def SubT (st : St) : St → Prop
 | [] => True
 | p :: r => st.lookup p.1 = some p.2 ∧ SubT st r
def SubL (st st' : St) : Prop := ∀ t v, st'.lookup t = some v → st.lookup t = some v
theorem SubT.sub {st : St} : ∀ {st' : St}, SubT st st' → SubL st st'
 | [], _, _, _, h => by cases h
 | p :: r, hs, t, v, h => by
  rw [List.lookup_cons] at h
  split at h
  ·rename_i heq
   cases h
   have : t = p.1 := by simpa using heq
   subst this
   exact hs.1
  ·exact SubT.sub hs.2 t v h
theorem SubL.refl (st : St) : SubL st st := fun _ _ h => h
theorem Rep.sub {n : Nat} {st st' : St} {tmps : Array Value} (h : Rep n st tmps) (hs : SubL st st') : Rep n st' tmps := ⟨h.1, fun t v x => h.2 t v (hs t v x)⟩
def putS (dst : Option Tmp) (v : Value) (st : St) : St := match dst with | some d => (d, v) :: st | none => st
theorem SubL.put {dst : Option Tmp} {d : Tmp} {v : Value} {st : St} (h : dst = some d) : SubL (putS dst v st) ((d, v) :: st) := by subst h; exact SubL.refl _
def putT (dst : Option Tmp) (v : Value) (tmps : Array Value) : Array Value := match dst with | some d => tmps.setIfInBounds d v | none => tmps
def dstB (dst : Option Tmp) (n : Nat) : Bool := match dst with | some d => Nat.blt d n | none => true
def dstLt (dst : Option Tmp) (n : Nat) : Prop := dstB dst n = true
theorem dstLt.lt {d n : Nat} (h : dstLt (some d) n) : d < n := by
 have : Nat.blt d n = true := h
 simpa [Nat.blt_eq] using this
theorem Rep.put {n : Nat} {st : St} {tmps : Array Value} (h : Rep n st tmps) {dst : Option Tmp} (v : Value) (hd : dstLt dst n) : Rep n (putS dst v st) (putT dst v tmps) := by
 cases dst with
 | none => exact h
 | some d =>
  refine ⟨by simp [putT, h.1], fun t u hu => ?_⟩
  have hd' : d < tmps.size := by rw [h.1]; exact hd.lt
  simp only [putS, List.lookup_cons] at hu
  split at hu
  ·rename_i heq
   cases hu
   have : t = d := by simpa using heq
   subst this
   simp [putT, hd']
  ·rename_i heq
   have hne : t ≠ d := by simpa using heq
   simp only [putT]
   rw [Array.getElem?_setIfInBounds_ne (Ne.symm hne)]
   exact h.2 t u hu
def evalS (st : St) : Operand → Option Value
 | .tmp t => st.lookup t
 | .const v => some v
 | .global g => some (.pointer (some ⟨g, 0, none⟩))
 | .func f => some (.func (.func f) #[] #[])
def Knows (st : St) (ρ : Operand → Value) : Prop := ∀ x v, evalS st x = some v → ρ x = v
theorem Rep.knows {n : Nat} {st : St} {tmps : Array Value} (h : Rep n st tmps) (c : Ctx) (todo : List Item) : Knows st (frm c tmps todo).eval := by
 intro x v hx
 cases x with
 | tmp t =>
  have := h.2 t v hx
  simp [frm, Frame.eval, Array.getD_eq_getD_getElem?, this]
 | const u => cases hx; rfl
 | global g => cases hx; rfl
 | func f => cases hx; rfl
section
variable {P : Program} {B : Base} {main : Bool} (𝒥 : Jd P B main)
def At (c : Ctx) (R : RMap) (H : HList) (st : St) (todo : List Item) : Prop := ∀ tmps, Rep c.n st tmps → 𝒥.J R H (gor (frm c tmps todo) c.cs)
variable {𝒥} {c : Ctx} {R : RMap} {H : HList} {st : St} {k : List Item}
theorem At.sub {st' : St} {todo : List Item} (hs : SubL st st') (h : At 𝒥 c R H st' todo) : At 𝒥 c R H st todo := fun tmps ht => h tmps (ht.sub hs)
theorem At.ghost {R' : RMap} {H' : HList} {todo : List Item} (hg : ∀ w, Fits B R H w → Upd B R H w R' H' w) (h : At 𝒥 c R' H' st todo) : At 𝒥 c R H st todo := fun tmps ht => 𝒥.ghost hg (h tmps ht)
theorem Jd.ctl {R : RMap} {H : HList} {g g' : Goroutine} (hs : g.status = .running) (h : ∀ w, stepG P main g w = .go g' w) (hj : 𝒥.J R H g') : 𝒥.J R H g :=
 𝒥.step hs fun w hw => ⟨g', w, #[], R, H, h w, by simp, Upd.refl hw, hj⟩
theorem At.skip (h : At 𝒥 c R H st k) : At 𝒥 c R H st (.code .skip :: k) := fun tmps ht => Jd.ctl rfl (fun w => by simp [stepG, stepG.exec, gor, frm]) (h tmps ht)
theorem At.label {l : Nat} (h : At 𝒥 c R H st k) : At 𝒥 c R H st (.code (.label l) :: k) := fun tmps ht => Jd.ctl rfl (fun w => by simp [stepG, stepG.exec, gor, frm]) (h tmps ht)
theorem At.inBlock {id : Nat} (h : At 𝒥 c R H st k) : At 𝒥 c R H st (.inBlock id :: k) := fun tmps ht => Jd.ctl rfl (fun w => by simp [stepG, stepG.exec, gor, frm]) (h tmps ht)
theorem At.seq {x y : Code} (h : At 𝒥 c R H st (.code x :: .code y :: k)) : At 𝒥 c R H st (.code (.seq x y) :: k) := fun tmps ht => Jd.ctl rfl (fun w => by simp [stepG, stepG.exec, gor, frm]) (h tmps ht)
theorem At.block {id : Nat} {x : Code} (h : At 𝒥 c R H st (.code x :: .inBlock id :: k)) : At 𝒥 c R H st (.code (.block id x) :: k) := fun tmps ht => Jd.ctl rfl (fun w => by simp [stepG, stepG.exec, gor, frm]) (h tmps ht)
theorem At.scope {x : Code} (h : At 𝒥 c R H st (.code x :: .inScope x :: k)) : At 𝒥 c R H st (.code (.scope x) :: k) := fun tmps ht => Jd.ctl rfl (fun w => by simp [stepG, stepG.exec, gor, frm]) (h tmps ht)
theorem At.enterLoop {x : Code} (h : At 𝒥 c R H st (.code x :: .inLoop x :: k)) : At 𝒥 c R H st (.code (.loop x) :: k) := fun tmps ht => Jd.ctl rfl (fun w => by simp [stepG, stepG.exec, gor, frm]) (h tmps ht)
theorem At.inLoop {x : Code} (h : At 𝒥 c R H st (.code x :: .inLoop x :: k)) : At 𝒥 c R H st (.inLoop x :: k) := fun tmps ht => Jd.ctl rfl (fun w => by simp [stepG, stepG.exec, gor, frm]) (h tmps ht)
theorem At.exit {id : Nat} {k' : List Item} (he : exitTo id k = some k') (h : At 𝒥 c R H st k') : At 𝒥 c R H st (.code (.exit id) :: k) := fun tmps ht => Jd.ctl rfl (fun w => by simp [stepG, stepG.exec, gor, frm, he]) (h tmps ht)
theorem At.region {id : Nat} {ops : Array Oper} (h : At 𝒥 c R H st (.inRegion ops (List.range ops.size) :: k)) : At 𝒥 c R H st (.code (.region id ops false) :: k) := fun tmps ht => Jd.ctl rfl (fun w => by simp [stepG, stepG.exec, gor, frm]) (h tmps ht)
theorem At.endRegion {ops : Array Oper} (h : At 𝒥 c R H st k) : At 𝒥 c R H st (.inRegion ops [] :: k) := fun tmps ht => Jd.ctl rfl (fun w => by simp [stepG, stepG.exec, gor, frm]) (h tmps ht)
theorem At.cond {x : Operand} {th el : Code} {t : Bool} (hx : evalS st x = some (.bool t)) (h1 : t = true → At 𝒥 c R H st (.code th :: k)) (h2 : t = false → At 𝒥 c R H st (.code el :: k)) : At 𝒥 c R H st (.code (.cond x th el) :: k) := by
 intro tmps ht
 have he := ht.knows c (.code (.cond x th el) :: k) x _ hx
 cases t with
 | true => exact Jd.ctl rfl (fun w => by simp only [frm] at he; simp [stepG, stepG.exec, gor, frm, he]) (h1 rfl tmps ht)
 | false => exact Jd.ctl rfl (fun w => by simp only [frm] at he; simp [stepG, stepG.exec, gor, frm, he]) (h2 rfl tmps ht)
theorem At.cond_true {x : Operand} {th el : Code} (hx : evalS st x = some (.bool true)) (h : At 𝒥 c R H st (.code th :: k)) : At 𝒥 c R H st (.code (.cond x th el) :: k) := At.cond hx (fun _ => h) (fun e => by cases e)
theorem At.cond_false {x : Operand} {th el : Code} (hx : evalS st x = some (.bool false)) (h : At 𝒥 c R H st (.code el :: k)) : At 𝒥 c R H st (.code (.cond x th el) :: k) := At.cond hx (fun e => by cases e) (fun _ => h)
def isDefer : Op → Bool
 | .defer _ => true
 | _ => false
theorem stepG_oper' {tmps : Array Value} {ops : Array Oper} {i : Nat} {rest : List Nat} {o : Oper} {w : World} (ho : ops[i]? = some o) (hw : Region.wanted o (yielded ops tmps) = true) (hd : isDefer o.op = false) :
  stepG P main (gor (frm c tmps (.inRegion ops (i :: rest) :: k)) c.cs) w = stepG.apply P true (frm c tmps (.inRegion ops (i :: rest) :: k)) c.cs none (execOp (frm c tmps (.inRegion ops (i :: rest) :: k)).eval o) w := by
 cases hr : c.ro with
 | none => simp [gor, stepG, stepG.exec, stepG.oper, Frame.oper?, frm, ho, hw, hr]
 | some l =>
  simp only [gor, stepG, stepG.exec, stepG.oper, Frame.oper?, frm, ho, hw, hr, Option.map_some, Option.getD_some, if_true]
  split
  ·rename_i h1 h2; rw [h2] at hd; cases hd
  ·rfl
theorem stepG_unwanted' {tmps : Array Value} {ops : Array Oper} {i : Nat} {rest : List Nat} {o : Oper} {w : World} (ho : ops[i]? = some o) (hw : Region.wanted o (yielded ops tmps) = false) :
  stepG P main (gor (frm c tmps (.inRegion ops (i :: rest) :: k)) c.cs) w = .go (gor (frm c (putT o.dst undef tmps) (.inRegion ops rest :: k)) c.cs) w := by
 simp only [gor, stepG, stepG.exec, frm, ho, hw, Option.map_some, Option.getD_some, Frame.finish, Option.bind_some, putT]
 cases o.dst <;> rfl
theorem finish_frm {tmps : Array Value} {ops : Array Oper} {i : Nat} {rest : List Nat} {o : Oper} {v : Value} (ho : ops[i]? = some o) :
  (frm c tmps (.inRegion ops (i :: rest) :: k)).finish v = frm c (putT o.dst v tmps) (.inRegion ops rest :: k) := by
 simp only [Frame.finish, frm, ho, Option.bind_some, putT]
 cases o.dst <;> rfl
def wantedS (ops : Array Oper) (st : St) (o : Oper) : Option Bool :=
 match o.guard with
 | none => some true
 | some (j, want) => match ((ops[j]?).bind (·.dst)).bind (st.lookup ·) with
  | some (.bool b) => some (b == want)
  | some (.tuple _) => some false
  | _ => none
theorem wanted_of {n : Nat} {ops : Array Oper} {tmps : Array Value} {o : Oper} {b : Bool} (ht : Rep n st tmps) (h : wantedS ops st o = some b) : Region.wanted o (yielded ops tmps) = b := by
 unfold wantedS at h
 unfold Region.wanted
 split at h
 ·rename_i hg; simp only [hg]; exact Option.some.inj h
 ·rename_i j want hg
  simp only [hg, yielded]
  cases hd : (ops[j]?).bind (·.dst) with
  | none => simp [hd] at h
  | some d =>
   simp only [hd, Option.bind_some] at h ⊢
   cases hl : st.lookup d with
   | none => simp [hl] at h
   | some v =>
    rw [hl] at h
    rw [ht.2 d v hl]
    cases v <;> simp at h ⊢ <;> first | (rw [← h]; done) | exact h.symm | (subst h; rfl)
theorem apply_value {fr : Frame} {cs : List Frame} {s : Sem Next} {w w' : World} {v : Value} (hk : fr.kind ≠ .early) (hr : s.run P w = .ok (.value v) w') :
  stepG.apply P true fr cs none s w = .go (gor (fr.finish v) cs) w' (seen P fr.fn (s.events P w #[])) := by
 have hk' : (fr.kind == CallKind.early) = false := by simpa using hk
 simp [stepG.apply, hr, gor, hk', GStep.after]
theorem apply_skip {fr : Frame} {cs : List Frame} {s : Sem Next} {w w' : World} (hk : fr.kind ≠ .early) (hr : s.run P w = .ok .skip w') :
  stepG.apply P true fr cs none s w = .go (gor (fr.finish undef) cs) w' (seen P fr.fn (s.events P w #[])) := by
 have hk' : (fr.kind == CallKind.early) = false := by simpa using hk
 simp [stepG.apply, hr, gor, hk', GStep.after]
theorem apply_enter {fr : Frame} {cs : List Frame} {s : Sem Next} {w w' : World} {f : FuncId} {args : Array Value} {ops : Array Oper} {is : List Nat} {k : List Item} (ht : fr.todo = .inRegion ops is :: k) (hk : fr.kind ≠ .early) (hr : s.run P w = .ok (.enter f args) w') :
  stepG.apply P true fr cs none s w = .go (gor (Frame.enter P f args .normal) (fr :: cs)) w' (seen P fr.fn (s.events P w #[])) := by
 have hk' : (fr.kind == CallKind.early) = false := by simpa using hk
 simp [stepG.apply, hr, gor, hk', GStep.after, ht]
theorem At.op {ops : Array Oper} {i : Nat} {rest : List Nat} {o : Oper} (ho : ops[i]? = some o) (hw : wantedS ops st o = some true) (hd : isDefer o.op = false) (hk : c.kind ≠ .early)
  (h : ∀ ρ, Knows st ρ → SemOk P B R H (execOp ρ o) fun nx R' H' => ∃ v, (nx = .value v ∨ (nx = .skip ∧ v = undef)) ∧ dstLt o.dst c.n ∧ ∃ st', SubL (putS o.dst v st) st' ∧ At 𝒥 c R' H' st' (.inRegion ops rest :: k)) :
  At 𝒥 c R H st (.inRegion ops (i :: rest) :: k) := by
 intro tmps ht
 refine 𝒥.step rfl fun w hwf => ?_
 obtain ⟨nx, w', R', H', h1, h2, h3, v, hv, hdl, st', hs, hat⟩ := h _ (ht.knows c _) w hwf
 refine ⟨gor (frm c (putT o.dst v tmps) (.inRegion ops rest :: k)) c.cs, w', seen P c.fn ((execOp (frm c tmps (.inRegion ops (i :: rest) :: k)).eval o).events P w #[]), R', H', ?_, fun e he => h2 e (mem_seen he), h3, hat _ ((ht.put v hdl).sub hs)⟩
 rw [stepG_oper' ho (wanted_of ht hw) hd, ← finish_frm (rest := rest) (k := k) (c := c) (tmps := tmps) (v := v) ho]
 rcases hv with rfl | ⟨rfl, rfl⟩
 ·exact apply_value hk h1
 ·exact apply_skip hk h1
theorem At.unwanted {ops : Array Oper} {i : Nat} {rest : List Nat} {o : Oper} {st' : St} (ho : ops[i]? = some o) (hw : wantedS ops st o = some false) (hdl : dstLt o.dst c.n) (hs : SubL (putS o.dst undef st) st')
  (h : At 𝒥 c R H st' (.inRegion ops rest :: k)) : At 𝒥 c R H st (.inRegion ops (i :: rest) :: k) :=
 fun _ ht => Jd.ctl rfl (fun _ => stepG_unwanted' ho (wanted_of ht hw)) (h _ ((ht.put undef hdl).sub hs))
def FnOk (𝒥 : Jd P B main) (f : FuncId) (args : Array Value) (R : RMap) (H : HList) (Post : Value → RMap → HList → Prop) : Prop :=
 ∀ fr cs, (∀ v R' H', Post v R' H' → 𝒥.J R' H' (gor (fr.finish v) cs)) → 𝒥.J R H (gor (Frame.enter P f args .normal) (fr :: cs))
theorem FnOk.mono {f : FuncId} {args : Array Value} {Post Post' : Value → RMap → HList → Prop} (h : FnOk 𝒥 f args R H Post) (hp : ∀ v R' H', Post v R' H' → Post' v R' H') : FnOk 𝒥 f args R H Post' :=
 fun fr cs hk => h fr cs fun v R' H' hv => hk v R' H' (hp v R' H' hv)
theorem At.enters {ops : Array Oper} {i : Nat} {rest : List Nat} {o : Oper} {f : FuncId} {args : Array Value} {Post : Value → RMap → HList → Prop} (ho : ops[i]? = some o) (hw : wantedS ops st o = some true) (hd : isDefer o.op = false) (hk : c.kind ≠ .early) (hdl : dstLt o.dst c.n)
  (he : ∀ ρ, Knows st ρ → Val P (execOp ρ o) (.enter f args)) (hf : FnOk 𝒥 f args R H Post)
  (h : ∀ v R' H', Post v R' H' → ∃ st', SubL (putS o.dst v st) st' ∧ At 𝒥 c R' H' st' (.inRegion ops rest :: k)) :
  At 𝒥 c R H st (.inRegion ops (i :: rest) :: k) := by
 intro tmps ht
 refine 𝒥.step rfl fun w hwf => ?_
 have hv := he _ (ht.knows c (.inRegion ops (i :: rest) :: k)) w
 refine ⟨gor (Frame.enter P f args .normal) (frm c tmps (.inRegion ops (i :: rest) :: k) :: c.cs), w, seen P c.fn ((execOp (frm c tmps (.inRegion ops (i :: rest) :: k)).eval o).events P w #[]), R, H, ?_, ?_, Upd.refl hwf, hf _ _ fun v R' H' hp => ?_⟩
 ·rw [stepG_oper' ho (wanted_of ht hw) hd]
  exact apply_enter rfl hk hv.1
 ·intro e hee
  have := mem_seen hee
  rw [hv.2] at this
  simp at this
 ·obtain ⟨st', hs, hat⟩ := h v R' H' hp
  rw [finish_frm ho]
  exact hat _ ((ht.put v hdl).sub hs)
def OpTo (𝒥 : Jd P B main) (c : Ctx) (o : Oper) (R : RMap) (H : HList) (st : St) (C : RMap → HList → St → Prop) : Prop :=
 isDefer o.op = false ∧ dstLt o.dst c.n ∧
  ((∀ ρ, Knows st ρ → SemOk P B R H (execOp ρ o) fun nx R' H' => ∃ v, (nx = .value v ∨ (nx = .skip ∧ v = undef)) ∧ ∃ st', SubL (putS o.dst v st) st' ∧ C R' H' st') ∨
   (∃ f args, (∀ ρ, Knows st ρ → Val P (execOp ρ o) (.enter f args)) ∧ FnOk 𝒥 f args R H fun v R' H' => ∃ st', SubL (putS o.dst v st) st' ∧ C R' H' st'))
def SemTo (P : Program) (B : Base) (c : Ctx) (o : Oper) (R : RMap) (H : HList) (st : St) (C : RMap → HList → St → Prop) : Prop :=
 isDefer o.op = false ∧ dstLt o.dst c.n ∧ ∀ ρ, Knows st ρ → SemOk P B R H (execOp ρ o) fun nx R' H' => ∃ v, (nx = .value v ∨ (nx = .skip ∧ v = undef)) ∧ ∃ st', SubL (putS o.dst v st) st' ∧ C R' H' st'
theorem SemTo.to {o : Oper} {C : RMap → HList → St → Prop} (h : SemTo P B c o R H st C) : OpTo 𝒥 c o R H st C := ⟨h.1, h.2.1, .inl h.2.2⟩
theorem At.step {ops : Array Oper} {i : Nat} {rest : List Nat} {o : Oper} (ho : ops[i]? = some o) (hw : wantedS ops st o = some true) (hk : (c.kind == CallKind.early) = false)
  (h : OpTo 𝒥 c o R H st fun R' H' st' => At 𝒥 c R' H' st' (.inRegion ops rest :: k)) : At 𝒥 c R H st (.inRegion ops (i :: rest) :: k) := by
 obtain ⟨hd, hdl, h | ⟨f, args, h1, h2⟩⟩ := h
 ·exact At.op ho hw hd (by simpa using hk) fun ρ hρ => (h ρ hρ).mono fun nx R' H' ⟨v, hv, hx⟩ => ⟨v, hv, hdl, hx⟩
 ·exact At.enters ho hw hd (by simpa using hk) hdl h1 h2 fun v R' H' hx => hx
theorem At.stepS {ops : Array Oper} {i : Nat} {rest : List Nat} {o : Oper} (ho : ops[i]? = some o) (hw : wantedS ops st o = some true) (hk : (c.kind == CallKind.early) = false)
  (h : SemTo P B c o R H st fun R' H' st' => At 𝒥 c R' H' st' (.inRegion ops rest :: k)) : At 𝒥 c R H st (.inRegion ops (i :: rest) :: k) := At.step ho hw hk h.to
theorem At.regionIs {id n : Nat} {is : List Nat} {ops : Array Oper} (hn : ops.size = n) (his : List.range n = is) (h : At 𝒥 c R H st (.inRegion ops is :: k)) : At 𝒥 c R H st (.code (.region id ops false) :: k) := by
 subst hn; subst his; exact At.region h
def argSt : Nat → List Value → St
 | _, [] => []
 | i, v :: r => (i, v) :: argSt (i + 1) r
theorem argSt_look : ∀ (args : List Value) (i t : Nat) (v : Value), (argSt i args).lookup t = some v → i ≤ t ∧ args[t - i]? = some v
 | [], _, _, _, h => by cases h
 | a :: r, i, t, v, h => by
  simp only [argSt, List.lookup_cons] at h
  split at h
  ·rename_i heq
   cases h
   have : t = i := by simpa using heq
   subst this
   simp
  ·rename_i heq
   have hne : t ≠ i := by simpa using heq
   obtain ⟨h1, h2⟩ := argSt_look r (i + 1) t v h
   refine ⟨by omega, ?_⟩
   have : t - i = (t - (i + 1)) + 1 := by omega
   rw [this]
   simpa using h2
theorem FnOk.of_at {f : FuncId} {fn : Func} {body : Code} {args : List Value} {n : Nat} {Post : Value → RMap → HList → Prop} (hf : P.funcs[f]? = some fn) (hb : fn.body = some body) (hnt : fn.ntmps = n) (hn : Nat.ble args.length n = true)
  (h : ∀ fr cs, (∀ v R' H', Post v R' H' → 𝒥.J R' H' (gor (fr.finish v) cs)) → At 𝒥 ⟨f, .normal, none, n, [], fr :: cs⟩ R H (argSt 0 args) [.code body]) : FnOk 𝒥 f args.toArray R H Post := by
 subst hnt
 intro fr cs hk
 have hn : args.length ≤ fn.ntmps := by simpa [Nat.ble_eq] using hn
 have := h fr cs hk (args.toArray ++ Array.replicate (fn.ntmps - args.length) undef) ⟨by simp; omega, fun t v ht => ?_⟩
 ·have e : Frame.enter P f args.toArray .normal = frm ⟨f, .normal, none, fn.ntmps, [], fr :: cs⟩ (args.toArray ++ Array.replicate (fn.ntmps - args.length) undef) [.code body] := by
   simp [Frame.enter, frm, hf, hb]
  rw [e]
  exact this
 ·obtain ⟨_, h2⟩ := argSt_look args 0 t v ht
  have hlt : t < args.length := by
   have := (List.getElem?_eq_some_iff.1 h2).1
   simpa using this
  rw [Array.getElem?_append_left (by simpa using hlt)]
  simpa using h2
def resS (st : St) : List ResultVar → Option (List Value)
 | [] => some []
 | .tmp t :: r => match st.lookup t, resS st r with
  | some v, some vs => some (v :: vs)
  | _, _ => none
 | .cell _ _ :: _ => none
def resV : List Value → Value
 | [v] => v
 | vs => .tuple vs.toArray
theorem val_mapM {st : St} {tmps : Array Value} {n : Nat} (ht : Rep n st tmps) : ∀ (l : List ResultVar) (vs : List Value), resS st l = some vs →
  Val P (l.mapM (m := Sem) fun
   | .tmp t => pure (tmps.getD t undef)
   | .cell a t => do loadVar t (← asAddr (tmps.getD a undef))) vs
 | [], vs, h => by cases h; exact Val.pure _
 | .tmp t :: r, vs, h => by
  simp only [resS] at h
  cases hl : st.lookup t with
  | none => simp [hl] at h
  | some v =>
   cases hr : resS st r with
   | none => simp [hl, hr] at h
   | some us =>
    simp only [hl, hr, Option.some.injEq] at h
    subst h
    rw [List.mapM_cons]
    refine Val.bind (a := v) ?_ (Val.bind (val_mapM ht r us hr) (Val.pure _))
    have : tmps.getD t undef = v := by simp [Array.getD_eq_getD_getElem?, ht.2 t v hl]
    show Val P (pure (tmps.getD t undef)) v
    rw [this]; exact Val.pure _
 | .cell _ _ :: _, _, h => by cases h
theorem val_results {fn : Func} {st : St} {tmps : Array Value} {n : Nat} {vs : List Value} (ht : Rep n st tmps) (h : resS st fn.results.toList = some vs) : Val P (results fn tmps) (resV vs) := by
 unfold results
 rw [← Array.toArray_toList (xs := fn.results), List.mapM_toArray]
 refine Val.bind (Val.map (val_mapM ht _ _ h)) ?_
 cases vs with
 | nil => exact Val.pure _
 | cons v r => cases r with
  | nil => exact Val.pure _
  | cons _ _ => exact Val.pure _
end
end Go.Lg
