/- The logic, on: range over a function: what a loop's body hands to the function, rounds, the loop's end, a return past what the rounds may have deferred. Conditions: none; over any program. -/
import Derived.Test.YtabamagholjdcaaGreatDoorQLgOwn
namespace Go.Lg
open Go.Conc
section
variable {P : Program} {B : Base} {main : Bool} {𝒥 : Jd P B main} {c : Ctx} {R : RMap} {H : HList} {st : St} {k : List Item}
theorem SemOk.getLoop {l : Nat} {r : Loop} {K : Loop → RMap → HList → Prop} (h : (l, Obj.loop r) ∈ H) (hk : K r R H) : SemOk P B R H (Instr.getLoop l) K := by
 unfold Instr.getLoop
 exact SemOk.bind (SemOk.getObj rfl (.inr h) (SemOk.pure hk))
theorem HSet.at_ {b : Nat} {o o' : Obj} {T : HList} : ∀ {Hs : HList}, HSet (Hs ++ (b, o) :: T) b o o' (Hs ++ (b, o') :: T)
 | [] => .here
 | _ :: _ => .there HSet.at_
def YOk (𝒥 : Jd P B main) (v : Value) (args : Array Value) (R : RMap) (H : HList) (Post : Value → RMap → HList → Prop) : Prop :=
 ∃ l r, v = .func (.yield l) #[] #[] ∧ (l, Obj.loop r) ∈ H ∧ r.params.size = args.size ∧
  ∀ fr cs, (∀ w R' H', Post w R' H' → 𝒥.J R' H' (gor (fr.finish w) cs)) →
   𝒥.J R H (gor (Frame.round l r.fn ((r.params.zip args).foldl (fun tmps (t, a) => tmps.setIfInBounds t a) r.tmps) r.assign r.body .normal) (fr :: cs))
theorem YOk.mono {v : Value} {args : Array Value} {Post Post' : Value → RMap → HList → Prop} (h : YOk 𝒥 v args R H Post) (hp : ∀ w R' H', Post w R' H' → Post' w R' H') : YOk 𝒥 v args R H Post' := by
 obtain ⟨l, r, h1, h2, h3, h4⟩ := h
 exact ⟨l, r, h1, h2, h3, fun fr cs hk => h4 fr cs fun w R' H' hw => hk w R' H' (hp _ _ _ hw)⟩
theorem apply_round {fr : Frame} {cs : List Frame} {s : Sem Next} {w w' : World} {l : Nat} {f : FuncId} {tmps : Array Value} {assign body : Code} (hk : fr.kind ≠ .early) (hr : s.run P w = .ok (.round l f tmps assign body) w') :
  stepG.apply P true fr cs none s w = .go (gor (Frame.round l f tmps assign body .normal) (fr :: cs)) w' (seen P fr.fn (s.events P w #[])) := by
 have hk' : (fr.kind == CallKind.early) = false := by simpa using hk
 simp [stepG.apply, hr, gor, hk', GStep.after]
theorem At.stepY {ops : Array Oper} {i : Nat} {rest : List Nat} {o : Oper} {ca : Call} {x : Operand} {v : Value} {vs : List Value} (ho : ops[i]? = some o) (hw : wantedS ops st o = some true) (hk : (c.kind == CallKind.early) = false)
  (hop : o.op = .call ca) (hc : ca.callee = .value x) (hx : evalS st x = some v) (ha : argsS st ca.args.toList = some vs) (hdl : dstLt o.dst c.n)
  (h : YOk 𝒥 v vs.toArray R H fun w R' H' => ∃ st', SubL (putS o.dst w st) st' ∧ At 𝒥 c R' H' st' (.inRegion ops rest :: k)) :
  At 𝒥 c R H st (.inRegion ops (i :: rest) :: k) := by
 intro tmps ht
 obtain ⟨l, r, rfl, hl, hsz, hj⟩ := h
 have hkn := ht.knows c (.inRegion ops (i :: rest) :: k)
 have hd : isDefer o.op = false := by rw [hop]; rfl
 have hs : SemOk P B R H (execOp (frm c tmps (.inRegion ops (i :: rest) :: k)).eval o) fun nx R' H' => nx = .round l r.fn ((r.params.zip vs.toArray).foldl (fun tmps (t, a) => tmps.setIfInBounds t a) r.tmps) r.assign r.body ∧ R' = R ∧ H' = H := by
  simp only [execOp, hop, resolve, hc, hkn x _ hx, Deferred.ofValue]
  have e : ca.args.map (frm c tmps (.inRegion ops (i :: rest) :: k)).eval = vs.toArray := by apply Array.ext'; simpa using argsS_eval hkn _ _ ha
  refine Val.bindOk (a := ⟨.fn (.yield l) #[], #[] ++ vs.toArray⟩) (by rw [e]; exact Val.pure _) ?_
  simp only [invoke, Instr.yield]
  refine SemOk.bind (SemOk.getLoop hl ?_)
  simp only [Array.empty_append, hsz, ne_eq, not_true_eq_false, if_false]
  exact SemOk.pure ⟨rfl, rfl, rfl⟩
 refine 𝒥.step rfl fun w hwf => ?_
 obtain ⟨nx, w', R', H', h1, h2, h3, rfl, rfl, rfl⟩ := hs w hwf
 refine ⟨_, w', seen P c.fn ((execOp (frm c tmps (.inRegion ops (i :: rest) :: k)).eval o).events P w #[]), R', H', ?_, fun e he => h2 e (mem_seen he), h3, hj (frm c tmps (.inRegion ops (i :: rest) :: k)) c.cs fun u R'' H'' hp => ?_⟩
 ·rw [stepG_oper' ho (wanted_of ht hw) hd]
  exact apply_round (by simpa [frm] using hk) h1
 ·obtain ⟨st', hs', hat⟩ := hp
  rw [finish_frm ho]
  exact hat _ ((ht.put u hdl).sub hs')
structure HandS (𝒥 : Jd P B main) (R : RMap) {α S : Type} (A : VRel α) (v : Value) (y : α → S → Option (S × Bool)) (Inv : S → RMap → HList → Prop) : Prop where
 fn : ∃ l, v = .func (.yield l) #[] #[]
 mono : ∀ {s : S} {R1 R2 : RMap} {Hy : HList}, RLe R R1 → RLe R1 R2 → Inv s R1 Hy → Inv s R2 Hy
 call : ∀ (Hf : HList) {R' : RMap} {Hy : HList} {s : S} {x : α} {va : Value} {z : S × Bool}, RLe R R' → Inv s R' Hy → A R' x va → y x s = some z →
  YOk 𝒥 v #[va] R' (Hf ++ Hy) fun w R'' H'' => RLe R' R'' ∧ w = .bool z.2 ∧ ∃ Hy', Inv z.1 R'' Hy' ∧ H'' = Hf ++ Hy'
theorem HandS.up {R' : RMap} {α S : Type} {A : VRel α} {v : Value} {y : α → S → Option (S × Bool)} {Inv : S → RMap → HList → Prop} (h : HandS 𝒥 R A v y Inv) (hR : RLe R R') : HandS 𝒥 R' A v y Inv :=
 ⟨h.fn, fun h1 h2 => h.mono (hR.trans h1) h2, fun Hf => fun h1 => h.call Hf (hR.trans h1)⟩
theorem HandS.cells {α S : Type} {A : VRel α} {v : Value} {y : α → S → Option (S × Bool)} {Inv : S → RMap → HList → Prop} (h : HandS 𝒥 R A v y Inv) : v.cells = #[v] := by
 obtain ⟨l, rfl⟩ := h.fn; rfl
def runY {α S O : Type} (body : α → S → Option (S ⊕ O)) (x : α) : S ⊕ O → Option ((S ⊕ O) × Bool)
 | .inl s => (body x s).map fun z => (z, z.isLeft)
 | .inr _ => none
def Shape (I : RMap → HList → HList → Prop) : Prop := ∀ R T H, I R T H → ∃ Hs, H = Hs ++ T ∧ ∀ R' T', RLe R R' → I R' T' (Hs ++ T')
theorem semOk_endRound {l : Nat} {jump : Option Code} {r : Loop} {Hs T : HList} : SemOk P B R (Hs ++ (l, .loop r) :: T) (Instr.endRound l jump) fun v R' H' => v = .bool jump.isNone ∧ R' = R ∧ H' = Hs ++ (l, .loop { r with state := if jump.isNone then .ready else .done, pending := jump }) :: T := by
 unfold Instr.endRound
 exact SemOk.bind (SemOk.getLoop (by simp) (SemOk.bind (SemOk.setObj rfl rfl HSet.at_ (SemOk.pure ⟨rfl, rfl, rfl⟩))))
theorem semOk_endLoop {l : Nat} {r : Loop} {Hs T : HList} (hb : (r.state == .busy) = false) : SemOk P B R (Hs ++ (l, .loop r) :: T) (Instr.endLoop l) fun v R' H' => v = r.pending ∧ R' = R ∧ H' = Hs ++ (l, .loop { r with state := .exhausted }) :: T := by
 unfold Instr.endLoop
 refine SemOk.bind (SemOk.getLoop (r := r) (by simp) ?_)
 simp only [hb]
 exact SemOk.bind (SemOk.setObj rfl rfl HSet.at_ (SemOk.pure ⟨rfl, rfl, rfl⟩))
theorem semOk_beginRound {l : Nat} {r : Loop} {H' : HList} (hs : HSet H l (.loop r) (.loop { r with state := .busy }) H') (hr : r.state = .ready) : SemOk P B R H (do Instr.beginRound l; pure Next.skip) fun v R'' H'' => v = .skip ∧ R'' = R ∧ H'' = H' := by
 unfold Instr.beginRound
 refine SemOk.bind (SemOk.bind (SemOk.getLoop hs.mem (SemOk.bind (SemOk.setObj rfl rfl hs ?_))))
 simp only [hr]
 exact SemOk.pure (SemOk.pure ⟨rfl, rfl, rfl⟩)
theorem At.beginRound {l : Nat} {r : Loop} {H' : HList} (hro : c.ro = some l) (hk : (c.kind == CallKind.early) = false) (hs : HSet H l (.loop r) (.loop { r with state := .busy }) H') (hr : r.state = .ready) (h : At 𝒥 c R H' st k) : At 𝒥 c R H st (.beginRound :: k) := fun tmps ht => by
 refine 𝒥.step rfl fun w hw => ?_
 obtain ⟨v, w', R', H'', h1, h2, h3, rfl, rfl, rfl⟩ := semOk_beginRound (P := P) hs hr w hw
 refine ⟨gor (frm c tmps k) c.cs, w', seen P c.fn ((do Instr.beginRound l; pure Next.skip : Sem Next).events P w #[]), R', H'', ?_, fun e he => h2 e (mem_seen he), h3, h tmps ht⟩
 have e := apply_skip (P := P) (fr := frm c tmps (.beginRound :: k)) (cs := c.cs) (by simpa [frm] using hk) h1
 simpa [stepG, stepG.exec, gor, frm, hro, Frame.finish] using e
def Leaves (todo : List Item) (jump : Option Code) : Prop :=
 (todo = [] ∧ jump = none) ∨ (∃ k', todo = .code .ret :: k' ∧ jump = some .ret) ∨ (∃ id k', todo = .code (.exit id) :: k' ∧ exitTo id k' = none ∧ jump = some (.exit id))
theorem leave_round {l f : Nat} {n : Nat} {cs : List Frame} {fr : Frame} {tmps : Array Value} {todo : List Item} {jump : Option Code} {r : Loop} {Hs T : HList} (hl : Leaves todo jump)
  (h : 𝒥.J R (Hs ++ (l, .loop { r with state := if jump.isNone then .ready else .done, pending := jump }) :: T) (gor (fr.finish (.bool jump.isNone)) cs)) :
  𝒥.J R (Hs ++ (l, .loop r) :: T) (gor (frm ⟨f, .normal, some l, n, [], fr :: cs⟩ tmps todo) (fr :: cs)) := by
 refine 𝒥.step rfl fun w hw => ?_
 obtain ⟨v, w', R', H', h1, h2, h3, rfl, rfl, rfl⟩ := semOk_endRound (P := P) (jump := jump) w hw
 refine ⟨gor (fr.finish (.bool jump.isNone)) cs, w', seen P f ((Instr.endRound l jump).events P w #[]), R', _, ?_, fun e he => h2 e (mem_seen he), h3, h⟩
 rcases hl with ⟨rfl, rfl⟩ | ⟨k', rfl, rfl⟩ | ⟨id, k', rfl, hk', rfl⟩
 ·simp at h1; simp [stepG, stepG.exec, frm, h1, doReturn, GStep.after, gor]
 ·simp at h1; simp [stepG, stepG.exec, frm, h1, doReturn, GStep.after, gor]
 ·simp at h1; simp [stepG, stepG.exec, frm, h1, hk', doReturn, GStep.after, gor]
def loopObj (fn : FuncId) (tmps : Array Value) (t : Tmp) (assign body : Code) (d : Nat) : Loop := { state := .ready, pending := none, fn, tmps, params := #[t], assign, body, defers := d }
theorem perm_round {p : Nat × Obj} {Hf Hs D : HList} : List.Perm (Hs ++ p :: (Hf ++ D)) (Hf ++ (Hs ++ p :: D)) := by
 have h1 : List.Perm (Hs ++ p :: (Hf ++ D)) (p :: (Hs ++ (Hf ++ D))) := List.perm_middle
 have h2 : List.Perm (Hf ++ (Hs ++ p :: D)) (p :: (Hf ++ (Hs ++ D))) := by
  rw [← List.append_assoc, ← List.append_assoc]
  exact List.perm_middle
 refine h1.trans (List.Perm.trans (List.Perm.cons _ ?_) h2.symm)
 rw [← List.append_assoc, ← List.append_assoc]
 exact List.perm_append_comm.append_right D
section
variable {α S O : Type} {A : VRel α} {body : α → S → Option (S ⊕ O)} {t : Tmp} {assign bodyc : Code}
 (I : S → RMap → HList → HList → Prop) (E : O → RMap → HList → HList → Prop) (jc : O → Code)
def RInv (R : RMap) (l : Nat) (r : Loop) (D : HList) : S ⊕ O → RMap → HList → Prop
 | .inl s, R', Hy => RLe R R' ∧ I s R' ((l, .loop r) :: D) Hy
 | .inr o, R', Hy => RLe R R' ∧ E o R' ((l, .loop { r with state := .done, pending := some (jc o) }) :: D) Hy
def RBody (𝒥 : Jd P B main) (c : Ctx) (R : RMap) (H : HList) (st : St) (A : VRel α) (body : α → S → Option (S ⊕ O)) (t : Tmp) (assign bodyc : Code) : Prop :=
 ∀ (va : Value) (x : α) (s : S) (z : S ⊕ O) (R' : RMap) (T H' : HList) (l : Nat) (ld : Loop) (cs : List Frame), RLe R R' → List.Sublist H T → A R' x va → I s R' ((l, .loop ld) :: T) H' → ld.state = .ready → body x s = some z →
  (∀ s' R'' H'' st'', z = .inl s' → RLe R' R'' → I s' R'' ((l, .loop { ld with state := .busy }) :: T) H'' → At 𝒥 ⟨c.fn, .normal, some l, c.n, [], cs⟩ R'' H'' st'' []) →
  (∀ o R'' H'' st'' k'', z = .inr o → RLe R' R'' → E o R'' ((l, .loop { ld with state := .busy }) :: T) H'' → Leaves (.code (jc o) :: k'') (some (jc o)) → At 𝒥 ⟨c.fn, .normal, some l, c.n, [], cs⟩ R'' H'' st'' (.code (jc o) :: k'')) →
  At 𝒥 ⟨c.fn, .normal, some l, c.n, [], cs⟩ R' H' ((t, va) :: st) [.code assign, .beginRound, .code bodyc]
variable {I E jc}
theorem handS_round {D : HList} {l : Nat} {d : Nat} {tmps : Array Value} (hIs : ∀ s, Shape (I s)) (hEs : ∀ o, Shape (E o)) (ht : Rep c.n st tmps) (hd : Nat.blt t c.n = true) (hH : List.Sublist H D)
  (hb : RBody I E jc 𝒥 c R H st A body t assign bodyc) :
  HandS 𝒥 R A (.func (.yield l) #[] #[]) (runY body) (RInv I E jc R l (loopObj c.fn tmps t assign bodyc d) D) where
 fn := ⟨l, rfl⟩
 mono := by
  intro s R1 R2 Hy h1 h2 hI
  cases s with
  | inl s =>
   obtain ⟨hr, hI⟩ := hI
   obtain ⟨Hs, rfl, h⟩ := hIs s _ _ _ hI
   exact ⟨hr.trans h2, h _ _ h2⟩
  | inr o =>
   obtain ⟨hr, hI⟩ := hI
   obtain ⟨Hs, rfl, h⟩ := hEs o _ _ _ hI
   exact ⟨hr.trans h2, h _ _ h2⟩
 call := by
  intro Hf R' Hy s x va z hR hI hA hy
  cases s with
  | inr o => cases hy
  | inl s =>
   simp only [runY, Option.map_eq_some_iff] at hy
   obtain ⟨z', hz, rfl⟩ := hy
   obtain ⟨hr, hI⟩ := hI
   obtain ⟨Hs, rfl, hsh⟩ := hIs s _ _ _ hI
   refine ⟨l, loopObj c.fn tmps t assign bodyc d, rfl, by simp, rfl, fun fr cs hk => ?_⟩
   refine J.perm (H' := Hs ++ (l, .loop (loopObj c.fn tmps t assign bodyc d)) :: (Hf ++ D)) perm_round ?_
   have hrep : Rep c.n ((t, va) :: st) (((loopObj c.fn tmps t assign bodyc d).params.zip #[va]).foldl (fun tmps (t, a) => tmps.setIfInBounds t a) (loopObj c.fn tmps t assign bodyc d).tmps) := by
    have := ht.put (dst := some t) va hd
    simpa [loopObj, putS, putT] using this
   refine hb va x s z' R' (Hf ++ D) _ l (loopObj c.fn tmps t assign bodyc d) (fr :: cs) hR (hH.trans (List.sublist_append_right _ _)) hA (hsh R' _ (RLe.refl _)) rfl hz (fun s' R'' H'' st'' hz' hR'' hI'' => ?_) (fun o R'' H'' st'' k'' hz' hR'' hE'' hl => ?_) _ hrep
   ·subst hz'
    obtain ⟨Hs', rfl, hsh'⟩ := hIs s' _ _ _ hI''
    intro tmps' _
    refine leave_round (jump := none) (.inl ⟨rfl, rfl⟩) ?_
    refine J.perm perm_round.symm ?_
    exact hk _ _ _ ⟨hR'', rfl, _, ⟨hR.trans hR'', hsh' R'' _ (RLe.refl _)⟩, rfl⟩
   ·subst hz'
    obtain ⟨Hs', rfl, hsh'⟩ := hEs o _ _ _ hE''
    intro tmps' _
    refine leave_round (jump := some (jc o)) hl ?_
    refine J.perm perm_round.symm ?_
    exact hk _ _ _ ⟨hR'', rfl, _, ⟨hR.trans hR'', hsh' R'' _ (RLe.refl _)⟩, rfl⟩
theorem semOk_enterTop {fn : FuncId} {tmps : Array Value} {ps : Array Tmp} {assign bodyc : Code} : SemOk P B R H (Instr.enterLoop fn tmps ps assign bodyc none) fun q R' H' => R' = R ∧ ∃ r, q.2 = [⟨.collected r, #[]⟩] ∧ H' = (q.1, .loop ⟨.ready, none, fn, tmps, ps, assign, bodyc, r⟩) :: (r, .deferred (some [])) :: H := by
 unfold Instr.enterLoop
 refine SemOk.bind (SemOk.new fun r _ _ => SemOk.bind (SemOk.pure ?_))
 refine SemOk.bind (SemOk.new fun l _ _ => SemOk.pure ?_)
 exact ⟨rfl, r, rfl, rfl⟩
theorem semOk_enterIn {fn : FuncId} {tmps : Array Value} {ps : Array Tmp} {assign bodyc : Code} {l0 : Nat} {r0 : Loop} (h0 : (l0, Obj.loop r0) ∈ H) : SemOk P B R H (Instr.enterLoop fn tmps ps assign bodyc (some l0)) fun q R' H' => R' = R ∧ q.2 = [] ∧ H' = (q.1, .loop ⟨.ready, none, fn, tmps, ps, assign, bodyc, r0.defers⟩) :: H := by
 unfold Instr.enterLoop
 refine SemOk.bind (SemOk.getLoop h0 (SemOk.bind (SemOk.pure ?_)))
 refine SemOk.bind (SemOk.new fun l _ _ => SemOk.pure ?_)
 exact ⟨rfl, rfl, rfl⟩
theorem At.enterRange {x : Operand} {fid : FuncId} {first cap : Array Value} (hx : evalS st x = some (.func (.func fid) first cap)) (he : Enters P fid) (hk : (c.kind == CallKind.early) = false) {K : Nat × List Deferred → RMap → HList → Prop}
  (hent : ∀ tmps, SemOk P B R H (Instr.enterLoop c.fn tmps #[t] assign bodyc c.ro) fun q R' H' => R' = R ∧ ∃ d Hm, H' = (q.1, .loop (loopObj c.fn tmps t assign bodyc d)) :: Hm ∧ K q R Hm)
  (h : ∀ l mark d Hm tmps, Rep c.n st tmps → K (l, mark) R Hm → 𝒥.J R ((l, .loop (loopObj c.fn tmps t assign bodyc d)) :: Hm) (gor (Frame.enter P fid (first ++ #[.func (.yield l) #[] #[]] ++ cap) .normal) (frm ⟨c.fn, c.kind, c.ro, c.n, mark ++ c.defers, c.cs⟩ tmps (.inRangeFunc l :: k) :: c.cs))) :
  At 𝒥 c R H st (.code (.rangeFunc x #[t] assign bodyc) :: k) := by
 intro tmps ht
 refine 𝒥.step rfl fun w hw => ?_
 obtain ⟨⟨l, mark⟩, w', R', H', h1, h2, h3, rfl, d, Hm, rfl, hK⟩ := hent tmps w hw
 have hkn := ht.knows ⟨c.fn, c.kind, c.ro, c.n, mark ++ c.defers, c.cs⟩ (.inRangeFunc l :: k)
 have hv : Val P (do let d ← resolve (frm ⟨c.fn, c.kind, c.ro, c.n, mark ++ c.defers, c.cs⟩ tmps (.inRangeFunc l :: k)).eval { callee := .value x, args := #[.const (.func (.yield l) #[] #[])], argTypes := #[] } 0; invoke d.target d.args) (.enter fid (first ++ #[.func (.yield l) #[] #[]] ++ cap)) := by
  obtain ⟨fn, e1, e2, e3⟩ := he.ex
  simp only [resolve, hkn x _ hx, Deferred.ofValue]
  refine Val.bind (a := ⟨.fn (.func fid) cap, first ++ #[.func (.yield l) #[] #[]]⟩) (by simpa [Frame.eval] using Val.pure _) ?_
  simp only [invoke]
  exact val_callFunc e1 e2 e3
 have hj := h l mark d Hm tmps ht hK
 refine ⟨_, w', seen P c.fn ((Instr.enterLoop c.fn tmps #[t] assign bodyc c.ro).events P w #[]), R', _, ?_, fun e hee => h2 e (mem_seen hee), h3, hj⟩
 have hv' := hv w'
 simp only [frm] at hv'
 have hk' : (c.kind == CallKind.early) = false := hk
 simp [stepG, stepG.exec, stepG.apply, gor, frm, h1, hv'.1, hv'.2, GStep.after, hk', seen]
theorem At.endRange {l : Nat} {r : Loop} {Hs T : HList} {pend : Option Code} (hb : (r.state == .busy) = false) (hp : r.pending = pend) (h : At 𝒥 c R (Hs ++ T) st ((pend.map Item.code).toList ++ k)) : At 𝒥 c R (Hs ++ (l, .loop r) :: T) st (.endRangeFunc l :: k) := fun tmps ht => by
 subst hp
 refine 𝒥.step rfl fun w hw => ?_
 obtain ⟨v, w', R', H', h1, h2, h3, rfl, rfl, rfl⟩ := semOk_endLoop (P := P) hb w hw
 refine ⟨gor (frm c tmps ((r.pending.map Item.code).toList ++ k)) c.cs, w', seen P c.fn ((Instr.endLoop l).events P w #[]), R', _, ?_, fun e he => h2 e (mem_seen he), h3, J.drop ?_ (h tmps ht)⟩
 ·simp [stepG, stepG.exec, gor, frm, h1, GStep.after]
 ·exact (List.sublist_cons_self _ _).append_left _
theorem finish_range {tmps : Array Value} {l : Nat} {w : Value} : (frm c tmps (.inRangeFunc l :: k)).finish w = frm c tmps (.endRangeFunc l :: k) := rfl
theorem At.rangeF {ρ : Type} {mseq : (α → (S ⊕ O) → Option ((S ⊕ O) × Bool)) → (S ⊕ O) → Option (S ⊕ O)} {cont : S ⊕ O → Option ρ} {s0 : S} {rr : ρ} {x : Operand} {fid : FuncId} {first cap : Array Value} {H1 : HList}
  (hM : (mseq (runY body) (.inl s0)).bind cont = some rr) (hx : evalS st x = some (.func (.func fid) first cap)) (he : Enters P fid) (hk : (c.kind == CallKind.early) = false) (hro : c.ro = none) (hd : Nat.blt t c.n = true)
  (I : S → RMap → HList → HList → Prop) (E : O → RMap → HList → HList → Prop) (jc : O → Code) (hIs : ∀ s, Shape (I s)) (hEs : ∀ o, Shape (E o))
  (hseq : ∀ v Inv Hy z, HandS 𝒥 R A v (runY body) Inv → Inv (.inl s0) R Hy → mseq (runY body) (.inl s0) = some z → FnOk 𝒥 fid (first ++ #[v] ++ cap) R Hy fun _ R' H' => RLe R R' ∧ Inv z R' H')
  (h0 : I s0 R H H1)
  (ha : ∀ r s R' H', RLe R R' → I s R' ((r, .deferred (some [])) :: H) H' → cont (.inl s) = some rr → At 𝒥 ⟨c.fn, c.kind, none, c.n, ⟨.collected r, #[]⟩ :: c.defers, c.cs⟩ R' H' st k)
  (hz : ∀ r o R' H', RLe R R' → E o R' ((r, .deferred (some [])) :: H) H' → cont (.inr o) = some rr → At 𝒥 ⟨c.fn, c.kind, none, c.n, ⟨.collected r, #[]⟩ :: c.defers, c.cs⟩ R' H' st (.code (jc o) :: k))
  (hb : RBody I E jc 𝒥 c R H st A body t assign bodyc) :
  At 𝒥 c R H1 st (.code (.rangeFunc x #[t] assign bodyc) :: k) := by
 obtain ⟨z, hm, hc⟩ := bnd hM
 refine At.enterRange hx he hk (K := fun q R' Hm => ∃ r, q.2 = [⟨.collected r, #[]⟩] ∧ Hm = (r, .deferred (some [])) :: H1) (fun tmps => ?_) ?_
 ·rw [hro]
  exact semOk_enterTop.mono fun q R' H' ⟨h1, r, h2, h3⟩ => ⟨h1, r, _, h3, r, h2, rfl⟩
 rintro l mark d Hm tmps ht ⟨r, hmk, rfl⟩
 have hmk : mark = [⟨.collected r, #[]⟩] := hmk
 subst hmk
 obtain ⟨Hs, rfl, hsh⟩ := hIs s0 _ _ _ h0
 have hhand : HandS 𝒥 R A (.func (.yield l) #[] #[]) (runY body) (RInv I E jc R l (loopObj c.fn tmps t assign bodyc d) ((r, .deferred (some [])) :: H)) := handS_round hIs hEs ht hd (List.sublist_cons_self _ _) hb
 refine J.perm (H' := Hs ++ (l, .loop (loopObj c.fn tmps t assign bodyc d)) :: (r, .deferred (some [])) :: H) ?_ ?_
 ·exact List.perm_middle.trans (List.Perm.cons _ List.perm_middle)
 refine hseq _ _ _ z hhand ⟨RLe.refl R, hsh R _ (RLe.refl R)⟩ hm _ _ fun v R' H' hv => ?_
 rw [finish_range]
 obtain ⟨hR, hI⟩ := hv
 cases z with
 | inl s =>
  obtain ⟨_, hI⟩ := hI
  obtain ⟨Hs', rfl, hsh'⟩ := hIs s _ _ _ hI
  rw [hro]
  exact At.endRange (c := ⟨c.fn, c.kind, none, c.n, ⟨.collected r, #[]⟩ :: c.defers, c.cs⟩) rfl rfl (ha r s R' _ hR (hsh' R' _ (RLe.refl R')) hc) tmps ht
 | inr o =>
  obtain ⟨_, hI⟩ := hI
  obtain ⟨Hs', rfl, hsh'⟩ := hEs o _ _ _ hI
  rw [hro]
  exact At.endRange (c := ⟨c.fn, c.kind, none, c.n, ⟨.collected r, #[]⟩ :: c.defers, c.cs⟩) rfl rfl (hz r o R' _ hR (hsh' R' _ (RLe.refl R')) hc) tmps ht
theorem At.rangeIn {ρ : Type} {mseq : (α → (S ⊕ O) → Option ((S ⊕ O) × Bool)) → (S ⊕ O) → Option (S ⊕ O)} {cont : S ⊕ O → Option ρ} {s0 : S} {rr : ρ} {x : Operand} {fid : FuncId} {first cap : Array Value} {H1 : HList} {l0 : Nat} {r0 : Loop}
  (hM : (mseq (runY body) (.inl s0)).bind cont = some rr) (hx : evalS st x = some (.func (.func fid) first cap)) (he : Enters P fid) (hk : (c.kind == CallKind.early) = false) (hro : c.ro = some l0) (hl0 : (l0, Obj.loop r0) ∈ H1) (hd : Nat.blt t c.n = true)
  (I : S → RMap → HList → HList → Prop) (E : O → RMap → HList → HList → Prop) (jc : O → Code) (hIs : ∀ s, Shape (I s)) (hEs : ∀ o, Shape (E o))
  (hseq : ∀ v Inv Hy z, HandS 𝒥 R A v (runY body) Inv → Inv (.inl s0) R Hy → mseq (runY body) (.inl s0) = some z → FnOk 𝒥 fid (first ++ #[v] ++ cap) R Hy fun _ R' H' => RLe R R' ∧ Inv z R' H')
  (h0 : I s0 R H H1)
  (ha : ∀ s R' H', RLe R R' → I s R' H H' → cont (.inl s) = some rr → At 𝒥 c R' H' st k)
  (hz : ∀ o R' H', RLe R R' → E o R' H H' → cont (.inr o) = some rr → At 𝒥 c R' H' st (.code (jc o) :: k))
  (hb : RBody I E jc 𝒥 c R H st A body t assign bodyc) :
  At 𝒥 c R H1 st (.code (.rangeFunc x #[t] assign bodyc) :: k) := by
 obtain ⟨z, hm, hc⟩ := bnd hM
 refine At.enterRange hx he hk (K := fun q R' Hm => q.2 = [] ∧ Hm = H1) (fun tmps => ?_) ?_
 ·rw [hro]
  exact (semOk_enterIn hl0).mono fun q R' H' ⟨h1, h2, h3⟩ => ⟨h1, _, _, h3, h2, rfl⟩
 rintro l mark d Hm tmps ht ⟨hmk, rfl⟩
 have hmk : mark = [] := hmk
 subst hmk
 obtain ⟨Hs, rfl, hsh⟩ := hIs s0 _ _ _ h0
 have hhand : HandS 𝒥 R A (.func (.yield l) #[] #[]) (runY body) (RInv I E jc R l (loopObj c.fn tmps t assign bodyc d) H) := handS_round hIs hEs ht hd (List.Sublist.refl _) hb
 refine J.perm (H' := Hs ++ (l, .loop (loopObj c.fn tmps t assign bodyc d)) :: H) List.perm_middle ?_
 refine hseq _ _ _ z hhand ⟨RLe.refl R, hsh R _ (RLe.refl R)⟩ hm _ _ fun v R' H' hv => ?_
 rw [finish_range]
 obtain ⟨hR, hI⟩ := hv
 cases z with
 | inl s =>
  obtain ⟨_, hI⟩ := hI
  obtain ⟨Hs', rfl, hsh'⟩ := hIs s _ _ _ hI
  exact At.endRange (c := c) rfl rfl (ha s R' _ hR (hsh' R' _ (RLe.refl R')) hc) tmps ht
 | inr o =>
  obtain ⟨_, hI⟩ := hI
  obtain ⟨Hs', rfl, hsh'⟩ := hEs o _ _ _ hI
  exact At.endRange (c := c) rfl rfl (hz o R' _ hR (hsh' R' _ (RLe.refl R')) hc) tmps ht
theorem At.rangeF0 {ρ : Type} {body : α → S → Option (S ⊕ Empty)} (mseq : (α → (S ⊕ Empty) → Option ((S ⊕ Empty) × Bool)) → (S ⊕ Empty) → Option (S ⊕ Empty)) {f : S → Option ρ} {g : Empty → Option ρ} {s0 : S} {rr : ρ} {x : Operand} {fid : FuncId} {first cap : Array Value} {H1 : HList}
  (hM : (mseq (runY body) (.inl s0)).bind (Sum.elim f g) = some rr) (hx : evalS st x = some (.func (.func fid) first cap)) (he : Enters P fid) (hk : (c.kind == CallKind.early) = false) (hro : c.ro = none) (hd : Nat.blt t c.n = true)
  (I : S → RMap → HList → HList → Prop) (hIs : ∀ s, Shape (I s))
  (hseq : ∀ v Inv Hy z, HandS 𝒥 R A v (runY body) Inv → Inv (.inl s0) R Hy → mseq (runY body) (.inl s0) = some z → FnOk 𝒥 fid (first ++ #[v] ++ cap) R Hy fun _ R' H' => RLe R R' ∧ Inv z R' H')
  (h0 : I s0 R H H1)
  (ha : ∀ r s R' H', RLe R R' → I s R' ((r, .deferred (some [])) :: H) H' → f s = some rr → At 𝒥 ⟨c.fn, c.kind, none, c.n, ⟨.collected r, #[]⟩ :: c.defers, c.cs⟩ R' H' st k)
  (hb : ∀ (va : Value) (x : α) (s : S) (R' : RMap) (T H' : HList) (l : Nat) (ld : Loop) (cs : List Frame), RLe R R' → List.Sublist H T → A R' x va → I s R' ((l, .loop ld) :: T) H' → ld.state = .ready → ∀ z, body x s = some z →
   (∀ s', z = .inl s' → ∀ R'' H'' st'', RLe R' R'' → I s' R'' ((l, .loop { ld with state := .busy }) :: T) H'' → At 𝒥 ⟨c.fn, .normal, some l, c.n, [], cs⟩ R'' H'' st'' []) →
   At 𝒥 ⟨c.fn, .normal, some l, c.n, [], cs⟩ R' H' ((t, va) :: st) [.code assign, .beginRound, .code bodyc]) :
  At 𝒥 c R H1 st (.code (.rangeFunc x #[t] assign bodyc) :: k) :=
 At.rangeF (mseq := mseq) hM hx he hk hro hd I (fun o => o.elim) (fun o => o.elim) hIs (fun o => o.elim) hseq h0 ha (fun _ o => o.elim)
  (fun va x s z R' T H' l ld cs h1 h2 h3 h4 h5 h6 h7 _ => hb va x s R' T H' l ld cs h1 h2 h3 h4 h5 z h6 fun s' hz R'' H'' st'' => h7 s' R'' H'' st'' hz)
theorem At.rangeF1 {ρ : Type} (mseq : (α → (S ⊕ O) → Option ((S ⊕ O) × Bool)) → (S ⊕ O) → Option (S ⊕ O)) {f : S → Option ρ} {g : O → Option ρ} {s0 : S} {rr : ρ} {x : Operand} {fid : FuncId} {first cap : Array Value} {H1 : HList} (jc : Code)
  (hM : (mseq (runY body) (.inl s0)).bind (Sum.elim f g) = some rr) (hx : evalS st x = some (.func (.func fid) first cap)) (he : Enters P fid) (hk : (c.kind == CallKind.early) = false) (hro : c.ro = none) (hd : Nat.blt t c.n = true)
  (I : S → RMap → HList → HList → Prop) (E : O → RMap → HList → HList → Prop) (hIs : ∀ s, Shape (I s)) (hEs : ∀ s, Shape (E s))
  (hseq : ∀ v Inv Hy z, HandS 𝒥 R A v (runY body) Inv → Inv (.inl s0) R Hy → mseq (runY body) (.inl s0) = some z → FnOk 𝒥 fid (first ++ #[v] ++ cap) R Hy fun _ R' H' => RLe R R' ∧ Inv z R' H')
  (h0 : I s0 R H H1)
  (ha : ∀ r s R' H', RLe R R' → I s R' ((r, .deferred (some [])) :: H) H' → f s = some rr → At 𝒥 ⟨c.fn, c.kind, none, c.n, ⟨.collected r, #[]⟩ :: c.defers, c.cs⟩ R' H' st k)
  (hz : ∀ r o R' H', RLe R R' → E o R' ((r, .deferred (some [])) :: H) H' → g o = some rr → At 𝒥 ⟨c.fn, c.kind, none, c.n, ⟨.collected r, #[]⟩ :: c.defers, c.cs⟩ R' H' st (.code jc :: k))
  (hb : ∀ (va : Value) (x : α) (s : S) (R' : RMap) (T H' : HList) (l : Nat) (ld : Loop) (cs : List Frame), RLe R R' → List.Sublist H T → A R' x va → I s R' ((l, .loop ld) :: T) H' → ld.state = .ready → ∀ z, body x s = some z →
   (∀ s', z = .inl s' → ∀ R'' H'' st'', RLe R' R'' → I s' R'' ((l, .loop { ld with state := .busy }) :: T) H'' → At 𝒥 ⟨c.fn, .normal, some l, c.n, [], cs⟩ R'' H'' st'' []) →
   (∀ o, z = .inr o → ∀ R'' H'' st'' k'', RLe R' R'' → E o R'' ((l, .loop { ld with state := .busy }) :: T) H'' → Leaves (.code jc :: k'') (some jc) → At 𝒥 ⟨c.fn, .normal, some l, c.n, [], cs⟩ R'' H'' st'' (.code jc :: k'')) →
   At 𝒥 ⟨c.fn, .normal, some l, c.n, [], cs⟩ R' H' ((t, va) :: st) [.code assign, .beginRound, .code bodyc]) :
  At 𝒥 c R H1 st (.code (.rangeFunc x #[t] assign bodyc) :: k) :=
 At.rangeF (mseq := mseq) hM hx he hk hro hd I E (fun _ => jc) hIs hEs hseq h0 ha hz
  (fun va x s z R' T H' l ld cs h1 h2 h3 h4 h5 h6 h7 h8 => hb va x s R' T H' l ld cs h1 h2 h3 h4 h5 z h6 (fun s' hz R'' H'' st'' => h7 s' R'' H'' st'' hz) (fun o hz R'' H'' st'' k'' => h8 o R'' H'' st'' k'' hz))
theorem At.rangeIn1 {ρ : Type} (mseq : (α → (S ⊕ O) → Option ((S ⊕ O) × Bool)) → (S ⊕ O) → Option (S ⊕ O)) {f : S → Option ρ} {g : O → Option ρ} {s0 : S} {rr : ρ} {x : Operand} {fid : FuncId} {first cap : Array Value} {H1 : HList} {l0 : Nat} {r0 : Loop} (jc : Code)
  (hM : (mseq (runY body) (.inl s0)).bind (Sum.elim f g) = some rr) (hx : evalS st x = some (.func (.func fid) first cap)) (he : Enters P fid) (hk : (c.kind == CallKind.early) = false) (hro : c.ro = some l0) (hl0 : (l0, Obj.loop r0) ∈ H1) (hd : Nat.blt t c.n = true)
  (I : S → RMap → HList → HList → Prop) (E : O → RMap → HList → HList → Prop) (hIs : ∀ s, Shape (I s)) (hEs : ∀ s, Shape (E s))
  (hseq : ∀ v Inv Hy z, HandS 𝒥 R A v (runY body) Inv → Inv (.inl s0) R Hy → mseq (runY body) (.inl s0) = some z → FnOk 𝒥 fid (first ++ #[v] ++ cap) R Hy fun _ R' H' => RLe R R' ∧ Inv z R' H')
  (h0 : I s0 R H H1)
  (ha : ∀ s R' H', RLe R R' → I s R' H H' → f s = some rr → At 𝒥 c R' H' st k)
  (hz : ∀ o R' H', RLe R R' → E o R' H H' → g o = some rr → At 𝒥 c R' H' st (.code jc :: k))
  (hb : ∀ (va : Value) (x : α) (s : S) (R' : RMap) (T H' : HList) (l : Nat) (ld : Loop) (cs : List Frame), RLe R R' → List.Sublist H T → A R' x va → I s R' ((l, .loop ld) :: T) H' → ld.state = .ready → ∀ z, body x s = some z →
   (∀ s', z = .inl s' → ∀ R'' H'' st'', RLe R' R'' → I s' R'' ((l, .loop { ld with state := .busy }) :: T) H'' → At 𝒥 ⟨c.fn, .normal, some l, c.n, [], cs⟩ R'' H'' st'' []) →
   (∀ o, z = .inr o → ∀ R'' H'' st'' k'', RLe R' R'' → E o R'' ((l, .loop { ld with state := .busy }) :: T) H'' → Leaves (.code jc :: k'') (some jc) → At 𝒥 ⟨c.fn, .normal, some l, c.n, [], cs⟩ R'' H'' st'' (.code jc :: k'')) →
   At 𝒥 ⟨c.fn, .normal, some l, c.n, [], cs⟩ R' H' ((t, va) :: st) [.code assign, .beginRound, .code bodyc]) :
  At 𝒥 c R H1 st (.code (.rangeFunc x #[t] assign bodyc) :: k) :=
 At.rangeIn (mseq := mseq) hM hx he hk hro hl0 hd I E (fun _ => jc) hIs hEs hseq h0 ha hz
  (fun va x s z R' T H' l ld cs h1 h2 h3 h4 h5 h6 h7 h8 => hb va x s R' T H' l ld cs h1 h2 h3 h4 h5 z h6 (fun s' hz R'' H'' st'' => h7 s' R'' H'' st'' hz) (fun o hz R'' H'' st'' k'' => h8 o R'' H'' st'' k'' hz))
theorem semOk_take {r : Nat} {H' : HList} (hs : HSet H r (.deferred (some [])) (.deferred none) H') : SemOk P B R H (Instr.takeDeferred r) fun v R'' H'' => v = [] ∧ R'' = R ∧ H'' = H' := by
 unfold Instr.takeDeferred
 exact SemOk.bind (SemOk.getObj rfl (.inr hs.mem) (SemOk.bind (SemOk.setObj rfl rfl hs (SemOk.pure ⟨rfl, rfl, rfl⟩))))
theorem ret_past {fr : Frame} {cs : List Frame} {f : FuncId} {n r : Nat} {H' : HList} {tmps : Array Value} {todo : List Item} (hs : HSet H r (.deferred (some [])) (.deferred none) H')
  (h : 𝒥.J R H' (gor { (frm ⟨f, .normal, none, n, [], fr :: cs⟩ tmps todo) with mode := .returning } (fr :: cs))) :
  𝒥.J R H (gor { (frm ⟨f, .normal, none, n, [⟨.collected r, #[]⟩], fr :: cs⟩ tmps todo) with mode := .returning } (fr :: cs)) := by
 refine 𝒥.step rfl fun w hw => ?_
 obtain ⟨v, w', R', H', h1, h2, h3, rfl, rfl, rfl⟩ := semOk_take (P := P) hs w hw
 refine ⟨_, w', seen P f ((Instr.takeDeferred r).events P w #[]), R', _, ?_, fun e he => h2 e (mem_seen he), h3, h⟩
 simp [stepG, unwind, gor, frm, h1, GStep.after]
theorem ret_done {fr : Frame} {cs : List Frame} {f : FuncId} {n : Nat} {fn : Func} {vs : List Value} {tmps : Array Value} {todo : List Item} (hf : P.funcs[f]? = some fn) (ht : Rep n st tmps) (hr : ResOk P R H st fn.results.toList vs) (hj : 𝒥.J R H (gor (fr.finish (resV vs)) cs)) :
  𝒥.J R H (gor { (frm ⟨f, .normal, none, n, [], fr :: cs⟩ tmps todo) with mode := .returning } (fr :: cs)) := by
 refine 𝒥.step rfl fun w hw => ?_
 obtain ⟨v, w', R', H', h1, h2, h3, rfl, rfl, rfl⟩ := semOk_results (P := P) ht hr w hw
 refine ⟨gor (fr.finish (resV vs)) cs, w', seen P f ((results fn tmps).events P w #[]), R', H', ?_, fun e he => h2 e (mem_seen he), h3, hj⟩
 simp [stepG, unwind, doReturn, gor, frm, hf, h1, GStep.after]
theorem At.retD {fr : Frame} {cs : List Frame} {f : FuncId} {n r : Nat} {H' : HList} {fn : Func} {vs : List Value} (hs : HSet H r (.deferred (some [])) (.deferred none) H') (hf : P.funcs[f]? = some fn) (hr : ResOk P R H' st fn.results.toList vs) (hj : 𝒥.J R H' (gor (fr.finish (resV vs)) cs)) :
  At 𝒥 ⟨f, .normal, none, n, [⟨.collected r, #[]⟩], fr :: cs⟩ R H st (.code .ret :: k) := fun tmps ht => by
 refine Jd.ctl (g' := gor { (frm ⟨f, .normal, none, n, [⟨.collected r, #[]⟩], fr :: cs⟩ tmps (.code .ret :: k)) with mode := .returning } (fr :: cs)) rfl (fun w => by simp [stepG, stepG.exec, gor, frm]) ?_
 exact ret_past hs (ret_done hf ht hr hj)
end
theorem FnOk.hole {f : FuncId} {args : Array Value} {G : HList → HList} {Hs : HList} (hG : Hole G) {Q : Value → RMap → HList → Prop} (h : FnOk 𝒥 f args R (Hs ++ G []) fun v R' H' => ∃ Hs', Q v R' Hs' ∧ H' = Hs' ++ G []) :
  FnOk 𝒥 f args R (G Hs) fun v R' H' => ∃ Hs', Q v R' Hs' ∧ H' = G Hs' := by
 obtain ⟨A, D, hG⟩ := hG
 have key : ∀ X : HList, List.Perm (X ++ G []) (G X) := fun X => by
  rw [hG, hG, List.nil_append, ← List.append_assoc, ← List.append_assoc]
  exact List.perm_append_comm.append_right D
 intro fr cs hk
 refine J.perm (key Hs) (h fr cs fun v R' H' hv => ?_)
 obtain ⟨Hs', hq, rfl⟩ := hv
 exact J.perm (key Hs').symm (hk v R' _ ⟨Hs', hq, rfl⟩)
theorem Ox.eqNil {x y : Operand} {t u e : TypeId} {o : Oper} {C : RMap → HList → St → Prop} {A : Option Addr} {n cap : Nat} {b : Bool} {st' : St} (hop : o.op = .binOp .eql t x y u) (hx : evalS st x = some (.slice A n cap)) (hy : evalS st y = some (.slice none 0 0)) (ht : P.underlying t = some (.slice e)) (hb : A.isNone = b)
  (hd : dstLt o.dst c.n) (hs : SubL (putS o.dst (.bool b) st) st') (h : C R H st') : SemTo P B c o R H st C :=
 Ox.val' (s := fun ρ => do eqGuard .eql t x y (ρ x) (ρ y); binOp .eql t (ρ x) (ρ y)) (by rw [hop]; rfl) hd (fun ρ => by simp only [execOp, hop]) (fun ρ hρ => by
  rw [hρ x _ hx, hρ y _ hy]
  refine Val.bind (a := ()) (Val.pure _) ?_
  simp only [binOp]
  refine Val.bind (a := b) ?_ (Val.pure _)
  unfold Op.equal Op.maxDepth Op.equalIn
  refine Val.bind (Val.underlying ht) ?_
  cases A with
  | none => subst hb; exact Val.pure _
  | some a => subst hb; exact Val.pure _) hs h
theorem RdS.nilOr {α : Type} {K : CRel α} {k : Nat} {v : Value} {xs : List α} (h : RdS K k R H v xs) : (∃ cap, v = .slice none 0 cap ∧ xs = []) ∨ ∃ a n cap, v = .slice (some a) n cap := by
 obtain ⟨A, cap, es, rfl, h2, h3, h4⟩ := h
 cases A with
 | some a => exact .inr ⟨a, _, cap, rfl⟩
 | none =>
  cases xs with
  | nil => exact .inl ⟨cap, rfl, rfl⟩
  | cons x xs =>
   obtain ⟨b, o, g, _⟩ := h4 (by simp)
   cases g
theorem Ox.indexFn {x y : Operand} {t e len : Nat} {cs : Array Value} {v : Value} {kd : IntKind} {i : Int} {o : Oper} {C : RMap → HList → St → Prop} {st' : St} (hop : o.op = .index t x y) (hx : evalS st x = some (.agg cs)) (hy : evalS st y = some (.int kd i)) (ht : ArrayTy P t len e 1) (he : Val P (isAgg e) false) (hi : 0 ≤ i ∧ i < len) (hv : cs[i.toNat * 1]? = some v)
  (hd : dstLt o.dst c.n) (hs : SubL (putS o.dst v st) st') (h : C R H st') : SemTo P B c o R H st C :=
 Ox.val' (s := fun ρ => Instr.index t (ρ x) (ρ y)) (by rw [hop]; rfl) hd (fun ρ => by simp only [execOp, hop]) (fun ρ hρ => by
  rw [hρ x _ hx, hρ y _ hy]
  unfold Instr.index
  refine Val.bind (a := (kd, i)) (Val.pure _) (Val.bind (Val.underlying ht.1) ?_)
  simp only [hi, and_self, if_true]
  refine Val.bind ht.2 ?_
  unfold part
  refine Val.bind he ?_
  simp only [hv]
  exact Val.pure _) hs h
theorem At.freezeBox {todo : List Item} {b : Nat} {cs : Array Value} {e : TypeId} {fz : Nat × Nat} (G : HList → HList) (hG : Hole G) {H2 : HList} (h2 : G [] = H2) (h : ∀ R', RLe R R' → CellsAt R' [] b 0 cs.toList → At 𝒥 c R' H2 st todo) : At 𝒥 c R (G [(b, .cells cs e fz)]) st todo := by
 obtain ⟨A, D, hG⟩ := hG
 refine At.perm (H' := (b, .cells cs e fz) :: (A ++ D)) ?_ (At.freeze fun R' hR hb => ?_)
 ·rw [hG]; exact List.perm_middle.symm
 ·have e2 : A ++ D = H2 := by rw [← h2, hG]; rfl
  rw [e2]
  exact h R' hR (CellsAt.known (n := cs.toList.length) hb (by rw [List.drop_zero, List.take_length]))
def SeqR (𝒥 : Jd P B main) (R : RMap) {α S : Type} (A : VRel α) (v : Value) (q : (α → S → Option (S × Bool)) → S → Option S) : Prop :=
 ∃ fid first cap, v = .func (.func fid) first cap ∧ Enters P fid ∧ ∀ R', RLe R R' → ∀ (w : Value) (y : α → S → Option (S × Bool)) (Inv : S → RMap → HList → Prop) (Hy : HList) (s z : S), HandS 𝒥 R' A w y Inv → Inv s R' Hy → q y s = some z →
  FnOk 𝒥 fid (first ++ #[w] ++ cap) R' Hy fun _ R'' H' => RLe R' R'' ∧ Inv z R'' H'
theorem SeqR.mono {R' : RMap} {α S : Type} {A : VRel α} {v : Value} {q : (α → S → Option (S × Bool)) → S → Option S} (h : SeqR 𝒥 R A v q) (hR : RLe R R') : SeqR 𝒥 R' A v q := by
 obtain ⟨fid, first, cap, h1, h2, h3⟩ := h
 exact ⟨fid, first, cap, h1, h2, fun R'' hR' => h3 R'' (hR.trans hR')⟩
theorem HandS.frame {α S : Type} {A : VRel α} {v : Value} {y : α → S → Option (S × Bool)} {Inv : S → RMap → HList → Prop} (h : HandS 𝒥 R A v y Inv) (Hf : HList) : HandS 𝒥 R A v y fun s R' H' => ∃ Hy, Inv s R' Hy ∧ H' = Hf ++ Hy where
 fn := h.fn
 mono := fun h1 h2 ⟨Hy, hi, e⟩ => ⟨Hy, h.mono h1 h2 hi, e⟩
 call := by
  intro H2 R' Hy s x va z hR hI hA hy
  obtain ⟨Hy, hI, rfl⟩ := hI
  have := h.call (H2 ++ Hf) hR hI hA hy
  rw [List.append_assoc] at this
  refine this.mono fun w R'' H'' ⟨h1, h2, Hy', h3, h4⟩ => ⟨h1, h2, Hf ++ Hy', ⟨Hy', h3, rfl⟩, by rw [h4, List.append_assoc]⟩
section
variable {S : Nat → HList} {ops : Array Oper} {n : Nat} {rem : List Nat} {H2 : HList}
theorem anyR_ghost {Q : Array Value → RMap → HList → Prop} {R' : RMap} {H' : HList} (hg : ∀ w, Fits B R H w → Upd B R H w R' H' w) (hR : RLe R R') (hS : ∀ j, ∀ p ∈ S j, p ∈ H → p ∈ H') (hQ : ∀ t, Q t R' H' → Q t R H) :
  ∀ (n : Nat) (rem : List Nat) (t : Array Value), anyR 𝒥 c S ops Q n rem t R' H' → anyR 𝒥 c S ops Q n rem t R H
 | 0, rem, t, h => ⟨h.1, hQ t h.2⟩
 | n + 1, rem, t, h => by
  rcases h with ⟨h1, h2⟩ | ⟨h1, h2⟩
  ·exact .inl ⟨h1, hQ t h2⟩
  ·refine .inr ⟨h1, fun ⟨w, hw⟩ i hi hr => ?_⟩
   obtain ⟨o, ho, hd, h⟩ := h2 ⟨w, (hg w hw).fits⟩ i hi hr
   refine ⟨o, ho, hd, ?_⟩
   rcases h with ⟨a, b⟩ | ⟨a, b | ⟨f, args, b, b'⟩⟩
   ·exact .inl ⟨a, anyR_ghost hg hR hS hQ n _ _ b⟩
   ·exact .inr ⟨a, .inl ((SemOk.ghost hg b).mono fun nx R'' H'' ⟨v, x, y, z, hk⟩ => ⟨v, x, hR.trans y, fun p hp hpH => z p hp (hS i p hp hpH), hk⟩)⟩
   ·exact .inr ⟨a, .inr ⟨f, args, b, (FnOk.ghost hg b').mono fun v R'' H'' ⟨y, z, hk⟩ => ⟨hR.trans y, fun p hp hpH => z p hp (hS i p hp hpH), hk⟩⟩⟩
theorem Any.ghost {R' : RMap} {H' : HList} (hg : ∀ w, Fits B R H w → Upd B R H w R' H' w) (hR : RLe R R') (hS : ∀ j, ∀ p ∈ S j, p ∈ H → p ∈ H') (h : Any 𝒥 c S ops k n rem R' H' st) : Any 𝒥 c S ops k n rem R H st :=
 ⟨h.1, fun tmps ht => anyR_ghost hg hR hS (fun _ hq => 𝒥.ghost hg hq) n rem tmps (h.2 tmps ht)⟩
theorem Any.given (hnd : rem.Nodup) (hn : rem.length ≤ n) (h : (∃ w, Fits B R H w) → Any 𝒥 c S ops k n rem R H st) : Any 𝒥 c S ops k n rem R H st := by
 by_cases hw : ∃ w, Fits B R H w
 ·exact h hw
 ·refine ⟨hnd, fun tmps ht => ?_⟩
  cases n with
  | zero =>
   have : rem = [] := List.length_eq_zero_iff.1 (by omega)
   exact ⟨this, J.given 𝒥 rfl fun h => absurd h hw⟩
  | succ n =>
   cases rem with
   | nil => exact .inl ⟨rfl, J.given 𝒥 rfl fun h => absurd h hw⟩
   | cons i rem => exact .inr ⟨by simp, fun h => absurd h hw⟩
theorem Any.freeze {b : Nat} {o : Obj} {A D : HList} (hnd : rem.Nodup) (hn : rem.length ≤ n) (hS : ∀ j, ∀ p ∈ S j, p ∈ A ++ D) (h : ∀ R', RLe R R' → R' b = some o → Any 𝒥 c S ops k n rem R' (A ++ D) st) : Any 𝒥 c S ops k n rem R (A ++ (b, o) :: D) st := by
 refine Any.given hnd hn fun ⟨w, hw⟩ => ?_
 have hb : R b = none := hw.dj b o (by simp)
 refine Any.ghost (R' := R.ins b o) (H' := A ++ D) (fun w hw => ?_) (RMap.ins_le hb) (fun j p hp _ => hS j p hp) (h _ (RMap.ins_le hb) (RMap.ins_same R b o))
 exact (upd_perm List.perm_middle.symm hw).trans (upd_freeze (upd_perm List.perm_middle.symm hw).fits)
theorem Any.freezeOwn {α : Type} {K : CRel α} [CM K] {kk e : Nat} (G : HList → HList) (hG : Hole G) {v : Value} {xs : List α} {Hs : HList} (h2 : G [] = H2) (hO : OwnSl K kk e R v xs Hs) (hnd : rem.Nodup) (hn : rem.length ≤ n) (hS : ∀ j, ∀ p ∈ S j, p ∈ H2) (h : ∀ R', RLe R R' → SlR K kk R' v xs → Any 𝒥 c S ops k n rem R' H2 st) : Any 𝒥 c S ops k n rem R (G Hs) st := by
 subst h2
 rcases hO with ⟨A, rfl, rfl, rfl⟩ | ⟨b, cap, cs, es, rfl, rfl, h3, h4, h5, h6⟩
 ·exact h R (RLe.refl R) .nil
 ·obtain ⟨A, D, hGe⟩ := hG
  rw [hGe] at h hS ⊢
  refine Any.freeze hnd hn (fun j p hp => hS j p hp) (fun R' hR hb => h R' hR ?_)
  exact ⟨_, cap, es, rfl, h5.mono hR, h4, fun _ => ⟨b, 0, cs, e, (0, 0), rfl, hb, fun j w hj => by simpa using h6 j w hj⟩⟩
theorem Any.freezeLit {α : Type} {K : CRel α} [CM K] {kk e b m : Nat} (G : HList → HList) (hG : Hole G) (h2 : G [] = H2) {ys : List α} {cs : Array Value} (hE : Enc K kk R ys cs.toList) (hm : ys.length = m) (hnd : rem.Nodup) (hn : rem.length ≤ n) (hS : ∀ j, ∀ p ∈ S j, p ∈ H2) (h : ∀ R', RLe R R' → SlR K kk R' (.slice (some ⟨b, 0, none⟩) m m) ys → Any 𝒥 c S ops k n rem R' H2 st) : Any 𝒥 c S ops k n rem R (G [(b, .cells cs e (0, 0))]) st := by
 subst hm h2
 obtain ⟨A, D, hGe⟩ := hG
 rw [hGe] at h hS ⊢
 refine Any.freeze hnd hn (fun j p hp => hS j p hp) (fun R' hR hb => h R' hR ?_)
 exact ⟨_, ys.length, cs.toList, rfl, hE.mono hR, Nat.le_refl _, fun _ => ⟨b, 0, cs, e, (0, 0), rfl, hb, fun j w hj => by simpa using hj⟩⟩
end
theorem Ox.nilCheck {x : Operand} {a : Addr} {o : Oper} {C : RMap → HList → St → Prop} {st' : St} (hop : o.op = .nilCheck x) (hx : evalS st x = some (.pointer (some a))) (hd : dstLt o.dst c.n)
  (hs : SubL (putS o.dst (.pointer (some a)) st) st') (h : C R H st') : SemTo P B c o R H st C :=
 Ox.val (by rw [hop]; rfl) hd (fun ρ hρ => by simp only [execOp, hop, hρ x _ hx]; exact Val.pure _) hs h
def many (a : HList) : List (Nat × HList) → Nat → HList
 | [], _ => a
 | (q, l) :: r, j => if j = q then l else many a r j
section
variable {a N : HList} {ex : List (Nat × HList)} {rem D : List Nat} {i q : Nat} {l H' : HList}
theorem many_nil (ha : ∀ p ∈ N, p ∈ a) : ∀ j ∈ rem, j ≠ i → j ∉ D → ∀ p ∈ N, p ∈ many a [] j := fun _ _ _ _ p hp => ha p hp
theorem many_skip (hd : (D.contains q || q == i || !rem.contains q) = true) (h : ∀ j ∈ rem, j ≠ i → j ∉ D → ∀ p ∈ N, p ∈ many a ex j) : ∀ j ∈ rem, j ≠ i → j ∉ D → ∀ p ∈ N, p ∈ many a ((q, l) :: ex) j := by
 intro j hj hji hjD p hp
 unfold many
 split
 ·subst_vars
  simp only [Bool.or_eq_true, Bool.not_eq_true', List.contains_iff_mem, beq_iff_eq] at hd
  rcases hd with (x | x) | x
  ·exact absurd x hjD
  ·exact absurd x hji
  ·have : rem.contains j = true := List.contains_iff_mem.2 hj
   rw [this] at x; cases x
 ·exact h j hj hji hjD p hp
theorem many_keep (hl : ∀ p ∈ N, p ∈ l) (h : ∀ j ∈ rem, j ≠ i → j ∉ D → ∀ p ∈ N, p ∈ many a ex j) : ∀ j ∈ rem, j ≠ i → j ∉ D → ∀ p ∈ N, p ∈ many a ((q, l) :: ex) j := by
 intro j hj hji hjD p hp
 unfold many
 split
 ·exact hl p hp
 ·exact h j hj hji hjD p hp
theorem many_at (he : many a ex i = l) (h : ∀ p ∈ l, p ∈ H') : ∀ p ∈ many a ex i, p ∈ H → p ∈ H' := by
 rw [he]; exact fun p hp _ => h p hp
theorem many_all0 (ha : ∀ p ∈ a, p ∈ H') : ∀ j, ∀ p ∈ many a [] j, p ∈ H' := fun _ p hp => ha p hp
theorem many_all1 (hl : ∀ p ∈ l, p ∈ H') (h : ∀ j, ∀ p ∈ many a ex j, p ∈ H') : ∀ j, ∀ p ∈ many a ((q, l) :: ex) j, p ∈ H' := by
 intro j p hp
 unfold many at hp
 split at hp
 ·exact hl p hp
 ·exact h j p hp
end
end
end Go.Lg
