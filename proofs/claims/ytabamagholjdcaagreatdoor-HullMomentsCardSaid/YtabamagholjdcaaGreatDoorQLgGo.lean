/- The logic, on: a channel is made; goroutines are started, they send, receive, close, and end; goroutine 0, alone with leavers, becomes the starter of workers. Conditions: none; over any program. -/
import Derived.Test.YtabamagholjdcaaGreatDoorQLgStep5
import Derived.Test.YtabamagholjdcaaGreatDoorQLgMapw
import Derived.Conc.EventLaws
namespace Go.Lg
open Go.Conc
section
variable {P : Program} {B : Base} {main : Bool} {𝒥 : Jd P B main} {c : Ctx} {R : RMap} {H : HList} {st st' : St} {o : Oper} {C : RMap → HList → St → Prop} {k : List Item}
theorem Ox.makeChan {t : TypeId} {x : Operand} {dir : ChanDir} {e : TypeId} (hop : o.op = .makeChan t x) (hx : evalS st x = some (.int .i64 0)) (hu : P.underlying t = some (.chan dir e)) (hi : ∃ i, P.info? e = some i ∧ i.bytes ≤ 65536) (hd : dstLt o.dst c.n)
  (hC : ∀ b, R b = none → (∀ y, (b, y) ∉ H) → ∃ st', SubL (putS o.dst (.chan (some b)) st) st' ∧ C R ((b, .chan 0 #[] false 0 0 false) :: H) st') : SemTo P B c o R H st C :=
 Ox.mem (s := fun ρ => Instr.makeChan t (ρ x)) (by rw [hop]; rfl) hd (fun ρ => by simp only [execOp, hop]) (fun ρ hρ => by
  rw [hρ x _ hx]
  unfold Instr.makeChan
  obtain ⟨i, hi1, hi2⟩ := hi
  refine Val.bindOk (a := 0) (Val.pure _) (Val.bindOk (Val.underlying hu) (Val.bindOk (Val.typeInfo hi1) ?_))
  have e1 : ¬ ((0 : Int) < 0 ∨ (0 : Int) > IntKind.i64.max ∨ (i.bytes : Int) * 0 > 2 ^ 48 - 112) := by
   simp only [IntKind.max]
   rintro (h | h | h)
   ·omega
   ·exact absurd h (by decide)
   ·simp at h
  rw [if_neg e1]
  exact SemOk.bind (SemOk.new fun b h1 h2 => SemOk.pure (hC b h1 h2)))
theorem seen_nil (fn : FuncId) : seen P fn #[] = #[] := rfl
theorem apply_comm {fr : Frame} {cs : List Frame} {s : Sem Next} {w : World} {cases : Array CommCase} {b : Bool} {shape : CommShape} (hv : Val P s (.comm cases b shape)) : stepG.apply P true fr cs none s w = .comm (gor fr cs) cases b shape w #[] := by
 have h := hv w
 simp [stepG.apply, h.1, h.2, gor, GStep.after, seen_nil]
theorem toSend {ops : Array Oper} {i : Nat} {rest : List Nat} {x y : Operand} {cc : Nat} {v : Value} {tmps : Array Value} {Nx : RMap → HList → Goroutine → Prop} (ho : ops[i]? = some o) (hw : wantedS ops st o = some true) (hop : o.op = .send x y) (hx : evalS st x = some (.chan (some cc))) (hy : evalS st y = some v) (hd : dstLt o.dst c.n) (ht : Rep c.n st tmps)
  (hN : ∀ tmps', Rep c.n (putS o.dst undef st) tmps' → Nx R H (gor (frm c tmps' (.inRegion ops rest :: k)) c.cs)) : AtS P B main cc v Nx (.tuple #[]) R H (gor (frm c tmps (.inRegion ops (i :: rest) :: k)) c.cs) := by
 refine ⟨rfl, fun w _ => ?_, ?_⟩
 ·rw [stepG_oper' ho (wanted_of ht hw) (by rw [hop]; rfl)]
  have hk := ht.knows c (.inRegion ops (i :: rest) :: k)
  have : Val P (execOp (frm c tmps (.inRegion ops (i :: rest) :: k)).eval o) (.comm #[scase cc v (.tuple #[])] true .send) := by
   simp only [execOp, hop, hk x _ hx, hk y _ hy]; exact Val.pure _
  exact apply_comm this
 ·have := hN _ (ht.put undef hd)
  rw [← finish_frm (rest := rest) (k := k) (c := c) (tmps := tmps) (v := undef) ho] at this
  exact this
theorem toRecv {ops : Array Oper} {i : Nat} {rest : List Nat} {x : Operand} {t : TypeId} {fl : Bool} {cc : Nat} {z : Value} {dir : ChanDir} {e : TypeId} {tmps : Array Value} {Got : Value → RMap → HList → Goroutine → Prop} {Nl : RMap → HList → Goroutine → Prop} (ho : ops[i]? = some o) (hw : wantedS ops st o = some true) (hop : o.op = .recv t x fl) (hx : evalS st x = some (.chan (some cc)))
  (hu : P.underlying t = some (.chan dir e)) (hz : Val P (zeroValue e) z) (hd : dstLt o.dst c.n) (ht : Rep c.n st tmps)
  (hG : ∀ v tmps', Rep c.n (putS o.dst (recvd fl v true) st) tmps' → Got v R H (gor (frm c tmps' (.inRegion ops rest :: k)) c.cs)) (hN : ∀ tmps', Rep c.n (putS o.dst (recvd fl z false) st) tmps' → Nl R H (gor (frm c tmps' (.inRegion ops rest :: k)) c.cs)) :
  AtR P B main cc fl Got Nl z R H (gor (frm c tmps (.inRegion ops (i :: rest) :: k)) c.cs) := by
 refine ⟨rfl, fun w _ => ?_, fun v => ?_, ?_⟩
 ·rw [stepG_oper' ho (wanted_of ht hw) (by rw [hop]; rfl)]
  have hk := ht.knows c (.inRegion ops (i :: rest) :: k)
  have : Val P (execOp (frm c tmps (.inRegion ops (i :: rest) :: k)).eval o) (.comm #[rcase cc z] true (.recv fl)) := by
   simp only [execOp, hop, hk x _ hx]
   refine Val.bind (Val.underlying hu) ?_
   refine Val.bind hz (Val.pure _)
  exact apply_comm this
 ·have := hG v _ (ht.put _ hd)
  rw [← finish_frm (rest := rest) (k := k) (c := c) (tmps := tmps) ho] at this
  exact this
 ·have := hN _ (ht.put _ hd)
  rw [← finish_frm (rest := rest) (k := k) (c := c) (tmps := tmps) ho] at this
  exact this
def wrapF (P : Program) : Frame := { (default : Frame) with fn := P.funcs.size, defers := [], mode := .panicking [goexitEntry] }
def childOf (P : Program) (d : Deferred) : Goroutine := { frame := { (default : Frame) with fn := P.funcs.size, defers := [d], mode := .panicking [goexitEntry] }, callers := [], status := .running, dying := none }
theorem toGo {ops : Array Oper} {i : Nat} {rest : List Nat} {cl : Call} {d : Deferred} {tmps : Array Value} {w : World} (ho : ops[i]? = some o) (hw : wantedS ops st o = some true) (hop : o.op = .go cl) (ht : Rep c.n st tmps) (hr : ∀ ρ, Knows st ρ → Val P (resolve ρ cl o.type) d) (hd : (d.target matches .nil) = false) :
  stepG P main (gor (frm c tmps (.inRegion ops (i :: rest) :: k)) c.cs) w = .spawn (gor (frm c (putT o.dst undef tmps) (.inRegion ops rest :: k)) c.cs) (childOf P d) w #[] := by
 rw [stepG_oper' ho (wanted_of ht hw) (by rw [hop]; rfl)]
 have hk := ht.knows c (.inRegion ops (i :: rest) :: k)
 have : Val P (execOp (frm c tmps (.inRegion ops (i :: rest) :: k)).eval o) (.spawn d) := by
  simp only [execOp, hop]
  exact Val.bind (hr _ hk) (Val.pure _)
 have h := this w
 rw [← finish_frm (rest := rest) (k := k) (c := c) (tmps := tmps) (v := undef) ho]
 clear hr this
 obtain ⟨tg, args'⟩ := d
 cases tg <;> simp_all [stepG.apply, gor, GStep.after, seen_nil, childOf]
theorem Own.child {K : RMap → HList → Goroutine → Prop} {f : FuncId} {args : Array Value} {d : Deferred} (hd : (d.target matches .nil) = false) (hv : Val P (invoke d.target d.args) (.enter f args)) (h : Own P B false K R H (gor (Frame.enter P f args .deferred) [wrapF P])) : Own P B false K R H (childOf P d) := by
 refine (ownJd P B false K).step rfl fun w hw => ⟨_, w, #[], R, H, ?_, by simp, Upd.refl hw, h⟩
 have hc : (match d.target with | .collected _ => false | _ => true) = true := by
  cases ht : d.target with
  | collected b =>
   rw [ht] at hv
   have := (hv w).1
   simp [invoke] at this
  | _ => rfl
 have hvw := hv w
 obtain ⟨tg, args'⟩ := d
 simp only at hc hvw hd
 unfold stepG childOf
 simp only
 unfold unwind
 cases tg with
 | collected b => cases hc
 | _ => simp_all [callDeferred, Sem.runT_eq, GStep.after, seen_nil, gor, wrapF]
theorem val_invoke {f : FuncId} {captured args : Array Value} (he : Enters P f) : Val P (invoke (.fn (.func f) captured) args) (.enter f (args ++ captured)) := by
 obtain ⟨fn, h1, h2, h3⟩ := he.ex
 simp only [invoke]
 exact val_callFunc h1 h2 h3
theorem resolve_fn {x : Operand} {cl : Call} {f : FuncId} {cap : Array Value} {t : TypeId} (hc : cl.callee = .value x) (ha : cl.args = #[]) (hx : evalS st x = some (.func (.func f) #[] cap)) (ρ : Operand → Value) (hρ : Knows st ρ) : Val P (resolve ρ cl t) ⟨.fn (.func f) cap, #[]⟩ := by
 simp only [resolve, hc, ha, hρ x _ hx, Deferred.ofValue]
 have e : (#[] : Array Value) ++ Array.map ρ #[] = #[] := by simp
 rw [e]
 exact Val.pure _
theorem countdown {ι : Type} {J : Nat → ι → Jd P B main} {C : Nat → ι → RMap → HList → St → Prop} {todo : List Item} (h0 : ∀ a R H st, C 0 a R H st → At (J 0 a) c R H st todo)
  (hs : ∀ n, (∀ a R H st, C n a R H st → At (J n a) c R H st todo) → ∀ a R H st, C (n + 1) a R H st → At (J (n + 1) a) c R H st todo) : ∀ n a R H st, C n a R H st → At (J n a) c R H st todo := by
 intro n
 induction n with
 | zero => exact h0
 | succ n ih => exact hs n ih
theorem own_enter {K : RMap → HList → Goroutine → Prop} {f : FuncId} {fn : Func} {body : Code} {args : List Value} {n : Nat} {kd : CallKind} {cs : List Frame} (hf : P.funcs[f]? = some fn) (hb : fn.body = some body) (hnt : fn.ntmps = n) (hn : Nat.ble args.length n = true)
  (h : At (ownJd P B main K) ⟨f, kd, none, n, [], cs⟩ R H (argSt 0 args) [.code body]) : Own P B main K R H (gor (Frame.enter P f args.toArray kd) cs) := by
 subst hnt
 have hn : args.length ≤ fn.ntmps := by simpa [Nat.ble_eq] using hn
 have := h (args.toArray ++ Array.replicate (fn.ntmps - args.length) undef) ⟨by simp; omega, fun t v ht => ?_⟩
 ·have e : Frame.enter P f args.toArray kd = frm ⟨f, kd, none, fn.ntmps, [], cs⟩ (args.toArray ++ Array.replicate (fn.ntmps - args.length) undef) [.code body] := by
   simp [Frame.enter, frm, hf, hb]
  rw [e]
  exact this
 ·obtain ⟨_, h2⟩ := argSt_look args 0 t v ht
  have hlt : t < args.length := by
   have := (List.getElem?_eq_some_iff.1 h2).1
   simpa using this
  rw [Array.getElem?_append_left (by simpa using hlt)]
  simpa using h2
theorem results_nil {fn : Func} (hr : fn.results = #[]) (tmps : Array Value) : Val P (results fn tmps) (.tuple #[]) :=
 val_results (st := []) (n := tmps.size) (vs := []) ⟨rfl, fun _ _ h => by cases h⟩ (by rw [hr]; rfl)
theorem quits_end {f : FuncId} {fn : Func} {n : Nat} {tmps : Array Value} {ops : Array Oper} (hf : P.funcs[f]? = some fn) (hr : fn.results = #[]) : QuitsIn P 5 (gor (frm ⟨f, .deferred, none, n, [], [wrapF P]⟩ tmps [.inRegion ops []]) [wrapF P]) := by
 refine .inr ⟨rfl, gor (frm ⟨f, .deferred, none, n, [], [wrapF P]⟩ tmps []) [wrapF P], fun w => by simp [stepG, stepG.exec, gor, frm], ?_⟩
 refine .inr ⟨rfl, gor { (frm ⟨f, .deferred, none, n, [], [wrapF P]⟩ tmps []) with mode := .returning } [wrapF P], fun w => by simp [stepG, stepG.exec, gor, frm], ?_⟩
 refine .inr ⟨rfl, gor (wrapF P) [], fun w => ?_, ?_⟩
 ·have h := results_nil (P := P) hr tmps w
  simp [stepG, unwind, gor, frm, hf, h.1, h.2, GStep.after, seen_nil, doReturn, wrapF, goexitEntry]
 refine .inr ⟨rfl, { gor (wrapF P) [] with status := .finished }, fun w => ?_, .inl rfl⟩
 have e : (default : Frame).todo = [] := rfl
 simp [stepG, unwind, gor, wrapF, goexitEntry, Frame.catches, e]
theorem toClose {ops : Array Oper} {i : Nat} {rest : List Nat} {x : Operand} {ts : Array TypeId} {cc n : Nat} {tmps : Array Value} (ho : ops[i]? = some o) (hw : wantedS ops st o = some true) (hop : o.op = .call ⟨.builtin .close, #[x], ts⟩) (hx : evalS st x = some (.chan (some cc))) (hke : (c.kind == .early) = false) (ht : Rep c.n st tmps)
  (hq : ∀ tmps', QuitsIn P n (gor (frm c tmps' (.inRegion ops rest :: k)) c.cs)) : AtC P B cc R H (gor (frm c tmps (.inRegion ops (i :: rest) :: k)) c.cs) := by
 refine ⟨rfl, by simp [mayWake, gor, frm, ho, hop], _, n, fun w s r tm hwf hc => ?_, hq (putT o.dst (.tuple #[]) tmps)⟩
 rw [stepG_oper' ho (wanted_of ht hw) (by rw [hop]; rfl)]
 have hk := ht.knows c (.inRegion ops (i :: rest) :: k)
 have hlt := lt_of_heap hc
 have e1 : execOp (frm c tmps (.inRegion ops (i :: rest) :: k)).eval o = (do let x ← Builtin.close_ ts o.type #[.chan (some cc)]; pure (.value x)) := by
  simp only [execOp, hop, resolve, invoke, builtin]
  have : (#[x].map (frm c tmps (.inRegion ops (i :: rest) :: k)).eval) = #[.chan (some cc)] := by simp [hk x _ hx]
  rw [this]
  rfl
 have hrun : (execOp (frm c tmps (.inRegion ops (i :: rest) :: k)).eval o).run P w = .ok (.value (.tuple #[])) (w.shut cc s r tm) := by
  rw [e1]
  simp [run_close_open (P := P) (w := w) _ _ hc, World.shut]
 have hev : (execOp (frm c tmps (.inRegion ops (i :: rest) :: k)).eval o).events P w #[] = #[⟨.obj cc, false, true⟩, ⟨.obj cc, true, true⟩] := by
  rw [e1]
  simp [events_close_open (P := P) (w := w) _ _ hc]
 rw [← finish_frm (rest := rest) (k := k) (c := c) (tmps := tmps) (v := .tuple #[]) ho]
 rw [apply_value (fr := frm c tmps (.inRegion ops (i :: rest) :: k)) (by simpa [frm] using hke) hrun, hev]
 simp [seen]
theorem MJ.crowd {Post : Value → World → Prop} {cf cd n : Nat} {H0 : HList} {g : Goroutine} (h : Own P B true (MSk P B cf cd (MJ P B Post) n []) R H0 g) :
  MJ P B Post R ((cd, .chan 0 #[] false 0 0 false) :: (cf, .chan 0 #[] false 0 0 false) :: H0) g := by
 intro gs w sl t q h0 hA
 obtain ⟨T, hT⟩ := h
 have hlt := lt_of_get h0
 have hf := hA.fits
 have hnd := hf.nd
 simp only [List.map_cons, List.nodup_cons, List.mem_cons, not_or, List.mem_map, not_exists] at hnd
 have hcf : (cf, Obj.chan 0 #[] false 0 0 false) ∈ (cd, Obj.chan 0 #[] false 0 0 false) :: (cf, Obj.chan 0 #[] false 0 0 false) :: H0 := by simp
 have hcd : (cd, Obj.chan 0 #[] false 0 0 false) ∈ (cd, Obj.chan 0 #[] false 0 0 false) :: (cf, Obj.chan 0 #[] false 0 0 false) :: H0 := by simp
 have hm : MemI B (only ⟨R, H0⟩) [(cf, .chan 0 #[] false 0 0 false), (cd, .chan 0 #[] false 0 0 false)] w := by
  refine ⟨fun i x hx => ?_, fun i j x y hij hx hy => ?_, fun c o hc => ?_, fun c o hc i x hx => ?_⟩
  ·unfold only at hx; split at hx
   ·cases hx
    exact ⟨hf.r, fun b o hb => hf.h b o (by simp [hb]), hnd.2.2, fun b o hb => hf.dj b o (by simp [hb]), hf.os, hf.tape, hf.out⟩
   ·cases hx
  ·unfold only at hx hy; split at hx
   ·split at hy
    ·omega
    ·cases hy
   ·cases hx
  ·simp only [List.mem_cons, List.not_mem_nil, or_false, Prod.mk.injEq] at hc
   rcases hc with ⟨rfl, rfl⟩ | ⟨rfl, rfl⟩
   ·exact hf.h _ _ hcf
   ·exact hf.h _ _ hcd
  ·unfold only at hx; split at hx
   ·cases hx
    simp only [List.mem_cons, List.not_mem_nil, or_false, Prod.mk.injEq] at hc
    rcases hc with ⟨rfl, rfl⟩ | ⟨rfl, rfl⟩
    ·exact ⟨hf.dj _ _ hcf, fun o' ho' => hnd.2.1 (c, o') ⟨ho', rfl⟩⟩
    ·exact ⟨hf.dj _ _ hcd, fun o' ho' => hnd.1.2 (c, o') ⟨ho', rfl⟩⟩
   ·cases hx
 have ht : TrI (only ⟨R, H0⟩) [(cf, .chan 0 #[] false 0 0 false), (cd, .chan 0 #[] false 0 0 false)] none w.heap.size t := by
  have h' := hA.tr
  have sub : ∀ i x, only ⟨R, H0⟩ i = some x → i = 0 ∧ x = ⟨R, H0⟩ := fun i x hx => by
   unfold only at hx; split at hx
   ·cases hx; exact ⟨‹_›, rfl⟩
   ·cases hx
  refine ⟨fun i x hx b o hb k a hk hab => ?_, fun i x hx b o hb k a hk hab hw => ?_, fun c o hc i x hx k a hk hab => ?_, h'.low, fun k a hk hm => ?_, h'.clean, h'.quiet⟩
  ·obtain ⟨rfl, rfl⟩ := sub i x hx
   exact h'.own 0 _ rfl b o (by simp [show (b, o) ∈ H0 from hb]) k a hk hab
  ·obtain ⟨rfl, rfl⟩ := sub i x hx
   exact h'.read 0 _ rfl b o hb k a hk hab hw
  ·obtain ⟨rfl, rfl⟩ := sub i x hx
   refine .inr (h'.own 0 _ rfl c (.chan 0 #[] false 0 0 false) ?_ k a hk hab)
   simp only [List.mem_cons, List.not_mem_nil, or_false, Prod.mk.injEq] at hc
   rcases hc with ⟨rfl, rfl⟩ | ⟨rfl, rfl⟩
   ·exact hcf
   ·exact hcd
  ·rcases h'.all k a hk hm with ⟨j, x, hx, hkn⟩ | ⟨c, p, e, _⟩
   ·unfold only at hx; split at hx
    ·rename_i e; subst e; exact .inl ⟨0, _, rfl, hkn⟩
    ·cases hx
   ·cases e
 refine PI.runs (cf := cf) (cd := cd) (tm1 := false) (tm2 := false) (s1 := 0) (s2 := 0) (D := fun i => if i = 0 then .ms n [] (some T) else if i < gs.size then .lv (q i) else .lv 0) (th := only ⟨R, H0⟩) (clo := false) (cls := none) ⟨fun e => hnd.1.1 e.symm, hm, ht, fun i x hx => ?_, fun i hi => ?_, ?_, hlt⟩
 ·by_cases hi : i = 0
  ·subst hi
   rw [h0] at hx; cases hx
   exact ⟨⟨_, rfl, .inl ⟨T, rfl, hT⟩⟩, rfl⟩
  ·have hl := lt_of_get hx
   simp only [hi, if_false, hl, if_true, only]
   exact ⟨rfl, hA.lv i x (by omega) hx, by omega⟩
 ·have hi0 : i ≠ 0 := by omega
  have hl : ¬ i < gs.size := by omega
  simp [only, hi0, hl]
 ·refine .spawning (k := n) (sp := []) (m := some T) rfl ?_ (fun i k m e => ?_) (fun i m e => ?_)
  ·have : ∀ m, vals (fun i => if i = 0 then Dt.ms n [] (some T) else if i < gs.size then .lv (q i) else .lv 0) m = [] := by
    intro m
    induction m with
    | zero => rfl
    | succ m ih =>
     rw [vals_succ, ih]
     by_cases hm : m = 0
     ·subst hm; rfl
     ·simp only [hm, if_false]; split <;> rfl
   rw [this]
  ·split at e
   ·cases e
   ·split at e <;> cases e
  ·split at e
   ·cases e
   ·split at e <;> cases e
end
end Go.Lg
