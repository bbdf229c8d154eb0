/- What enters and leaves the machine; the run of a row. Conditions: none. -/
import Derived.Test.YtabamagholjdcaaGreatDoorQLgB
import Derived.Test.YtabamagholjdcaaGreatDoorQLgC
import Derived.Conc.EventLaws
import Derived.Conc.LeavingOf
import Derived.Handed
import Derived.LaidMore
import Derived.Below
import Derived.Carry
import Derived.SizedLaws
namespace Go.Lg
open Go.Conc
section
variable {P : Program} {B : Base} {main : Bool} {𝒥 : Jd P B main} {c : Ctx} {R : RMap} {H : HList} {st st' : St} {o : Oper} {C : RMap → HList → St → Prop} {k : List Item}
theorem Ox.makeChan {t : TypeId} {x : Operand} {dir : ChanDir} {e : TypeId} (hop : o.op = .makeChan t x) (hx : evalS st x = some (.int .i64 0)) (hu : P.underlying t = some (.chan dir e)) (hi : ∃ i, P.info? e = some i ∧ i.bytes ≤ 65536) (hd : dstLt o.dst c.n)
  (hC : ∀ b, R b = none → (∀ y, (b, y) ∉ H) → ∃ st', SubL (putS o.dst (.chan (some b)) st) st' ∧ C R ((b, .chan 0 #[] false 0 0 false) :: H) st') : SemTo P B c o R H st C :=
 Ox.mem (s := fun ρ => Instr.makeChan t (ρ x)) (by rw [hop]; rfl) hd (fun ρ => by simp only [execOp, hop]) (fun ρ hρ => by
  rw [hρ x _ hx]
  unfold Instr.makeChan
  obtain ⟨i, hi1, hi2⟩ := hi
  refine Val.bindOk (a := 0) (Val.pure _) (Val.bindOk (Val.underlying hu) (Val.bindOk (Val.typeInfo hi1) ?_))
  have e1 : ¬ ((0 : Int) < 0 ∨ (0 : Int) > IntKind.i64.max ∨ (i.bytes : Int) * 0 > 2 ^ 48 - 112) := by
   simp only [IntKind.max]
   rintro (h | h | h)
   ·omega
   ·exact absurd h (by decide)
   ·simp at h
  rw [if_neg e1]
  exact SemOk.bind (SemOk.new fun b h1 h2 => SemOk.pure (hC b h1 h2)))
theorem seen_nil (fn : FuncId) : seen P fn #[] = #[] := rfl
theorem apply_comm {fr : Frame} {cs : List Frame} {s : Sem Next} {w : World} {cases : Array CommCase} {b : Bool} {shape : CommShape} (hv : Val P s (.comm cases b shape)) : stepG.apply P true fr cs none s w = .comm (gor fr cs) cases b shape w #[] := by
 have h := hv w
 simp [stepG.apply, h.1, h.2, gor, GStep.after, seen_nil]
theorem toSend {ops : Array Oper} {i : Nat} {rest : List Nat} {x y : Operand} {cc : Nat} {v : Value} {tmps : Array Value} {Nx : RMap → HList → Goroutine → Prop} (ho : ops[i]? = some o) (hw : wantedS ops st o = some true) (hop : o.op = .send x y) (hx : evalS st x = some (.chan (some cc))) (hy : evalS st y = some v) (hd : dstLt o.dst c.n) (ht : Rep c.n st tmps)
  (hN : ∀ tmps', Rep c.n (putS o.dst undef st) tmps' → Nx R H (gor (frm c tmps' (.inRegion ops rest :: k)) c.cs)) : AtS P B main cc v Nx (.tuple #[]) R H (gor (frm c tmps (.inRegion ops (i :: rest) :: k)) c.cs) := by
 refine ⟨rfl, fun w _ => ?_, ?_⟩
 ·rw [stepG_oper' ho (wanted_of ht hw) (by rw [hop]; rfl)]
  have hk := ht.knows c (.inRegion ops (i :: rest) :: k)
  have : Val P (execOp (frm c tmps (.inRegion ops (i :: rest) :: k)).eval o) (.comm #[scase cc v (.tuple #[])] true .send) := by
   simp only [execOp, hop, hk x _ hx, hk y _ hy]; exact Val.pure _
  exact apply_comm this
 ·have := hN _ (ht.put undef hd)
  rw [← finish_frm (rest := rest) (k := k) (c := c) (tmps := tmps) (v := undef) ho] at this
  exact this
theorem toRecv {ops : Array Oper} {i : Nat} {rest : List Nat} {x : Operand} {t : TypeId} {fl : Bool} {cc : Nat} {z : Value} {dir : ChanDir} {e : TypeId} {tmps : Array Value} {Got : Value → RMap → HList → Goroutine → Prop} {Nl : RMap → HList → Goroutine → Prop} (ho : ops[i]? = some o) (hw : wantedS ops st o = some true) (hop : o.op = .recv t x fl) (hx : evalS st x = some (.chan (some cc)))
  (hu : P.underlying t = some (.chan dir e)) (hz : Val P (zeroValue e) z) (hd : dstLt o.dst c.n) (ht : Rep c.n st tmps)
  (hG : ∀ v tmps', Rep c.n (putS o.dst (recvd fl v true) st) tmps' → Got v R H (gor (frm c tmps' (.inRegion ops rest :: k)) c.cs)) (hN : ∀ tmps', Rep c.n (putS o.dst (recvd fl z false) st) tmps' → Nl R H (gor (frm c tmps' (.inRegion ops rest :: k)) c.cs)) :
  AtR P B main cc fl Got Nl z R H (gor (frm c tmps (.inRegion ops (i :: rest) :: k)) c.cs) := by
 refine ⟨rfl, fun w _ => ?_, fun v => ?_, ?_⟩
 ·rw [stepG_oper' ho (wanted_of ht hw) (by rw [hop]; rfl)]
  have hk := ht.knows c (.inRegion ops (i :: rest) :: k)
  have : Val P (execOp (frm c tmps (.inRegion ops (i :: rest) :: k)).eval o) (.comm #[rcase cc z] true (.recv fl)) := by
   simp only [execOp, hop, hk x _ hx]
   refine Val.bind (Val.underlying hu) ?_
   refine Val.bind hz (Val.pure _)
  exact apply_comm this
 ·have := hG v _ (ht.put _ hd)
  rw [← finish_frm (rest := rest) (k := k) (c := c) (tmps := tmps) ho] at this
  exact this
 ·have := hN _ (ht.put _ hd)
  rw [← finish_frm (rest := rest) (k := k) (c := c) (tmps := tmps) ho] at this
  exact this
def wrapF (P : Program) : Frame := { (default : Frame) with fn := P.funcs.size, defers := [], mode := .panicking [goexitEntry] }
def childOf (P : Program) (d : Deferred) : Goroutine := { frame := { (default : Frame) with fn := P.funcs.size, defers := [d], mode := .panicking [goexitEntry] }, callers := [], status := .running, dying := none }
theorem toGo {ops : Array Oper} {i : Nat} {rest : List Nat} {cl : Call} {d : Deferred} {tmps : Array Value} {w : World} (ho : ops[i]? = some o) (hw : wantedS ops st o = some true) (hop : o.op = .go cl) (ht : Rep c.n st tmps) (hr : ∀ ρ, Knows st ρ → Val P (resolve ρ cl o.type) d) (hd : (d.target matches .nil) = false) :
  stepG P main (gor (frm c tmps (.inRegion ops (i :: rest) :: k)) c.cs) w = .spawn (gor (frm c (putT o.dst undef tmps) (.inRegion ops rest :: k)) c.cs) (childOf P d) w #[] := by
 rw [stepG_oper' ho (wanted_of ht hw) (by rw [hop]; rfl)]
 have hk := ht.knows c (.inRegion ops (i :: rest) :: k)
 have : Val P (execOp (frm c tmps (.inRegion ops (i :: rest) :: k)).eval o) (.spawn d) := by
  simp only [execOp, hop]
  exact Val.bind (hr _ hk) (Val.pure _)
 have h := this w
 rw [← finish_frm (rest := rest) (k := k) (c := c) (tmps := tmps) (v := undef) ho]
 clear hr this
 obtain ⟨tg, args'⟩ := d
 cases tg <;> simp_all [stepG.apply, gor, GStep.after, seen_nil, childOf]
theorem Own.child {K : RMap → HList → Goroutine → Prop} {f : FuncId} {args : Array Value} {d : Deferred} (hd : (d.target matches .nil) = false) (hv : Val P (invoke d.target d.args) (.enter f args)) (h : Own P B false K R H (gor (Frame.enter P f args .deferred) [wrapF P])) : Own P B false K R H (childOf P d) := by
 refine (ownJd P B false K).step rfl fun w hw => ⟨_, w, #[], R, H, ?_, by simp, Upd.refl hw, h⟩
 have hc : (match d.target with | .collected _ => false | _ => true) = true := by
  cases ht : d.target with
  | collected b =>
   rw [ht] at hv
   have := (hv w).1
   simp [invoke] at this
  | _ => rfl
 have hvw := hv w
 obtain ⟨tg, args'⟩ := d
 simp only at hc hvw hd
 unfold stepG childOf
 simp only
 unfold unwind
 cases tg with
 | collected b => cases hc
 | _ => simp_all [callDeferred, Sem.runT_eq, GStep.after, seen_nil, gor, wrapF]
theorem val_invoke {f : FuncId} {captured args : Array Value} (he : Enters P f) : Val P (invoke (.fn (.func f) captured) args) (.enter f (args ++ captured)) := by
 obtain ⟨fn, h1, h2, h3⟩ := he.ex
 simp only [invoke]
 exact val_callFunc h1 h2 h3
theorem resolve_fn {x : Operand} {cl : Call} {f : FuncId} {cap : Array Value} {t : TypeId} (hc : cl.callee = .value x) (ha : cl.args = #[]) (hx : evalS st x = some (.func (.func f) #[] cap)) (ρ : Operand → Value) (hρ : Knows st ρ) : Val P (resolve ρ cl t) ⟨.fn (.func f) cap, #[]⟩ := by
 simp only [resolve, hc, ha, hρ x _ hx, Deferred.ofValue]
 have e : (#[] : Array Value) ++ Array.map ρ #[] = #[] := by simp
 rw [e]
 exact Val.pure _
theorem countdown {ι : Type} {J : Nat → ι → Jd P B main} {C : Nat → ι → RMap → HList → St → Prop} {todo : List Item} (h0 : ∀ a R H st, C 0 a R H st → At (J 0 a) c R H st todo)
  (hs : ∀ n, (∀ a R H st, C n a R H st → At (J n a) c R H st todo) → ∀ a R H st, C (n + 1) a R H st → At (J (n + 1) a) c R H st todo) : ∀ n a R H st, C n a R H st → At (J n a) c R H st todo := by
 intro n
 induction n with
 | zero => exact h0
 | succ n ih => exact hs n ih
theorem own_enter {K : RMap → HList → Goroutine → Prop} {f : FuncId} {fn : Func} {body : Code} {args : List Value} {n : Nat} {kd : CallKind} {cs : List Frame} (hf : P.funcs[f]? = some fn) (hb : fn.body = some body) (hnt : fn.ntmps = n) (hn : Nat.ble args.length n = true)
  (h : At (ownJd P B main K) ⟨f, kd, none, n, [], cs⟩ R H (argSt 0 args) [.code body]) : Own P B main K R H (gor (Frame.enter P f args.toArray kd) cs) := by
 subst hnt
 have hn : args.length ≤ fn.ntmps := by simpa [Nat.ble_eq] using hn
 have := h (args.toArray ++ Array.replicate (fn.ntmps - args.length) undef) ⟨by simp; omega, fun t v ht => ?_⟩
 ·have e : Frame.enter P f args.toArray kd = frm ⟨f, kd, none, fn.ntmps, [], cs⟩ (args.toArray ++ Array.replicate (fn.ntmps - args.length) undef) [.code body] := by
   simp [Frame.enter, frm, hf, hb]
  rw [e]
  exact this
 ·obtain ⟨_, h2⟩ := argSt_look args 0 t v ht
  have hlt : t < args.length := by
   have := (List.getElem?_eq_some_iff.1 h2).1
   simpa using this
  rw [Array.getElem?_append_left (by simpa using hlt)]
  simpa using h2
theorem results_nil {fn : Func} (hr : fn.results = #[]) (tmps : Array Value) : Val P (results fn tmps) (.tuple #[]) :=
 val_results (st := []) (n := tmps.size) (vs := []) ⟨rfl, fun _ _ h => by cases h⟩ (by rw [hr]; rfl)
theorem quits_end {f : FuncId} {fn : Func} {n : Nat} {tmps : Array Value} {ops : Array Oper} (hf : P.funcs[f]? = some fn) (hr : fn.results = #[]) : QuitsIn P 5 (gor (frm ⟨f, .deferred, none, n, [], [wrapF P]⟩ tmps [.inRegion ops []]) [wrapF P]) := by
 refine .inr ⟨rfl, gor (frm ⟨f, .deferred, none, n, [], [wrapF P]⟩ tmps []) [wrapF P], fun w => by simp [stepG, stepG.exec, gor, frm], ?_⟩
 refine .inr ⟨rfl, gor { (frm ⟨f, .deferred, none, n, [], [wrapF P]⟩ tmps []) with mode := .returning } [wrapF P], fun w => by simp [stepG, stepG.exec, gor, frm], ?_⟩
 refine .inr ⟨rfl, gor (wrapF P) [], fun w => ?_, ?_⟩
 ·have h := results_nil (P := P) hr tmps w
  simp [stepG, unwind, gor, frm, hf, h.1, h.2, GStep.after, seen_nil, doReturn, wrapF, goexitEntry]
 refine .inr ⟨rfl, { gor (wrapF P) [] with status := .finished }, fun w => ?_, .inl rfl⟩
 have e : (default : Frame).todo = [] := rfl
 simp [stepG, unwind, gor, wrapF, goexitEntry, Frame.catches, e]
theorem toClose {ops : Array Oper} {i : Nat} {rest : List Nat} {x : Operand} {ts : Array TypeId} {cc n : Nat} {tmps : Array Value} (ho : ops[i]? = some o) (hw : wantedS ops st o = some true) (hop : o.op = .call ⟨.builtin .close, #[x], ts⟩) (hx : evalS st x = some (.chan (some cc))) (hke : (c.kind == .early) = false) (ht : Rep c.n st tmps)
  (hq : ∀ tmps', QuitsIn P n (gor (frm c tmps' (.inRegion ops rest :: k)) c.cs)) : AtC P B cc R H (gor (frm c tmps (.inRegion ops (i :: rest) :: k)) c.cs) := by
 refine ⟨rfl, by simp [mayWake, gor, frm, ho, hop], _, n, fun w s r tm hwf hc => ?_, hq (putT o.dst (.tuple #[]) tmps)⟩
 rw [stepG_oper' ho (wanted_of ht hw) (by rw [hop]; rfl)]
 have hk := ht.knows c (.inRegion ops (i :: rest) :: k)
 have hlt := lt_of_heap hc
 have e1 : execOp (frm c tmps (.inRegion ops (i :: rest) :: k)).eval o = (do let x ← Builtin.close_ ts o.type #[.chan (some cc)]; pure (.value x)) := by
  simp only [execOp, hop, resolve, invoke, builtin]
  have : (#[x].map (frm c tmps (.inRegion ops (i :: rest) :: k)).eval) = #[.chan (some cc)] := by simp [hk x _ hx]
  rw [this]
  rfl
 have hrun : (execOp (frm c tmps (.inRegion ops (i :: rest) :: k)).eval o).run P w = .ok (.value (.tuple #[])) (w.shut cc s r tm) := by
  rw [e1]
  simp [run_close_open (P := P) (w := w) _ _ hc, World.shut]
 have hev : (execOp (frm c tmps (.inRegion ops (i :: rest) :: k)).eval o).events P w #[] = #[⟨.obj cc, false, true⟩, ⟨.obj cc, true, true⟩] := by
  rw [e1]
  simp [events_close_open (P := P) (w := w) _ _ hc]
 rw [← finish_frm (rest := rest) (k := k) (c := c) (tmps := tmps) (v := .tuple #[]) ho]
 rw [apply_value (fr := frm c tmps (.inRegion ops (i :: rest) :: k)) (by simpa [frm] using hke) hrun, hev]
 simp [seen]
theorem MJ.crowd {Post : Value → World → Prop} {cf cd n : Nat} {H0 : HList} {g : Goroutine} (h : Own P B true (MSk P B cf cd (MJ P B Post) n []) R H0 g) :
  MJ P B Post R ((cd, .chan 0 #[] false 0 0 false) :: (cf, .chan 0 #[] false 0 0 false) :: H0) g := by
 intro gs w sl t q h0 hA
 obtain ⟨T, hT⟩ := h
 have hlt := lt_of_get h0
 have hf := hA.fits
 have hnd := hf.nd
 simp only [List.map_cons, List.nodup_cons, List.mem_cons, not_or, List.mem_map, not_exists] at hnd
 have hcf : (cf, Obj.chan 0 #[] false 0 0 false) ∈ (cd, Obj.chan 0 #[] false 0 0 false) :: (cf, Obj.chan 0 #[] false 0 0 false) :: H0 := by simp
 have hcd : (cd, Obj.chan 0 #[] false 0 0 false) ∈ (cd, Obj.chan 0 #[] false 0 0 false) :: (cf, Obj.chan 0 #[] false 0 0 false) :: H0 := by simp
 have hm : MemI B (only ⟨R, H0⟩) [(cf, .chan 0 #[] false 0 0 false), (cd, .chan 0 #[] false 0 0 false)] w := by
  refine ⟨fun i x hx => ?_, fun i j x y hij hx hy => ?_, fun c o hc => ?_, fun c o hc i x hx => ?_⟩
  ·unfold only at hx; split at hx
   ·cases hx
    exact ⟨hf.r, fun b o hb => hf.h b o (by simp [hb]), hnd.2.2, fun b o hb => hf.dj b o (by simp [hb]), hf.os, hf.tape, hf.out⟩
   ·cases hx
  ·unfold only at hx hy; split at hx
   ·split at hy
    ·omega
    ·cases hy
   ·cases hx
  ·simp only [List.mem_cons, List.not_mem_nil, or_false, Prod.mk.injEq] at hc
   rcases hc with ⟨rfl, rfl⟩ | ⟨rfl, rfl⟩
   ·exact hf.h _ _ hcf
   ·exact hf.h _ _ hcd
  ·unfold only at hx; split at hx
   ·cases hx
    simp only [List.mem_cons, List.not_mem_nil, or_false, Prod.mk.injEq] at hc
    rcases hc with ⟨rfl, rfl⟩ | ⟨rfl, rfl⟩
    ·exact ⟨hf.dj _ _ hcf, fun o' ho' => hnd.2.1 (c, o') ⟨ho', rfl⟩⟩
    ·exact ⟨hf.dj _ _ hcd, fun o' ho' => hnd.1.2 (c, o') ⟨ho', rfl⟩⟩
   ·cases hx
 have ht : TrI (only ⟨R, H0⟩) [(cf, .chan 0 #[] false 0 0 false), (cd, .chan 0 #[] false 0 0 false)] none w.heap.size t := by
  have h' := hA.tr
  have sub : ∀ i x, only ⟨R, H0⟩ i = some x → i = 0 ∧ x = ⟨R, H0⟩ := fun i x hx => by
   unfold only at hx; split at hx
   ·cases hx; exact ⟨‹_›, rfl⟩
   ·cases hx
  refine ⟨fun i x hx b o hb k a hk hab => ?_, fun i x hx b o hb k a hk hab hw => ?_, fun c o hc i x hx k a hk hab => ?_, h'.low, fun k a hk hm => ?_, h'.clean, h'.quiet⟩
  ·obtain ⟨rfl, rfl⟩ := sub i x hx
   exact h'.own 0 _ rfl b o (by simp [show (b, o) ∈ H0 from hb]) k a hk hab
  ·obtain ⟨rfl, rfl⟩ := sub i x hx
   exact h'.read 0 _ rfl b o hb k a hk hab hw
  ·obtain ⟨rfl, rfl⟩ := sub i x hx
   refine .inr (h'.own 0 _ rfl c (.chan 0 #[] false 0 0 false) ?_ k a hk hab)
   simp only [List.mem_cons, List.not_mem_nil, or_false, Prod.mk.injEq] at hc
   rcases hc with ⟨rfl, rfl⟩ | ⟨rfl, rfl⟩
   ·exact hcf
   ·exact hcd
  ·rcases h'.all k a hk hm with ⟨j, x, hx, hkn⟩ | ⟨c, p, e, _⟩
   ·unfold only at hx; split at hx
    ·rename_i e; subst e; exact .inl ⟨0, _, rfl, hkn⟩
    ·cases hx
   ·cases e
 refine PI.runs (cf := cf) (cd := cd) (tm1 := false) (tm2 := false) (s1 := 0) (s2 := 0) (D := fun i => if i = 0 then .ms n [] (some T) else if i < gs.size then .lv (q i) else .lv 0) (th := only ⟨R, H0⟩) (clo := false) (cls := none) ⟨fun e => hnd.1.1 e.symm, hm, ht, fun i x hx => ?_, fun i hi => ?_, ?_, hlt⟩
 ·by_cases hi : i = 0
  ·subst hi
   rw [h0] at hx; cases hx
   exact ⟨⟨_, rfl, .inl ⟨T, rfl, hT⟩⟩, rfl⟩
  ·have hl := lt_of_get hx
   simp only [hi, if_false, hl, if_true, only]
   exact ⟨rfl, hA.lv i x (by omega) hx, by omega⟩
 ·have hi0 : i ≠ 0 := by omega
  have hl : ¬ i < gs.size := by omega
  simp [only, hi0, hl]
 ·refine .spawning (k := n) (sp := []) (m := some T) rfl ?_ (fun i k m e => ?_) (fun i m e => ?_)
  ·have : ∀ m, vals (fun i => if i = 0 then Dt.ms n [] (some T) else if i < gs.size then .lv (q i) else .lv 0) m = [] := by
    intro m
    induction m with
    | zero => rfl
    | succ m ih =>
     rw [vals_succ, ih]
     by_cases hm : m = 0
     ·subst hm; rfl
     ·simp only [hm, if_false]; split <;> rfl
   rw [this]
  ·split at e
   ·cases e
   ·split at e <;> cases e
  ·split at e
   ·cases e
   ·split at e <;> cases e
end
end Go.Lg
namespace Go.Lg
open Go.Conc Go.ChangeShapes Go.RowKit
section
variable {P : Program} {B : Base} {PW : Value → World → Prop} {R : RMap} {H : HList} {st : St} {k : List Item}
theorem MJ.endsU {g : Goroutine} (hs : g.status = .running) (h : ∀ w, Fits B R H w → ∃ v w' es R' H', stepG P true g w = .ended (.done v) w' es ∧ (∀ e ∈ es, EvOk R H w.heap.size w'.heap.size e) ∧ Upd B R H w R' H' w' ∧ PW v w') : MJ P B PW R H g := by
 refine MJ.pick hs fun gs w sl sl' d t q h0 hA hst => ?_
 obtain ⟨v, w', es, R', H', h1, h2, hu, h3⟩ := h _ hA.fits
 have hrunT := runT_many_ended (P := P) (sl := sl') (i := 0) h0 (show stepG P (0 == 0) g (w.at d) = _ from h1)
 have hst' := own_step hA.mem hA.tr (i := 0) rfl h2 hu g.frame.fn g.frame.place
 rw [only_upd] at hst'
 refine Runs.end (hst.trans hrunT) ⟨v, rfl, h3, hst'.2.clean, handed hst'.2, ⟨fun x hx => ?_, rfl⟩, fun j x hx hj => ?_⟩
 ·obtain ⟨j, hj⟩ := List.mem_iff_getElem?.1 hx
  rw [List.getElem?_drop] at hj
  exact ⟨_, (hA.lv (1 + j) x (by omega) (by simpa [Go.Conc.crowd] using hj)).leaves⟩
 ·have hq := hA.lv j x (by omega) hx
  refine ⟨q j, ?_⟩
  rw [hst'.2.quiet.deaf]
  exact hq.hears _ 0
def TopOk (P : Program) (B : Base) (PW : Value → World → Prop) (f : FuncId) (args : Array Value) (R : RMap) (H : HList) (Post : Value → RMap → HList → Prop) : Prop :=
 (∀ v R' H' w, Post v R' H' → Fits B R' H' w → PW v w) → MJ P B PW R H (gor (Frame.enter P f args .normal) [])
theorem TopOk.of_at {f : FuncId} {fn : Func} {body : Code} {args : List Value} {n : Nat} {Post : Value → RMap → HList → Prop} (hf : P.funcs[f]? = some fn) (hb : fn.body = some body) (hnt : fn.ntmps = n) (hn : Nat.ble args.length n = true)
  (h : (∀ v R' H' w, Post v R' H' → Fits B R' H' w → PW v w) → At (mainJd P B PW) ⟨f, .normal, none, n, [], []⟩ R H (argSt 0 args) [.code body]) : TopOk P B PW f args.toArray R H Post := by
 subst hnt
 intro hk
 have hn : args.length ≤ fn.ntmps := by simpa [Nat.ble_eq] using hn
 have := h hk (args.toArray ++ Array.replicate (fn.ntmps - args.length) undef) ⟨by simp; omega, fun t v ht => ?_⟩
 ·have e : Frame.enter P f args.toArray .normal = frm ⟨f, .normal, none, fn.ntmps, [], []⟩ (args.toArray ++ Array.replicate (fn.ntmps - args.length) undef) [.code body] := by
   simp [Frame.enter, frm, hf, hb]
  rw [e]
  exact this
 ·obtain ⟨_, h2⟩ := argSt_look args 0 t v ht
  have hlt : t < args.length := by
   have := (List.getElem?_eq_some_iff.1 h2).1
   simpa using this
  rw [Array.getElem?_append_left (by simpa using hlt)]
  simpa using h2
theorem At.retT {H' : HList} {f : FuncId} {n : Nat} {fn : Func} {vs : List Value} {Post : Value → RMap → HList → Prop} (hf : P.funcs[f]? = some fn) (hi : P.inits.idxOf? f = none) (hr : ResOk P R H st fn.results.toList vs) (hs : List.Sublist H' H)
  (hk : ∀ v R' H' w, Post v R' H' → Fits B R' H' w → PW v w) (hp : Post (resV vs) R H') : At (mainJd P B PW) ⟨f, .normal, none, n, [], []⟩ R H st (.code .ret :: k) := fun tmps ht => by
 refine Jd.ctl (g' := gor { (frm ⟨f, .normal, none, n, [], []⟩ tmps (.code .ret :: k)) with mode := .returning } []) rfl (fun w => by simp [stepG, stepG.exec, gor, frm])
  (MJ.endsU rfl fun w hw => ?_)
 obtain ⟨v, w', R', H2, h1, h2, h3, rfl, rfl, rfl⟩ := semOk_results (P := P) ht hr w hw
 refine ⟨resV vs, w', seen P f ((results fn tmps).events P w #[]), _, _, ?_, fun e he => h2 e (mem_seen he), h3, hk _ _ _ _ hp (upd_sub hs h3.fits).fits⟩
 simp [stepG, unwind, doReturn, gor, frm, hf, h1, GStep.after, hi]
end
def heapR (W : World) : RMap := fun b => W.heap[b]?
def baseOf (W : World) : Base := ⟨W.os, W.tape, W.output⟩
theorem heapR_fits (W : World) : Fits (baseOf W) (heapR W) [] W := ⟨fun _ _ h => h, by simp, by simp, by simp, rfl, rfl, rfl⟩
theorem mj_runs {P : Program} {PW : Value → World → Prop} {W : World} {g : Goroutine} (h : MJ P (baseOf W) PW (heapR W) [] g) :
  ∃ M last o w' t', runNT P (M + 1) (solo g W) #[] = (.ended o w', t') ∧ runN P M (solo g W) = .next last ∧ step P last = .ended o w' ∧ Conc.Good P PW last o w' t' := by
 have nt : ∀ k a, touchAt (#[] : Trace) k = some a → False := fun k a hk => by simp [touchAt, Trace.act?] at hk
 refine h #[g] W none #[] (fun _ => 0) rfl ⟨⟨fun i x hx => ?_, fun i j x y hij hx hy => ?_, by simp, by simp⟩, ⟨fun i x hx b o hb k a hk => (nt k a hk).elim, fun i x hx b o hb k a hk => (nt k a hk).elim, by simp, by simp, fun k a hk => (nt k a hk).elim, fun said => ?_, fun op hop => by simp at hop⟩, fun i g' hi hg => ?_⟩
 ·unfold only at hx
  split at hx
  ·cases hx; exact heapR_fits W
  ·cases hx
 ·unfold only at hx hy
  split at hx
  ·split at hy
   ·omega
   ·cases hy
  ·cases hx
 ·rintro ⟨i, j, _, ⟨a, b, h1, _⟩, _⟩
  exact nt i a h1
 ·have : i < 1 := (Array.getElem?_eq_some_iff.1 hg).1
  omega
theorem below_of {W w : World} {R : RMap} {H : HList} (h : Fits (baseOf W) R H w) (hR : RLe (heapR W) R) : Below W.heap.size W w := by
 have hb : ∀ k, k < W.heap.size → w.heap[k]? = W.heap[k]? := fun k hk => by
  have e : W.heap[k]? = some W.heap[k] := Array.getElem?_eq_getElem hk
  rw [e]
  exact h.r k _ (hR k _ e)
 refine ⟨h.os, h.tape, h.out, ?_, hb⟩
 by_cases hz : W.heap.size = 0
 ·omega
 ·have h1 := hb (W.heap.size - 1) (by omega)
  rw [Array.getElem?_eq_getElem (xs := W.heap) (by omega)] at h1
  have := (Array.getElem?_eq_some_iff.1 h1).1
  omega
structure ReadR (P : Program) (t : TypeId) {α : Type} (C : CRel α) (k : Nat) : Prop where
 size : P.cellsOf t = k
 rd : ∀ (W : World) (T : Type) (enc : TypeId × Value → T) (sp : Nat → Bool) (held : Bool) (fuel : Nat) (cs : List Value) (x : DataW T × List MemPlace), DataW.trod enc P W 0 sp held fuel t cs = some x → cs.length = k ∧ ∃ a, C (heapR W) a cs
theorem ReadR.int {P : Program} {t : TypeId} {kd : IntKind} (hs : P.cellsOf t = 1) (ht : P.underlying t = some (.int kd)) : ReadR P t (CI kd) 1 := ⟨hs, fun W T enc sp held fuel cs x h => by
 obtain ⟨n, rfl, _, _⟩ := DataW.trod_int ht h
 exact ⟨rfl, n, rfl⟩⟩
theorem ReadR.str {P : Program} {t : TypeId} (hs : P.cellsOf t = 1) (ht : P.underlying t = some .string) : ReadR P t CS 1 := ⟨hs, fun W T enc sp held fuel cs x h => by
 obtain ⟨s, rfl, _, _⟩ := DataW.trod_string ht h
 exact ⟨rfl, s, rfl⟩⟩
def CW (kd : IntKind) : CRel Int := fun _ x es => es = [.int kd x] ∧ kd.min ≤ x ∧ x ≤ kd.max
theorem ReadR.intW {P : Program} {t : TypeId} {kd : IntKind} (hs : P.cellsOf t = 1) (ht : P.underlying t = some (.int kd)) : ReadR P t (CW kd) 1 := ⟨hs, fun W T enc sp held fuel cs x h => by
 obtain ⟨n, rfl, _, hw⟩ := DataW.trod_int ht h
 simp only [Lit.wf, Bool.and_eq_true, decide_eq_true_eq] at hw
 exact ⟨rfl, n, rfl, hw⟩⟩
theorem SlR.weak {α : Type} {C C' : CRel α} {k : Nat} {R : RMap} {v : Value} {xs : List α} (h : SlR C k R v xs) (hc : ∀ x es, C R x es → C' R x es) : SlR C' k R v xs := by
 obtain ⟨A, cap, es, h1, h2, h3, h4⟩ := h
 exact ⟨A, cap, es, h1, ⟨h2.len, fun i x hx => by obtain ⟨e, g1, g2, g3⟩ := h2.at_ i x hx; exact ⟨e, hc _ _ g1, g2, g3⟩⟩, h3, h4⟩
theorem SlR.each {α : Type} {C : CRel α} {k : Nat} {R : RMap} {v : Value} {xs : List α} (h : SlR C k R v xs) : ∀ x ∈ xs, ∃ es, C R x es := by
 obtain ⟨A, cap, es, _, h2, _⟩ := h
 intro x hx
 obtain ⟨i, hi⟩ := List.getElem?_of_mem hx
 obtain ⟨e, g1, _⟩ := h2.at_ i x hi
 exact ⟨e, g1⟩
theorem add_add (a : Addr) (i j : Nat) (h : a.spot = none) : (a.add i).add j = ⟨a.block, a.off + (i + j), none⟩ := by
 obtain ⟨b, o, s⟩ := a
 cases h
 rw [add_none, add_none, Nat.add_assoc]
theorem ReadR.slice {P : Program} {t e : TypeId} {α : Type} {C : CRel α} {k : Nat} (hs : P.cellsOf t = 1) (ht : P.underlying t = some (.slice e)) (hk : 0 < k) (he : ReadR P e C k) : ReadR P t (CSl C k) 1 := ⟨hs, fun W T enc sp held fuel cs x h => by
 rcases DataW.trod_slice ht h with ⟨rfl, _⟩ | ⟨a, len, cap, elems, rest, n, _, rfl, _, _, hl, _, hlen, hel, _⟩
 ·exact ⟨rfl, [], _, rfl, SlR.nil⟩
 refine ⟨rfl, ?_⟩
 rw [he.size] at hel
 have each : ∀ i : Fin len, ∃ (p : α × List Value), C (heapR W) p.1 p.2 ∧ p.2.length = k ∧ ∀ j w, p.2[j]? = some w → W.cell? ((a.add (i * k)).add j) = some w := fun i => by
  have h1 := hel i i.2
  rw [List.getElem?_eq_getElem (by omega), Option.bind_eq_some_iff] at h1
  obtain ⟨ch, h2, h3⟩ := h1
  obtain ⟨h4, y, hy⟩ := he.rd _ _ _ _ _ _ _ _ h3
  refine ⟨(y, ch), hy, h4, fun j w hj => ?_⟩
  have h5 := (World.cells?_some h2).2.2 j (by have := (List.getElem?_eq_some_iff.1 hj).1; simp only at this; omega)
  rw [h5]
  exact hj
 have hspot : 0 < len → a.spot = none := fun hpos => by
  obtain ⟨p, _, h2, h3⟩ := each ⟨0, hpos⟩
  have h4 := h3 0 p.2[0] (List.getElem?_eq_getElem (by omega))
  simpa [Addr.add] using World.cell?_spot h4
 let f : Fin len → α × List Value := fun i => (each i).choose
 have hf : ∀ i, _ := fun i => (each i).choose_spec
 let xs : List α := List.ofFn fun i => (f i).1
 let es : List Value := (List.range (len * k)).map fun m => (W.cell? ⟨a.block, a.off + m, none⟩).getD undef
 have hxl : xs.length = len := by simp [xs]
 have cell : ∀ i j w (hi : i < len), (f ⟨i, hi⟩).2[j]? = some w → W.cell? ⟨a.block, a.off + (i * k + j), none⟩ = some w := fun i j w hi hj => by
  have := (hf ⟨i, hi⟩).2.2 j w hj
  rwa [add_add _ _ _ (hspot (by omega))] at this
 have idx : ∀ i j, i < len → j < k → i * k + j < len * k := fun i j hi hj => by
  have : (i + 1) * k ≤ len * k := Nat.mul_le_mul_right k hi
  rw [Nat.add_mul] at this
  omega
 refine ⟨xs, _, rfl, some a, cap, es, by rw [hxl], ⟨by simp [es, hxl], fun i x hx => ?_⟩, by omega, fun hne => ?_⟩
 ·have hi : i < len := by rw [← hxl]; exact (List.getElem?_eq_some_iff.1 hx).1
  have hxe : x = (f ⟨i, hi⟩).1 := by
   simp only [xs, List.getElem?_ofFn, hi, dif_pos, Option.some.injEq] at hx
   exact hx.symm
  subst hxe
  refine ⟨(f ⟨i, hi⟩).2, (hf ⟨i, hi⟩).1, (hf ⟨i, hi⟩).2.1, fun j w hj => ?_⟩
  have hjk : j < k := by have := (List.getElem?_eq_some_iff.1 hj).1; rw [(hf ⟨i, hi⟩).2.1] at this; exact this
  simp only [es, List.getElem?_map, List.getElem?_range (idx i j hi hjk), Option.map_some, cell i j w hi hj, Option.getD_some]
 ·have hpos : 0 < len := by rw [← hxl]; exact List.length_pos_iff.2 hne
  obtain ⟨b, o, s⟩ := a
  obtain rfl : s = none := hspot hpos
  have all : ∀ m, m < len * k → ∃ w, W.cell? ⟨b, o + m, none⟩ = some w := fun m hm => by
   have hi : m / k < len := Nat.div_lt_of_lt_mul (by rw [Nat.mul_comm]; exact hm)
   have hj : m % k < (f ⟨m / k, hi⟩).2.length := by rw [(hf ⟨m / k, hi⟩).2.1]; exact Nat.mod_lt _ hk
   have := cell (m / k) (m % k) _ hi (List.getElem?_eq_getElem hj)
   rw [show m / k * k + m % k = m by rw [Nat.mul_comm]; exact Nat.div_add_mod m k] at this
   exact ⟨_, this⟩
  have h0 : ∃ arr e fz, W.heap[b]? = some (.cells arr e fz) := by
   obtain ⟨w, hw⟩ := all 0 (Nat.mul_pos hpos hk)
   unfold World.cell? at hw
   simp only at hw
   split at hw
   ·rename_i c e' fz hb
    exact ⟨c, e', fz, hb⟩
   ·cases hw
  obtain ⟨arr, e', fz, hb⟩ := h0
  refine ⟨b, o, arr, e', fz, rfl, hb, fun j w hj => ?_⟩
  have hjl : j < len * k := by have := (List.getElem?_eq_some_iff.1 hj).1; simpa [es] using this
  obtain ⟨w', hw'⟩ := all j hjl
  simp only [es, List.getElem?_map, List.getElem?_range hjl, Option.map_some, hw', Option.getD_some, Option.some.injEq] at hj
  subst hj
  simpa [World.cell?, hb] using hw'⟩
theorem ReadR.field {P : Program} {t : TypeId} {α : Type} {C : CRel α} {k : Nat} (hC : ReadR P t C k) {W : World} {T : Type} {enc : TypeId × Value → T} {sp : Nat → Bool} {held : Bool} {n : Nat} {cs : List Value} {xs : List (DataW T × List MemPlace)} {i m : Nat} {f : Field} (es : List Value) (hx : xs.length = m)
  (h : DataW.trod enc P W 0 sp held n f.type ((cs.drop f.offset).take (P.cellsOf f.type)) = xs[i]?) (hi : Nat.blt i m = true := by rfl) (hf : f.type = t := by rfl) (he : (cs.drop f.offset).take k = es := by rfl) : ∃ a, C (heapR W) a es := by
 rw [hf, hC.size, he, List.getElem?_eq_getElem (by rw [hx]; simpa [Nat.blt_eq] using hi)] at h
 exact (hC.rd _ _ _ _ _ _ _ _ h).2
theorem trodAll_below {T : Type} {enc : TypeId × Value → T} {P : Program} (hl : laidOutB P = true) {W W' : World} (hb : Below W.heap.size W W') :
  ∀ {ts : List TypeId} {vs : List Value} {ds : List (DataW T)} {ps : List MemPlace}, (ts.all fun t => P.readableRec t && decide (t < P.types.size)) = true → DataW.TrodAll enc P W 0 (fun _ => true) true ts vs ds ps → (∀ x ∈ ps, x.block < W.heap.size) →
   DataW.TrodAll enc P W' 0 (fun b => decide (b < W.heap.size)) true ts vs ds ps
 | [], [], [], _, _, h, _ => h
 | t :: ts, v :: vs, d :: ds, _, hr, ⟨p, q, h1, h2, e⟩, hlt => by
  subst e
  simp only [List.all_cons, Bool.and_eq_true, decide_eq_true_eq] at hr
  exact ⟨p, q, Below.trod hl hr.1.1 hr.1.2 h1 hb (fun x hx => hlt x (by simp [hx])), trodAll_below hl hb hr.2 h2 (fun x hx => hlt x (by simp [hx])), rfl⟩
 | [], [], _ :: _, _, _, h, _ => h.elim
 | [], _ :: _, _, _, _, h, _ => h.elim
 | _ :: _, [], _, _, _, h, _ => h.elim
 | _ :: _, _ :: _, [], _, _, h, _ => h.elim
theorem leaving_of_change_and {T : Type} {enc : TypeId × Value → T} {a : Assume} {C : Checked} {os : Os} {f : FuncId} {fn : Func} {s : ChangeSpec} {conds : List PathCond} {apart fresh handsOn again : Bool} {X : World → Array Value → Prop}
  (hX : ∀ (w w' : World) (args : Array Value), w.heap = w'.heap → X w args → X w' args)
  (own : ownKnob C.prog.godebug = none) (started : os.Started) (hfn : C.prog.funcs[f]? = some fn)
  (witness : ∃ (w : World) (tape : Tape) (i : Input), w.os = os ∧ (w.forCall tape i).Shaped C.prog ∧ i.vars = [] ∧ Input.okWide C.prog (w.forCall tape i) .any w.heap.size f i ∧
   ((s.pre enc C.prog fn conds apart (w.forCall tape i).memory i.args ∧ X (w.forCall tape i).memory i.args) ∧ sizedMet enc C.prog fn (OpenSpec.ofChange s) apart (w.forCall tape i).memory i.args) ∧ a.holds C.prog (lone (Frame.enter C.prog f i.args .normal) [] (w.forCall tape i)))
  (runs : ∀ (W : World) (base : Nat) (args : Array Value) (ds gs : List (DataW T)) (before : List MemPlace),
   (∀ (j : Nat) t v, fn.params[j]? = some t → args[j]? = some v → Value.okWide C.prog W .any base t v) →
   DataW.Whole enc C.prog fn.params.toList s.vars apart W args.toList ds gs before → X W args →
   ∃ M last o w' t', runNT C.prog (M + 1) (solo (gor (Frame.enter C.prog f args .normal) []) W) #[] = (.ended o w', t') ∧ runN C.prog M (solo (gor (Frame.enter C.prog f args .normal) []) W) = .next last ∧
    Go.step C.prog last = .ended o w' ∧ Conc.Good C.prog (fun v W' => s.post enc C.prog fn apart fresh handsOn again W args v W') last o w' t') :
  ReturnsInLeavingWide a C os f .any (fun w args => (s.pre enc C.prog fn conds apart w args ∧ X w args) ∧ sizedMet enc C.prog fn (OpenSpec.ofChange s) apart w args) (s.post enc C.prog fn apart fresh handsOn again) := by
 refine returnsInLeavingWide_of_good own started witness ?_
 intro w tape i _ _ _ hok hpre _
 obtain ⟨_, _, _, fn', hfn', _, _, _, _, hval⟩ := hok
 have e : fn' = fn := Option.some.inj (hfn'.symm.trans hfn)
 subst e
 obtain ⟨⟨⟨ds, gs, before, hw, hc⟩, hx⟩, _⟩ := hpre
 have hw' := DataW.Whole.of_heap (w' := w.forCall tape i) (by rfl) hw
 obtain ⟨M, last, o, w', t', h1, h2, h3, h4⟩ := runs (w.forCall tape i) w.heap.size i.args ds gs before hval hw' (hX _ _ _ (by rfl) hx)
 exact ⟨M, last, o, w', t', h1, h2, h3, h4.mono fun v hp => ChangeSpec.post_blind hp⟩
theorem post_true {T : Type} {enc : TypeId × Value → T} {P : Program} {fn : Func} {s : ChangeSpec} {apart fresh handsOn again : Bool} {W w : World} {args : Array Value} {ds gs : List (DataW T)} {before : List MemPlace} {tb : TypeId}
  (hl : laidOutB P = true) (hr : (fn.params.toList.all fun t => P.readableRec t && decide (t < P.types.size)) = true) (hv : s.vars = []) (hres : fn.resultTypes = #[tb]) (htb : P.underlying tb = some .bool)
  (hW : DataW.Whole enc P fn.params.toList s.vars apart W args.toList ds gs before) (hag : again = false) (hb : Below W.heap.size W w)
  (h1 : (s.fn T (ds ++ [])).results = [.lit (.bool true)]) (h2 : (s.fn T (ds ++ [])).args = ds) (h3 : (s.fn T (ds ++ [])).vars = []) : s.post enc P fn apart fresh handsOn again W args (.bool true) w := by
 have hW' := hW
 have hlt : ∀ x ∈ before, x.block < W.heap.size := fun x hx => by simpa using hW'.lt x hx
 obtain ⟨p, q, hA, hV, e, _, _⟩ := hW
 rw [hv] at hV
 obtain ⟨e1, e2⟩ := trodVars_none hV
 subst e1 e2 e
 refine ⟨ds, [], p ++ [], [], p, [], hW', ?_, ?_, by rw [hv, h3]; rfl, hb.frame _, fun h => by rw [hag] at h; cases h⟩
 ·rw [h1, hres]
  exact trodAll_mk1 (shut_bool htb true)
 ·rw [h2]
  exact trodAll_below hl hb hr hA (fun x hx => hlt x (by simp [hx]))
theorem cell_heapR {W : World} {b o : Nat} {v : Value} (h : W.cell? ⟨b, o, none⟩ = some v) : Cell (heapR W) [] ⟨b, o, none⟩ v := by
 unfold World.cell? at h
 simp only at h
 split at h
 ·rename_i c e fz hb
  exact ⟨rfl, c, e, fz, .inl hb, by simpa using h⟩
 ·cases h
end Go.Lg
