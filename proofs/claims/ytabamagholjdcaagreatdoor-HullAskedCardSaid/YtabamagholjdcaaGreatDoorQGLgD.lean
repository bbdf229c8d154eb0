/- What enters and leaves the machine; the run of a row. Conditions: none. -/
import Derived.Test.YtabamagholjdcaaGreatDoorQGLgB
import Derived.Test.YtabamagholjdcaaGreatDoorQGLgC
import Derived.Conc.EventLaws
import Derived.Conc.LeavingOf
import Derived.Handed
import Derived.LaidMore
import Derived.Below
import Derived.Carry
import Derived.SizedLaws
namespace Go.Lg
open Go.Conc
section
variable {P : Program} {B : Base} {main : Bool} {ah : Jd P B main} {c : Ctx} {R : aA} {H : ak} {st st' : St} {o : Oper} {C : aA → ak → St → Prop} {k : List Item}
theorem Ox.makeChan {t : TypeId} {x : Operand} {dir : ChanDir} {e : TypeId} (hop : o.op = .makeChan t x) (hx : bh st x = some (.int .i64 0)) (hu : P.underlying t = some (.chan dir e)) (hi : ∃ i, P.info? e = some i ∧ i.bytes ≤ 65536) (hd : cg o.dst c.n)
  (hC : ∀ b, R b = none → (∀ y, (b, y) ∉ H) → ∃ st', aF (bS o.dst (.chan (some b)) st) st' ∧ C R ((b, .chan 0 #[] false 0 0 false) :: H) st') : aP P B c o R H st C :=
 Ox.mem (s := λ ρ => Instr.makeChan t (ρ x)) (by rw [hop]; rfl) hd (λ ρ => by simp only [execOp, hop]) (λ ρ hρ => by
  rw [hρ x _ hx]
  unfold Instr.makeChan
  obtain ⟨i, hi1, hi2⟩ := hi
  refine an.cz (a := 0) (an.pure _) (an.cz (an.underlying hu) (an.cz (an.typeInfo hi1) ?_))
  have e1 : ¬ ((0 : Int) < 0 ∨ (0 : Int) > IntKind.i64.max ∨ (i.bytes : Int) * 0 > 2 ^ 48 - 112) := by
   simp only [IntKind.max]
   rintro (h | h | h)
   ·omega
   ·exact absurd h (by decide)
   ·simp at h
  rw [if_neg e1]
  exact aC.bind (aC.new λ b h1 h2 => aC.pure (hC b h1 h2)))
theorem K9 (fn : FuncId) : seen P fn #[] = #[] := rfl
theorem Wz {fr : Frame} {cs : List Frame} {s : Sem Next} {w : World} {cases : Array CommCase} {b : Bool} {shape : CommShape} (hv : an P s (.comm cases b shape)) : stepG.apply P true fr cs none s w = .comm (bt fr cs) cases b shape w #[] := by
 have h := hv w
 simp [stepG.apply, h.1, h.2, bt, GStep.after, K9]
theorem acd {ops : Array Oper} {i : Nat} {rest : List Nat} {x y : Operand} {cc : Nat} {v : Value} {tmps : Array Value} {Nx : aA → ak → Goroutine → Prop} (ho : ops[i]? = some o) (hw : dG ops st o = some true) (hop : o.op = .send x y) (hx : bh st x = some (.chan (some cc))) (hy : bh st y = some v) (hd : cg o.dst c.n) (ht : e6 c.n st tmps)
  (hN : ∀ tmps', e6 c.n (bS o.dst undef st) tmps' → Nx R H (bt (bl c tmps' (.inRegion ops rest :: k)) c.cs)) : Bw P B main cc v Nx (.tuple #[]) R H (bt (bl c tmps (.inRegion ops (i :: rest) :: k)) c.cs) := by
 refine ⟨rfl, λ w _ => ?_, ?_⟩
 ·rw [u9 ho (lU ht hw) (by rw [hop]; rfl)]
  have hk := ht.knows c (.inRegion ops (i :: rest) :: k)
  have : an P (execOp (bl c tmps (.inRegion ops (i :: rest) :: k)).eval o) (.comm #[scase cc v (.tuple #[])] true .send) := by
   simp only [execOp, hop, hk x _ hx, hk y _ hy]; exact an.pure _
  exact Wz this
 ·have := hN _ (ht.put undef hd)
  rw [← rT (rest := rest) (k := k) (c := c) (tmps := tmps) (v := undef) ho] at this
  exact this
theorem Uk {ops : Array Oper} {i : Nat} {rest : List Nat} {x : Operand} {t : TypeId} {fl : Bool} {cc : Nat} {z : Value} {dir : ChanDir} {e : TypeId} {tmps : Array Value} {tI : Value → aA → ak → Goroutine → Prop} {Nl : aA → ak → Goroutine → Prop} (ho : ops[i]? = some o) (hw : dG ops st o = some true) (hop : o.op = .recv t x fl) (hx : bh st x = some (.chan (some cc)))
  (hu : P.underlying t = some (.chan dir e)) (hz : an P (zeroValue e) z) (hd : cg o.dst c.n) (ht : e6 c.n st tmps)
  (hG : ∀ v tmps', e6 c.n (bS o.dst (recvd fl v true) st) tmps' → tI v R H (bt (bl c tmps' (.inRegion ops rest :: k)) c.cs)) (hN : ∀ tmps', e6 c.n (bS o.dst (recvd fl z false) st) tmps' → Nl R H (bt (bl c tmps' (.inRegion ops rest :: k)) c.cs)) :
  AtR P B main cc fl tI Nl z R H (bt (bl c tmps (.inRegion ops (i :: rest) :: k)) c.cs) := by
 refine ⟨rfl, λ w _ => ?_, λ v => ?_, ?_⟩
 ·rw [u9 ho (lU ht hw) (by rw [hop]; rfl)]
  have hk := ht.knows c (.inRegion ops (i :: rest) :: k)
  have : an P (execOp (bl c tmps (.inRegion ops (i :: rest) :: k)).eval o) (.comm #[rcase cc z] true (.recv fl)) := by
   simp only [execOp, hop, hk x _ hx]
   refine an.bind (an.underlying hu) ?_
   refine an.bind hz (an.pure _)
  exact Wz this
 ·have := hG v _ (ht.put _ hd)
  rw [← rT (rest := rest) (k := k) (c := c) (tmps := tmps) ho] at this
  exact this
 ·have := hN _ (ht.put _ hd)
  rw [← rT (rest := rest) (k := k) (c := c) (tmps := tmps) ho] at this
  exact this
def nS (P : Program) : Frame := { (default : Frame) with fn := P.funcs.size, defers := [], mode := .panicking [goexitEntry] }
def I7 (P : Program) (d : Deferred) : Goroutine := { frame := { (default : Frame) with fn := P.funcs.size, defers := [d], mode := .panicking [goexitEntry] }, callers := [], status := .running, dying := none }
theorem ab9 {ops : Array Oper} {i : Nat} {rest : List Nat} {cl : Call} {d : Deferred} {tmps : Array Value} {w : World} (ho : ops[i]? = some o) (hw : dG ops st o = some true) (hop : o.op = .go cl) (ht : e6 c.n st tmps) (hr : ∀ ρ, Knows st ρ → an P (resolve ρ cl o.type) d) (hd : (d.target matches .nil) = false) :
  stepG P main (bt (bl c tmps (.inRegion ops (i :: rest) :: k)) c.cs) w = .spawn (bt (bl c (ez o.dst undef tmps) (.inRegion ops rest :: k)) c.cs) (I7 P d) w #[] := by
 rw [u9 ho (lU ht hw) (by rw [hop]; rfl)]
 have hk := ht.knows c (.inRegion ops (i :: rest) :: k)
 have : an P (execOp (bl c tmps (.inRegion ops (i :: rest) :: k)).eval o) (.spawn d) := by
  simp only [execOp, hop]
  exact an.bind (hr _ hk) (an.pure _)
 have h := this w
 rw [← rT (rest := rest) (k := k) (c := c) (tmps := tmps) (v := undef) ho]
 clear hr this
 obtain ⟨tg, args'⟩ := d
 cases tg <;> simp_all [stepG.apply, bt, GStep.after, K9, I7]
theorem Own.child {K : aA → ak → Goroutine → Prop} {f : FuncId} {args : Array Value} {d : Deferred} (hd : (d.target matches .nil) = false) (hv : an P (invoke d.target d.args) (.enter f args)) (h : Own P B false K R H (bt (Frame.enter P f args .deferred) [nS P])) : Own P B false K R H (I7 P d) := by
 refine (qN P B false K).step rfl λ w hw => ⟨_, w, #[], R, H, ?_, by simp, di.refl hw, h⟩
 have hc : (match d.target with | .collected _ => false | _ => true) = true := by
  cases ht : d.target with
  | collected b =>
   rw [ht] at hv
   have := (hv w).1
   simp [invoke] at this
  | _ => rfl
 have hvw := hv w
 obtain ⟨tg, args'⟩ := d
 simp only at hc hvw hd
 unfold stepG I7
 simp only
 unfold unwind
 cases tg with
 | collected b => cases hc
 | _ => simp_all [callDeferred, Sem.runT_eq, GStep.after, K9, bt, nS]
theorem ack {f : FuncId} {captured args : Array Value} (he : aZ P f) : an P (invoke (.fn (.func f) captured) args) (.enter f (args ++ captured)) := by
 obtain ⟨fn, h1, h2, h3⟩ := he.ex
 simp only [invoke]
 exact Up h1 h2 h3
theorem abI {x : Operand} {cl : Call} {f : FuncId} {cap : Array Value} {t : TypeId} (hc : cl.callee = .value x) (ha : cl.args = #[]) (hx : bh st x = some (.func (.func f) #[] cap)) (ρ : Operand → Value) (hρ : Knows st ρ) : an P (resolve ρ cl t) ⟨.fn (.func f) cap, #[]⟩ := by
 simp only [resolve, hc, ha, hρ x _ hx, Deferred.ofValue]
 have e : (#[] : Array Value) ++ Array.map ρ #[] = #[] := by simp
 rw [e]
 exact an.pure _
theorem countdown {ι : Type} {J : Nat → ι → Jd P B main} {C : Nat → ι → aA → ak → St → Prop} {todo : List Item} (h0 : ∀ a R H st, C 0 a R H st → At (J 0 a) c R H st todo)
  (hs : ∀ n, (∀ a R H st, C n a R H st → At (J n a) c R H st todo) → ∀ a R H st, C (n + 1) a R H st → At (J (n + 1) a) c R H st todo) : ∀ n a R H st, C n a R H st → At (J n a) c R H st todo := by
 intro n
 induction n with
 | zero => exact h0
 | succ n ih => exact hs n ih
theorem abm {K : aA → ak → Goroutine → Prop} {f : FuncId} {fn : Func} {body : Code} {args : List Value} {n : Nat} {kd : CallKind} {cs : List Frame} (hf : P.funcs[f]? = some fn) (hb : fn.body = some body) (hnt : fn.ntmps = n) (hn : Nat.ble args.length n = true)
  (h : At (qN P B main K) ⟨f, kd, none, n, [], cs⟩ R H (BI 0 args) [.code body]) : Own P B main K R H (bt (Frame.enter P f args.toArray kd) cs) := by
 subst hnt
 have hn : args.length ≤ fn.ntmps := by simpa [Nat.ble_eq] using hn
 have := h (args.toArray ++ Array.replicate (fn.ntmps - args.length) undef) ⟨by simp; omega, λ t v ht => ?_⟩
 ·have e : Frame.enter P f args.toArray kd = bl ⟨f, kd, none, fn.ntmps, [], cs⟩ (args.toArray ++ Array.replicate (fn.ntmps - args.length) undef) [.code body] := by
   simp [Frame.enter, bl, hf, hb]
  rw [e]
  exact this
 ·obtain ⟨_, h2⟩ := IN args 0 t v ht
  have hlt : t < args.length := by
   have := (List.getElem?_eq_some_iff.1 h2).1
   simpa using this
  rw [Array.getElem?_append_left (by simpa using hlt)]
  simpa using h2
theorem aAF {fn : Func} (hr : fn.results = #[]) (tmps : Array Value) : an P (results fn tmps) (.tuple #[]) :=
 aBW (st := []) (n := tmps.size) (vs := []) ⟨rfl, λ _ _ h => by cases h⟩ (by rw [hr]; rfl)
theorem abE {f : FuncId} {fn : Func} {n : Nat} {tmps : Array Value} {ops : Array Oper} (hf : P.funcs[f]? = some fn) (hr : fn.results = #[]) : QuitsIn P 5 (bt (bl ⟨f, .deferred, none, n, [], [nS P]⟩ tmps [.inRegion ops []]) [nS P]) := by
 refine .inr ⟨rfl, bt (bl ⟨f, .deferred, none, n, [], [nS P]⟩ tmps []) [nS P], λ w => by simp [stepG, stepG.exec, bt, bl], ?_⟩
 refine .inr ⟨rfl, bt { (bl ⟨f, .deferred, none, n, [], [nS P]⟩ tmps []) with mode := .returning } [nS P], λ w => by simp [stepG, stepG.exec, bt, bl], ?_⟩
 refine .inr ⟨rfl, bt (nS P) [], λ w => ?_, ?_⟩
 ·have h := aAF (P := P) hr tmps w
  simp [stepG, unwind, bt, bl, hf, h.1, h.2, GStep.after, K9, doReturn, nS, goexitEntry]
 refine .inr ⟨rfl, { bt (nS P) [] with status := .finished }, λ w => ?_, .inl rfl⟩
 have e : (default : Frame).todo = [] := rfl
 simp [stepG, unwind, bt, nS, goexitEntry, Frame.catches, e]
theorem aBJ {ops : Array Oper} {i : Nat} {rest : List Nat} {x : Operand} {ts : Array TypeId} {cc n : Nat} {tmps : Array Value} (ho : ops[i]? = some o) (hw : dG ops st o = some true) (hop : o.op = .call ⟨.builtin .close, #[x], ts⟩) (hx : bh st x = some (.chan (some cc))) (Fa : (c.kind == .early) = false) (ht : e6 c.n st tmps)
  (hq : ∀ tmps', QuitsIn P n (bt (bl c tmps' (.inRegion ops rest :: k)) c.cs)) : Vz P B cc R H (bt (bl c tmps (.inRegion ops (i :: rest) :: k)) c.cs) := by
 refine ⟨rfl, by simp [mayWake, bt, bl, ho, hop], _, n, λ w s r tm hwf hc => ?_, hq (ez o.dst (.tuple #[]) tmps)⟩
 rw [u9 ho (lU ht hw) (by rw [hop]; rfl)]
 have hk := ht.knows c (.inRegion ops (i :: rest) :: k)
 have hlt := gD hc
 have e1 : execOp (bl c tmps (.inRegion ops (i :: rest) :: k)).eval o = (do let x ← Builtin.close_ ts o.type #[.chan (some cc)]; pure (.value x)) := by
  simp only [execOp, hop, resolve, invoke, builtin]
  have : (#[x].map (bl c tmps (.inRegion ops (i :: rest) :: k)).eval) = #[.chan (some cc)] := by simp [hk x _ hx]
  rw [this]
  rfl
 have hrun : (execOp (bl c tmps (.inRegion ops (i :: rest) :: k)).eval o).run P w = .ok (.value (.tuple #[])) (w.shut cc s r tm) := by
  rw [e1]
  simp [run_close_open (P := P) (w := w) _ _ hc, World.shut]
 have hev : (execOp (bl c tmps (.inRegion ops (i :: rest) :: k)).eval o).events P w #[] = #[⟨.obj cc, false, true⟩, ⟨.obj cc, true, true⟩] := by
  rw [e1]
  simp [events_close_open (P := P) (w := w) _ _ hc]
 rw [← rT (rest := rest) (k := k) (c := c) (tmps := tmps) (v := .tuple #[]) ho]
 rw [M4 (fr := bl c tmps (.inRegion ops (i :: rest) :: k)) (by simpa [bl] using Fa) hrun, hev]
 simp [seen]
theorem MJ.crowd {Post : Value → World → Prop} {cf cd n : Nat} {H0 : ak} {g : Goroutine} (h : Own P B true (oW P B cf cd (MJ P B Post) n []) R H0 g) :
  MJ P B Post R ((cd, .chan 0 #[] false 0 0 false) :: (cf, .chan 0 #[] false 0 0 false) :: H0) g := by
 intro gs w sl t q h0 hA
 obtain ⟨T, hT⟩ := h
 have hlt := pq h0
 have hf := hA.fits
 have cE := hf.nd
 simp only [List.map_cons, List.nodup_cons, List.mem_cons, not_or, List.mem_map, not_exists] at cE
 have kM : (cf, Obj.chan 0 #[] false 0 0 false) ∈ (cd, Obj.chan 0 #[] false 0 0 false) :: (cf, Obj.chan 0 #[] false 0 0 false) :: H0 := by simp
 have hcd : (cd, Obj.chan 0 #[] false 0 0 false) ∈ (cd, Obj.chan 0 #[] false 0 0 false) :: (cf, Obj.chan 0 #[] false 0 0 false) :: H0 := by simp
 have hm : eM B (only ⟨R, H0⟩) [(cf, .chan 0 #[] false 0 0 false), (cd, .chan 0 #[] false 0 0 false)] w := by
  refine ⟨λ i x hx => ?_, λ i j x y hij hx hy => ?_, λ c o hc => ?_, λ c o hc i x hx => ?_⟩
  ·unfold only at hx; split at hx
   ·cases hx
    exact ⟨hf.r, λ b o hb => hf.h b o (by simp [hb]), cE.2.2, λ b o hb => hf.dj b o (by simp [hb]), hf.os, hf.tape, hf.out⟩
   ·cases hx
  ·unfold only at hx hy; split at hx
   ·split at hy
    ·omega
    ·cases hy
   ·cases hx
  ·simp only [List.mem_cons, List.not_mem_nil, or_false, Prod.mk.injEq] at hc
   rcases hc with ⟨rfl, rfl⟩ | ⟨rfl, rfl⟩
   ·exact hf.h _ _ kM
   ·exact hf.h _ _ hcd
  ·unfold only at hx; split at hx
   ·cases hx
    simp only [List.mem_cons, List.not_mem_nil, or_false, Prod.mk.injEq] at hc
    rcases hc with ⟨rfl, rfl⟩ | ⟨rfl, rfl⟩
    ·exact ⟨hf.dj _ _ kM, λ o' ho' => cE.2.1 (c, o') ⟨ho', rfl⟩⟩
    ·exact ⟨hf.dj _ _ hcd, λ o' ho' => cE.1.2 (c, o') ⟨ho', rfl⟩⟩
   ·cases hx
 have ht : dA (only ⟨R, H0⟩) [(cf, .chan 0 #[] false 0 0 false), (cd, .chan 0 #[] false 0 0 false)] none w.heap.size t := by
  have h' := hA.tr
  have sub : ∀ i x, only ⟨R, H0⟩ i = some x → i = 0 ∧ x = ⟨R, H0⟩ := λ i x hx => by
   unfold only at hx; split at hx
   ·cases hx; exact ⟨‹_›, rfl⟩
   ·cases hx
  refine ⟨λ i x hx b o hb k a hk hab => ?_, λ i x hx b o hb k a hk hab hw => ?_, λ c o hc i x hx k a hk hab => ?_, h'.low, λ k a hk hm => ?_, h'.clean, h'.quiet⟩
  ·obtain ⟨rfl, rfl⟩ := sub i x hx
   exact h'.own 0 _ rfl b o (by simp [show (b, o) ∈ H0 from hb]) k a hk hab
  ·obtain ⟨rfl, rfl⟩ := sub i x hx
   exact h'.read 0 _ rfl b o hb k a hk hab hw
  ·obtain ⟨rfl, rfl⟩ := sub i x hx
   refine .inr (h'.own 0 _ rfl c (.chan 0 #[] false 0 0 false) ?_ k a hk hab)
   simp only [List.mem_cons, List.not_mem_nil, or_false, Prod.mk.injEq] at hc
   rcases hc with ⟨rfl, rfl⟩ | ⟨rfl, rfl⟩
   ·exact kM
   ·exact hcd
  ·rcases h'.all k a hk hm with ⟨j, x, hx, hkn⟩ | ⟨c, p, e, _⟩
   ·unfold only at hx; split at hx
    ·rename_i e; subst e; exact .inl ⟨0, _, rfl, hkn⟩
    ·cases hx
   ·cases e
 refine PI.runs (cf := cf) (cd := cd) (bN := false) (bY := false) (s1 := 0) (s2 := 0) (D := λ i => if i = 0 then .ms n [] (some T) else if i < gs.size then .lv (q i) else .lv 0) (th := only ⟨R, H0⟩) (cA := false) (cls := none) ⟨λ e => cE.1.1 e.symm, hm, ht, λ i x hx => ?_, λ i hi => ?_, ?_, hlt⟩
 ·by_cases hi : i = 0
  ·subst hi
   rw [h0] at hx; cases hx
   exact ⟨⟨_, rfl, .inl ⟨T, rfl, hT⟩⟩, rfl⟩
  ·have hl := pq hx
   simp only [hi, if_false, hl, if_true, only]
   exact ⟨rfl, hA.lv i x (by omega) hx, by omega⟩
 ·have jU : i ≠ 0 := by omega
  have hl : ¬ i < gs.size := by omega
  simp [only, jU, hl]
 ·refine .kY (k := n) (sp := []) (m := some T) rfl ?_ (λ i k m e => ?_) (λ i m e => ?_)
  ·have : ∀ m, vals (λ i => if i = 0 then Dt.ms n [] (some T) else if i < gs.size then .lv (q i) else .lv 0) m = [] := by
    intro m
    induction m with
    | zero => rfl
    | succ m ih =>
     rw [qY, ih]
     by_cases hm : m = 0
     ·subst hm; rfl
     ·simp only [hm, if_false]; split <;> rfl
   rw [this]
  ·split at e
   ·cases e
   ·split at e <;> cases e
  ·split at e
   ·cases e
   ·split at e <;> cases e
end
end Go.Lg
namespace Go.Lg
open Go.Conc Go.ChangeShapes Go.RowKit
section
variable {P : Program} {B : Base} {PW : Value → World → Prop} {R : aA} {H : ak} {st : St} {k : List Item}
theorem MJ.agw {g : Goroutine} (hs : g.status = .running) (h : ∀ w, Fits B R H w → ∃ v w' es R' H', stepG P true g w = .ended (.done v) w' es ∧ (∀ e ∈ es, gq R H w.heap.size w'.heap.size e) ∧ di B R H w R' H' w' ∧ PW v w') : MJ P B PW R H g := by
 refine MJ.pick hs λ gs w sl sl' d t q h0 hA hst => ?_
 obtain ⟨v, w', es, R', H', h1, h2, hu, h3⟩ := h _ hA.fits
 have Ce := runT_many_ended (P := P) (sl := sl') (i := 0) h0 (show stepG P (0 == 0) g (w.at d) = _ from h1)
 have mD := KN hA.mem hA.tr (i := 0) rfl h2 hu g.frame.fn g.frame.place
 rw [TP] at mD
 refine iY.end (hst.trans Ce) ⟨v, rfl, h3, mD.2.clean, handed mD.2, ⟨λ x hx => ?_, rfl⟩, λ j x hx hj => ?_⟩
 ·obtain ⟨j, hj⟩ := List.mem_iff_getElem?.1 hx
  rw [List.getElem?_drop] at hj
  exact ⟨_, (hA.lv (1 + j) x (by omega) (by simpa [Go.Conc.crowd] using hj)).leaves⟩
 ·have hq := hA.lv j x (by omega) hx
  refine ⟨q j, ?_⟩
  rw [mD.2.quiet.deaf]
  exact hq.hears _ 0
def IK (P : Program) (B : Base) (PW : Value → World → Prop) (f : FuncId) (args : Array Value) (R : aA) (H : ak) (Post : Value → aA → ak → Prop) : Prop :=
 (∀ v R' H' w, Post v R' H' → Fits B R' H' w → PW v w) → MJ P B PW R H (bt (Frame.enter P f args .normal) [])
theorem IK.bk {f : FuncId} {fn : Func} {body : Code} {args : List Value} {n : Nat} {Post : Value → aA → ak → Prop} (hf : P.funcs[f]? = some fn) (hb : fn.body = some body) (hnt : fn.ntmps = n) (hn : Nat.ble args.length n = true)
  (h : (∀ v R' H' w, Post v R' H' → Fits B R' H' w → PW v w) → At (GY P B PW) ⟨f, .normal, none, n, [], []⟩ R H (BI 0 args) [.code body]) : IK P B PW f args.toArray R H Post := by
 subst hnt
 intro hk
 have hn : args.length ≤ fn.ntmps := by simpa [Nat.ble_eq] using hn
 have := h hk (args.toArray ++ Array.replicate (fn.ntmps - args.length) undef) ⟨by simp; omega, λ t v ht => ?_⟩
 ·have e : Frame.enter P f args.toArray .normal = bl ⟨f, .normal, none, fn.ntmps, [], []⟩ (args.toArray ++ Array.replicate (fn.ntmps - args.length) undef) [.code body] := by
   simp [Frame.enter, bl, hf, hb]
  rw [e]
  exact this
 ·obtain ⟨_, h2⟩ := IN args 0 t v ht
  have hlt : t < args.length := by
   have := (List.getElem?_eq_some_iff.1 h2).1
   simpa using this
  rw [Array.getElem?_append_left (by simpa using hlt)]
  simpa using h2
theorem At.AK {H' : ak} {f : FuncId} {n : Nat} {fn : Func} {vs : List Value} {Post : Value → aA → ak → Prop} (hf : P.funcs[f]? = some fn) (hi : P.inits.idxOf? f = none) (hr : l9 P R H st fn.results.toList vs) (hs : List.Sublist H' H)
  (hk : ∀ v R' H' w, Post v R' H' → Fits B R' H' w → PW v w) (hp : Post (pG vs) R H') : At (GY P B PW) ⟨f, .normal, none, n, [], []⟩ R H st (.code .ret :: k) := λ tmps ht => by
 refine Jd.ctl (g' := bt { (bl ⟨f, .normal, none, n, [], []⟩ tmps (.code .ret :: k)) with mode := .returning } []) rfl (λ w => by simp [stepG, stepG.exec, bt, bl])
  (MJ.agw rfl λ w hw => ?_)
 obtain ⟨v, w', R', H2, h1, h2, h3, rfl, rfl, rfl⟩ := La (P := P) ht hr w hw
 refine ⟨pG vs, w', seen P f ((results fn tmps).events P w #[]), _, _, ?_, λ e he => h2 e (mem_seen he), h3, hk _ _ _ _ hp (Li hs h3.fits).fits⟩
 simp [stepG, unwind, doReturn, bt, bl, hf, h1, GStep.after, hi]
end
def qm (W : World) : aA := λ b => W.heap[b]?
def IZ (W : World) : Base := ⟨W.os, W.tape, W.output⟩
theorem akK (W : World) : Fits (IZ W) (qm W) [] W := ⟨λ _ _ h => h, by simp, by simp, by simp, rfl, rfl, rfl⟩
theorem azp {P : Program} {PW : Value → World → Prop} {W : World} {g : Goroutine} (h : MJ P (IZ W) PW (qm W) [] g) :
  ∃ M last o w' t', runNT P (M + 1) (solo g W) #[] = (.ended o w', t') ∧ runN P M (solo g W) = .next last ∧ step P last = .ended o w' ∧ Conc.Good P PW last o w' t' := by
 have nt : ∀ k a, touchAt (#[] : Trace) k = some a → False := λ k a hk => by simp [touchAt, Trace.act?] at hk
 refine h #[g] W none #[] (λ _ => 0) rfl ⟨⟨λ i x hx => ?_, λ i j x y hij hx hy => ?_, by simp, by simp⟩, ⟨λ i x hx b o hb k a hk => (nt k a hk).elim, λ i x hx b o hb k a hk => (nt k a hk).elim, by simp, by simp, λ k a hk => (nt k a hk).elim, λ said => ?_, λ op hop => by simp at hop⟩, λ i g' hi hg => ?_⟩
 ·unfold only at hx
  split at hx
  ·cases hx; exact akK W
  ·cases hx
 ·unfold only at hx hy
  split at hx
  ·split at hy
   ·omega
   ·cases hy
  ·cases hx
 ·rintro ⟨i, j, _, ⟨a, b, h1, _⟩, _⟩
  exact nt i a h1
 ·have : i < 1 := (Array.getElem?_eq_some_iff.1 hg).1
  omega
theorem afQ {W w : World} {R : aA} {H : ak} (h : Fits (IZ W) R H w) (hR : aO (qm W) R) : Below W.heap.size W w := by
 have hb : ∀ k, k < W.heap.size → w.heap[k]? = W.heap[k]? := λ k hk => by
  have e : W.heap[k]? = some W.heap[k] := Array.getElem?_eq_getElem hk
  rw [e]
  exact h.r k _ (hR k _ e)
 refine ⟨h.os, h.tape, h.out, ?_, hb⟩
 by_cases hz : W.heap.size = 0
 ·omega
 ·have h1 := hb (W.heap.size - 1) (by omega)
  rw [Array.getElem?_eq_getElem (xs := W.heap) (by omega)] at h1
  have := (Array.getElem?_eq_some_iff.1 h1).1
  omega
structure gu (P : Program) (t : TypeId) {α : Type} (C : cn α) (k : Nat) : Prop where
 size : P.cellsOf t = k
 rd : ∀ (W : World) (T : Type) (enc : TypeId × Value → T) (sp : Nat → Bool) (held : Bool) (fuel : Nat) (cs : List Value) (x : DataW T × List MemPlace), DataW.trod enc P W 0 sp held fuel t cs = some x → cs.length = k ∧ ∃ a, C (qm W) a cs
theorem gu.int {P : Program} {t : TypeId} {kd : IntKind} (hs : P.cellsOf t = 1) (ht : P.underlying t = some (.int kd)) : gu P t (CI kd) 1 := ⟨hs, λ W T enc sp held fuel cs x h => by
 obtain ⟨n, rfl, _, _⟩ := DataW.trod_int ht h
 exact ⟨rfl, n, rfl⟩⟩
theorem gu.str {P : Program} {t : TypeId} (hs : P.cellsOf t = 1) (ht : P.underlying t = some .string) : gu P t CS 1 := ⟨hs, λ W T enc sp held fuel cs x h => by
 obtain ⟨s, rfl, _, _⟩ := DataW.trod_string ht h
 exact ⟨rfl, s, rfl⟩⟩
theorem aeU (a : Addr) (i j : Nat) (h : a.spot = none) : (a.add i).add j = ⟨a.block, a.off + (i + j), none⟩ := by
 obtain ⟨b, o, s⟩ := a
 cases h
 rw [n6, n6, Nat.add_assoc]
theorem gu.slice {P : Program} {t e : TypeId} {α : Type} {C : cn α} {k : Nat} (hs : P.cellsOf t = 1) (ht : P.underlying t = some (.slice e)) (hk : 0 < k) (he : gu P e C k) : gu P t (vH C k) 1 := ⟨hs, λ W T enc sp held fuel cs x h => by
 rcases DataW.trod_slice ht h with ⟨rfl, _⟩ | ⟨a, len, cap, elems, rest, n, _, rfl, _, _, hl, _, hlen, jT, _⟩
 ·exact ⟨rfl, [], _, rfl, az.nil⟩
 refine ⟨rfl, ?_⟩
 rw [he.size] at jT
 have each : ∀ i : Fin len, ∃ (p : α × List Value), C (qm W) p.1 p.2 ∧ p.2.length = k ∧ ∀ j w, p.2[j]? = some w → W.cell? ((a.add (i * k)).add j) = some w := λ i => by
  have h1 := jT i i.2
  rw [List.getElem?_eq_getElem (by omega), Option.bind_eq_some_iff] at h1
  obtain ⟨ch, h2, h3⟩ := h1
  obtain ⟨h4, y, hy⟩ := he.rd _ _ _ _ _ _ _ _ h3
  refine ⟨(y, ch), hy, h4, λ j w hj => ?_⟩
  have h5 := (World.cells?_some h2).2.2 j (by have := (List.getElem?_eq_some_iff.1 hj).1; simp only at this; omega)
  rw [h5]
  exact hj
 have ZF : 0 < len → a.spot = none := λ hpos => by
  obtain ⟨p, _, h2, h3⟩ := each ⟨0, hpos⟩
  have h4 := h3 0 p.2[0] (List.getElem?_eq_getElem (by omega))
  simpa [Addr.add] using World.cell?_spot h4
 let f : Fin len → α × List Value := λ i => (each i).choose
 have hf : ∀ i, _ := λ i => (each i).choose_spec
 let xs : List α := List.ofFn λ i => (f i).1
 let es : List Value := (List.range (len * k)).map λ m => (W.cell? ⟨a.block, a.off + m, none⟩).getD undef
 have Km : xs.length = len := by simp [xs]
 have cell : ∀ i j w (hi : i < len), (f ⟨i, hi⟩).2[j]? = some w → W.cell? ⟨a.block, a.off + (i * k + j), none⟩ = some w := λ i j w hi hj => by
  have := (hf ⟨i, hi⟩).2.2 j w hj
  rwa [aeU _ _ _ (ZF (by omega))] at this
 have idx : ∀ i j, i < len → j < k → i * k + j < len * k := λ i j hi hj => by
  have : (i + 1) * k ≤ len * k := Nat.mul_le_mul_right k hi
  rw [Nat.add_mul] at this
  omega
 refine ⟨xs, _, rfl, some a, cap, es, by rw [Km], ⟨by simp [es, Km], λ i x hx => ?_⟩, by omega, λ hne => ?_⟩
 ·have hi : i < len := by rw [← Km]; exact (List.getElem?_eq_some_iff.1 hx).1
  have hxe : x = (f ⟨i, hi⟩).1 := by
   simp only [xs, List.getElem?_ofFn, hi, dif_pos, Option.some.injEq] at hx
   exact hx.symm
  subst hxe
  refine ⟨(f ⟨i, hi⟩).2, (hf ⟨i, hi⟩).1, (hf ⟨i, hi⟩).2.1, λ j w hj => ?_⟩
  have hjk : j < k := by have := (List.getElem?_eq_some_iff.1 hj).1; rw [(hf ⟨i, hi⟩).2.1] at this; exact this
  simp only [es, List.getElem?_map, List.getElem?_range (idx i j hi hjk), Option.map_some, cell i j w hi hj, Option.getD_some]
 ·have hpos : 0 < len := by rw [← Km]; exact List.length_pos_iff.2 hne
  obtain ⟨b, o, s⟩ := a
  obtain rfl : s = none := ZF hpos
  have all : ∀ m, m < len * k → ∃ w, W.cell? ⟨b, o + m, none⟩ = some w := λ m hm => by
   have hi : m / k < len := Nat.div_lt_of_lt_mul (by rw [Nat.mul_comm]; exact hm)
   have hj : m % k < (f ⟨m / k, hi⟩).2.length := by rw [(hf ⟨m / k, hi⟩).2.1]; exact Nat.mod_lt _ hk
   have := cell (m / k) (m % k) _ hi (List.getElem?_eq_getElem hj)
   rw [show m / k * k + m % k = m by rw [Nat.mul_comm]; exact Nat.div_add_mod m k] at this
   exact ⟨_, this⟩
  have h0 : ∃ arr e fz, W.heap[b]? = some (.cells arr e fz) := by
   obtain ⟨w, hw⟩ := all 0 (Nat.mul_pos hpos hk)
   unfold World.cell? at hw
   simp only at hw
   split at hw
   ·rename_i c e' fz hb
    exact ⟨c, e', fz, hb⟩
   ·cases hw
  obtain ⟨arr, e', fz, hb⟩ := h0
  refine ⟨b, o, arr, e', fz, rfl, hb, λ j w hj => ?_⟩
  have hjl : j < len * k := by have := (List.getElem?_eq_some_iff.1 hj).1; simpa [es] using this
  obtain ⟨w', hw'⟩ := all j hjl
  simp only [es, List.getElem?_map, List.getElem?_range hjl, Option.map_some, hw', Option.getD_some, Option.some.injEq] at hj
  subst hj
  simpa [World.cell?, hb] using hw'⟩
theorem gu.field {P : Program} {t : TypeId} {α : Type} {C : cn α} {k : Nat} (hC : gu P t C k) {W : World} {T : Type} {enc : TypeId × Value → T} {sp : Nat → Bool} {held : Bool} {n : Nat} {cs : List Value} {xs : List (DataW T × List MemPlace)} {i m : Nat} {f : Field} (es : List Value) (hx : xs.length = m)
  (h : DataW.trod enc P W 0 sp held n f.type ((cs.drop f.offset).take (P.cellsOf f.type)) = xs[i]?) (hi : Nat.blt i m = true := by rfl) (hf : f.type = t := by rfl) (he : (cs.drop f.offset).take k = es := by rfl) : ∃ a, C (qm W) a es := by
 rw [hf, hC.size, he, List.getElem?_eq_getElem (by rw [hx]; simpa [Nat.blt_eq] using hi)] at h
 exact (hC.rd _ _ _ _ _ _ _ _ h).2
theorem ace {T : Type} {enc : TypeId × Value → T} {P : Program} (hl : laidOutB P = true) {W W' : World} (hb : Below W.heap.size W W') :
  ∀ {ts : List TypeId} {vs : List Value} {ds : List (DataW T)} {ps : List MemPlace}, (ts.all λ t => P.readableRec t && decide (t < P.types.size)) = true → DataW.TrodAll enc P W 0 (λ _ => true) true ts vs ds ps → (∀ x ∈ ps, x.block < W.heap.size) →
   DataW.TrodAll enc P W' 0 (λ b => decide (b < W.heap.size)) true ts vs ds ps
 | [], [], [], _, _, h, _ => h
 | t :: ts, v :: vs, d :: ds, _, hr, ⟨p, q, h1, h2, e⟩, hlt => by
  subst e
  simp only [List.all_cons, Bool.and_eq_true, decide_eq_true_eq] at hr
  exact ⟨p, q, Below.trod hl hr.1.1 hr.1.2 h1 hb (λ x hx => hlt x (by simp [hx])), ace hl hb hr.2 h2 (λ x hx => hlt x (by simp [hx])), rfl⟩
 | [], [], _ :: _, _, _, h, _ => h.elim
 | [], _ :: _, _, _, _, h, _ => h.elim
 | _ :: _, [], _, _, _, h, _ => h.elim
 | _ :: _, _ :: _, [], _, _, h, _ => h.elim
theorem axf {T : Type} {enc : TypeId × Value → T} {a : Assume} {C : Checked} {os : Os} {f : FuncId} {fn : Func} {s : ChangeSpec} {conds : List PathCond} {apart fresh handsOn again : Bool} {X : World → Array Value → Prop}
  (hX : ∀ (w w' : World) (args : Array Value), w.heap = w'.heap → X w args → X w' args)
  (own : ownKnob C.prog.godebug = none) (started : os.Started) (hfn : C.prog.funcs[f]? = some fn)
  (witness : ∃ (w : World) (tape : Tape) (i : Input), w.os = os ∧ (w.forCall tape i).Shaped C.prog ∧ i.vars = [] ∧ Input.okWide C.prog (w.forCall tape i) .any w.heap.size f i ∧
   ((s.pre enc C.prog fn conds apart (w.forCall tape i).memory i.args ∧ X (w.forCall tape i).memory i.args) ∧ sizedMet enc C.prog fn (OpenSpec.ofChange s) apart (w.forCall tape i).memory i.args) ∧ a.holds C.prog (lone (Frame.enter C.prog f i.args .normal) [] (w.forCall tape i)))
  (runs : ∀ (W : World) (base : Nat) (args : Array Value) (ds gs : List (DataW T)) (before : List MemPlace),
   (∀ (j : Nat) t v, fn.params[j]? = some t → args[j]? = some v → Value.okWide C.prog W .any base t v) →
   DataW.Whole enc C.prog fn.params.toList s.vars apart W args.toList ds gs before → X W args →
   ∃ M last o w' t', runNT C.prog (M + 1) (solo (bt (Frame.enter C.prog f args .normal) []) W) #[] = (.ended o w', t') ∧ runN C.prog M (solo (bt (Frame.enter C.prog f args .normal) []) W) = .next last ∧
    Go.step C.prog last = .ended o w' ∧ Conc.Good C.prog (λ v W' => s.post enc C.prog fn apart fresh handsOn again W args v W') last o w' t') :
  ReturnsInLeavingWide a C os f .any (λ w args => (s.pre enc C.prog fn conds apart w args ∧ X w args) ∧ sizedMet enc C.prog fn (OpenSpec.ofChange s) apart w args) (s.post enc C.prog fn apart fresh handsOn again) := by
 refine returnsInLeavingWide_of_good own started witness ?_
 intro w tape i _ _ _ hok hpre _
 obtain ⟨_, _, _, fn', ak6, _, _, _, _, hval⟩ := hok
 have e : fn' = fn := Option.some.inj (ak6.symm.trans hfn)
 subst e
 obtain ⟨⟨⟨ds, gs, before, hw, hc⟩, hx⟩, _⟩ := hpre
 have hw' := DataW.Whole.of_heap (w' := w.forCall tape i) (by rfl) hw
 obtain ⟨M, last, o, w', t', h1, h2, h3, h4⟩ := runs (w.forCall tape i) w.heap.size i.args ds gs before hval hw' (hX _ _ _ (by rfl) hx)
 exact ⟨M, last, o, w', t', h1, h2, h3, h4.mono λ v hp => ChangeSpec.post_blind hp⟩
theorem aAn {T : Type} {enc : TypeId × Value → T} {P : Program} {fn : Func} {s : ChangeSpec} {apart fresh handsOn again : Bool} {W w : World} {args : Array Value} {ds gs : List (DataW T)} {before : List MemPlace} {tb : TypeId}
  (hl : laidOutB P = true) (hr : (fn.params.toList.all λ t => P.readableRec t && decide (t < P.types.size)) = true) (hv : s.vars = []) (hres : fn.resultTypes = #[tb]) (htb : P.underlying tb = some .bool)
  (hW : DataW.Whole enc P fn.params.toList s.vars apart W args.toList ds gs before) (hag : again = false) (hb : Below W.heap.size W w)
  (h1 : (s.fn T (ds ++ [])).results = [.lit (.bool true)]) (h2 : (s.fn T (ds ++ [])).args = ds) (h3 : (s.fn T (ds ++ [])).vars = []) : s.post enc P fn apart fresh handsOn again W args (.bool true) w := by
 have JN := hW
 have hlt : ∀ x ∈ before, x.block < W.heap.size := λ x hx => by simpa using JN.lt x hx
 obtain ⟨p, q, hA, hV, e, _, _⟩ := hW
 rw [hv] at hV
 obtain ⟨e1, e2⟩ := trodVars_none hV
 subst e1 e2 e
 refine ⟨ds, [], p ++ [], [], p, [], JN, ?_, ?_, by rw [hv, h3]; rfl, hb.frame _, λ h => by rw [hag] at h; cases h⟩
 ·rw [h1, hres]
  exact trodAll_mk1 (shut_bool htb true)
 ·rw [h2]
  exact ace hl hb hr hA (λ x hx => hlt x (by simp [hx]))
theorem agf {W : World} {b o : Nat} {v : Value} (h : W.cell? ⟨b, o, none⟩ = some v) : Cell (qm W) [] ⟨b, o, none⟩ v := by
 unfold World.cell? at h
 simp only at h
 split at h
 ·rename_i c e fz hb
  exact ⟨rfl, c, e, fz, .inl hb, by simpa using h⟩
 ·cases h
end Go.Lg
