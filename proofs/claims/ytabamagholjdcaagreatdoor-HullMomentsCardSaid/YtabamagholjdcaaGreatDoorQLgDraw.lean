/- The logic, on: a region whose order of evaluation Go leaves open; loops; what one owns is let go, or known for good. Conditions: none; over any program. -/
import Derived.Test.YtabamagholjdcaaGreatDoorQLgMem
import Derived.Orders
namespace Go.Lg
open Go.Conc
def RLe (R R' : RMap) : Prop := ∀ b o, R b = some o → R' b = some o
theorem RLe.refl (R : RMap) : RLe R R := fun _ _ h => h
theorem RLe.trans {R R' R'' : RMap} (h : RLe R R') (k : RLe R' R'') : RLe R R'' := fun b o x => k b o (h b o x)
section
variable {P : Program} {B : Base} {main : Bool} (𝒥 : Jd P B main)
def OpStep (c : Ctx) (S : HList) (ops : Array Oper) (i : Nat) (tmps : Array Value) (R : RMap) (H : HList) (K : Array Value → RMap → HList → Prop) : Prop :=
 ∃ o, ops[i]? = some o ∧ isDefer o.op = false ∧
  ((Region.wanted o (yielded ops tmps) = false ∧ K (putT o.dst undef tmps) R H) ∨
   (Region.wanted o (yielded ops tmps) = true ∧
   ((SemOk P B R H (execOp (frm c tmps []).eval o) fun nx R' H' => ∃ v, (nx = .value v ∨ (nx = .skip ∧ v = undef)) ∧ RLe R R' ∧ (∀ p ∈ S, p ∈ H → p ∈ H') ∧ K (putT o.dst v tmps) R' H') ∨
    (∃ f args, Val P (execOp (frm c tmps []).eval o) (.enter f args) ∧ FnOk 𝒥 f args R H fun v R' H' => RLe R R' ∧ (∀ p ∈ S, p ∈ H → p ∈ H') ∧ K (putT o.dst v tmps) R' H'))))
theorem J.given {R : RMap} {H : HList} {g : Goroutine} (hs : g.status = .running) (h : (∃ w, Fits B R H w) → 𝒥.J R H g) : 𝒥.J R H g := by
 by_cases hw : ∃ w, Fits B R H w
 ·exact h hw
 ·exact 𝒥.step hs fun w hf => absurd ⟨w, hf⟩ hw
def readyR (ops : Array Oper) (rem : List Nat) (i : Nat) : Bool := match ops[i]? with
 | some o => o.after.all fun e => !Region.binds .any e || !rem.contains e.on
 | none => false
def anyR (c : Ctx) (S : Nat → HList) (ops : Array Oper) (Q : Array Value → RMap → HList → Prop) : Nat → List Nat → Array Value → RMap → HList → Prop
 | 0, rem, t, R, H => rem = [] ∧ Q t R H
 | n + 1, rem, t, R, H => (rem = [] ∧ Q t R H) ∨ (rem ≠ [] ∧ ((∃ w, Fits B R H w) → ∀ i ∈ rem, readyR ops rem i = true → OpStep 𝒥 c (S i) ops i t R H fun t' R' H' => anyR c S ops Q n (rem.erase i) t' R' H'))
variable {𝒥}
def backward (ops : Array Oper) : Bool := (List.range ops.size).all fun i => match ops[i]? with
 | some o => o.after.all fun e => !Region.binds .any e || decide (e.on < i)
 | none => true
theorem eval_frm (c : Ctx) (tmps : Array Value) (todo : List Item) : (frm c tmps todo).eval = (frm c tmps []).eval := by
 funext x; cases x <;> rfl
theorem J_opstep {c : Ctx} {S : HList} {ops : Array Oper} {i : Nat} {rest : List Nat} {k : List Item} {tmps : Array Value} {R : RMap} {H : HList} {K : Array Value → RMap → HList → Prop} (hk : (c.kind == CallKind.early) = false) (h : OpStep 𝒥 c S ops i tmps R H K)
  (hK : ∀ t R' H', K t R' H' → 𝒥.J R' H' (gor (frm c t (.inRegion ops rest :: k)) c.cs)) : 𝒥.J R H (gor (frm c tmps (.inRegion ops (i :: rest) :: k)) c.cs) := by
 obtain ⟨o, ho, hd, h⟩ := h
 have hke : (frm c tmps (.inRegion ops (i :: rest) :: k)).kind ≠ .early := by show c.kind ≠ _; simpa using hk
 rcases h with ⟨h1, h2⟩ | ⟨h1, h2 | ⟨f, args, h2, h3⟩⟩
 ·exact Jd.ctl rfl (fun w => stepG_unwanted' ho h1) (hK _ _ _ h2)
 ·refine 𝒥.step rfl fun w hwf => ?_
  obtain ⟨nx, w', R', H', e1, e2, e3, v, hv, _, _, hKK⟩ := h2 w hwf
  refine ⟨gor (frm c (putT o.dst v tmps) (.inRegion ops rest :: k)) c.cs, w', seen P c.fn ((execOp (frm c tmps []).eval o).events P w #[]), R', H', ?_, fun e he => e2 e (mem_seen he), e3, hK _ _ _ hKK⟩
  rw [stepG_oper' ho h1 hd, ← finish_frm (rest := rest) (k := k) (c := c) (tmps := tmps) (v := v) ho, eval_frm]
  rcases hv with rfl | ⟨rfl, rfl⟩
  ·exact apply_value hke e1
  ·exact apply_skip hke e1
 ·refine 𝒥.step rfl fun w hwf => ?_
  have hv := h2 w
  refine ⟨gor (Frame.enter P f args .normal) (frm c tmps (.inRegion ops (i :: rest) :: k) :: c.cs), w, seen P c.fn ((execOp (frm c tmps []).eval o).events P w #[]), R, H, ?_, ?_, Upd.refl hwf, h3 _ _ fun v R' H' hp => ?_⟩
  ·rw [stepG_oper' ho h1 hd, eval_frm]
   exact apply_enter rfl hke hv.1
  ·intro e hee
   have := mem_seen hee
   rw [hv.2] at this
   simp at this
  ·rw [finish_frm ho]
   exact hK _ _ _ hp.2.2
def Agree (ops : Array Oper) (listed : Array Bool) (rem : List Nat) : Prop := listed.size = ops.size ∧ rem.Nodup ∧ (∀ i, i ∈ rem ↔ (i < ops.size ∧ listed.getD i true = false))
theorem getD_set {listed : Array Bool} {i j : Nat} {d : Bool} (hi : i < listed.size) : (listed.setIfInBounds i true).getD j d = if i = j then true else listed.getD j d := by
 simp only [Array.getD_eq_getD_getElem?]
 by_cases h : i = j
 ·subst h; simp [hi]
 ·rw [if_neg h, Array.getElem?_setIfInBounds_ne h]
theorem Agree.erase {ops : Array Oper} {listed : Array Bool} {rem : List Nat} (h : Agree ops listed rem) {i : Nat} (hi : i ∈ rem) : Agree ops (listed.setIfInBounds i true) (rem.erase i) := by
 obtain ⟨h1, h2, h3⟩ := h
 have hlt : i < listed.size := by rw [h1]; exact ((h3 i).1 hi).1
 refine ⟨by simp [h1], h2.erase _, fun j => ?_⟩
 rw [h2.mem_erase_iff, h3 j, getD_set hlt]
 by_cases e : i = j
 ·subst e; simp
 ·simp [e, Ne.symm e]
theorem least_mem : ∀ (l : List Nat), l ≠ [] → ∃ m ∈ l, ∀ x ∈ l, m ≤ x
 | [], h => absurd rfl h
 | [a], _ => ⟨a, by simp, by simp⟩
 | a :: b :: r, _ => by
  obtain ⟨m, hm, hl⟩ := least_mem (b :: r) (by simp)
  by_cases h : a ≤ m
  ·exact ⟨a, by simp, fun x hx => by
    rcases List.mem_cons.1 hx with rfl | hx
    ·exact Nat.le_refl _
    ·exact Nat.le_trans h (hl x hx)⟩
  ·exact ⟨m, List.mem_cons_of_mem _ hm, fun x hx => by
    rcases List.mem_cons.1 hx with rfl | hx
    ·omega
    ·exact hl x hx⟩
theorem J_linearise {c : Ctx} {S : Nat → HList} {ops : Array Oper} {k : List Item} {Q : Array Value → RMap → HList → Prop} (hk : (c.kind == CallKind.early) = false) (hb : backward ops = true)
  (hQ : ∀ t R H, Q t R H → 𝒥.J R H (gor (frm c t k) c.cs)) : ∀ (fuel t : Nat) (listed : Array Bool) (acc : List Nat) (rem : List Nat) (tmps : Array Value) (R : RMap) (H : HList), Agree ops listed rem → rem.length ≤ fuel →
   anyR 𝒥 c S ops Q fuel rem tmps R H → ∃ is, Region.linearise.go .any ops fuel t listed acc = acc.reverse ++ is ∧ 𝒥.J R H (gor (frm c tmps (.inRegion ops is :: k)) c.cs)
 | 0, t, listed, acc, rem, tmps, R, H, _, _, h => ⟨[], by simp [Region.linearise.go], Jd.ctl rfl (fun w => by simp [stepG, stepG.exec, gor, frm]) (hQ _ _ _ h.2)⟩
 | fuel + 1, t, listed, acc, rem, tmps, R, H, hA, hl, h => by
  generalize hrs : ((List.range ops.size).filter fun i => !listed.getD i true && ((ops[i]?).map (·.after.all fun e => !Region.binds .any e || listed.getD e.on false)).getD false) = rs
  have hmem : ∀ i, i ∈ rs → i ∈ rem ∧ readyR ops rem i = true := by
   intro i hi
   rw [← hrs] at hi
   simp only [List.mem_filter, List.mem_range, Bool.and_eq_true, Bool.not_eq_true'] at hi
   obtain ⟨h1, h2, h3⟩ := hi
   refine ⟨(hA.2.2 i).2 ⟨h1, h2⟩, ?_⟩
   unfold readyR
   cases ho : ops[i]? with
   | none => simp [ho] at h3
   | some o =>
    simp only [ho, Option.map_some, Option.getD_some, Array.all_eq_true_iff_forall_mem] at h3 ⊢
    intro e he
    have := h3 e he
    rcases Bool.or_eq_true_iff.1 this with x | x
    ·simp [x]
    ·have hn : e.on ∉ rem := fun hm => by
      have := ((hA.2.2 e.on).1 hm).2
      have hlt : e.on < listed.size := by rw [hA.1]; exact ((hA.2.2 e.on).1 hm).1
      simp only [Array.getD_eq_getD_getElem?, Array.getElem?_eq_getElem hlt, Option.getD_some] at this x
      rw [x] at this; cases this
     simp [hn]
  rcases h with ⟨rfl, hq⟩ | ⟨hne, hall⟩
  ·have hrs0 : rs = [] := by
    cases rs with
    | nil => rfl
    | cons a r => exact absurd (hmem a (by simp)).1 (by simp)
   refine ⟨[], ?_, Jd.ctl rfl (fun w => by simp [stepG, stepG.exec, gor, frm]) (hQ _ _ _ hq)⟩
   unfold Region.linearise.go
   simp only [hrs, hrs0]
   simp
  ·
   have hrsne : rs ≠ [] := by
    obtain ⟨m, hm, hleast⟩ := least_mem rem hne
    have hmlt := ((hA.2.2 m).1 hm).1
    have : m ∈ rs := by
     rw [← hrs]
     simp only [List.mem_filter, List.mem_range, Bool.and_eq_true, Bool.not_eq_true']
     refine ⟨hmlt, ((hA.2.2 m).1 hm).2, ?_⟩
     have ho : ops[m]? = some ops[m] := Array.getElem?_eq_getElem hmlt
     simp only [ho, Option.map_some, Option.getD_some, Array.all_eq_true_iff_forall_mem]
     intro e he
     unfold backward at hb
     rw [List.all_eq_true] at hb
     have hb' := hb m (List.mem_range.2 hmlt)
     simp only [ho, Array.all_eq_true_iff_forall_mem] at hb'
     rcases Bool.or_eq_true_iff.1 (hb' e he) with x | x
     ·simp [x]
     ·have hlt : e.on < m := by simpa using x
      have hn : e.on ∉ rem := fun hm' => by have := hleast _ hm'; omega
      have hl' : e.on < listed.size := by rw [hA.1]; omega
      have h1 : listed.getD e.on true = true := by
       cases hh : listed.getD e.on true with
       | true => rfl
       | false => exact absurd ((hA.2.2 e.on).2 ⟨by omega, hh⟩) hn
      simp only [Array.getD_eq_getD_getElem?, Array.getElem?_eq_getElem hl', Option.getD_some] at h1 ⊢
      simp [h1]
    intro e; rw [e] at this; cases this
   have hlen : t % rs.length < rs.length := Nat.mod_lt _ (by
    cases rs with
    | nil => exact absurd rfl hrsne
    | cons _ _ => simp)
   have hi : rs[t % rs.length]? = some rs[t % rs.length] := List.getElem?_eq_getElem hlen
   generalize rs[t % rs.length] = i at hi
   obtain ⟨hir, hrd⟩ := hmem i (List.mem_of_getElem? hi)
   have hstep := fun hw => hall hw i hir hrd
   have hlt : (rem.erase i).length ≤ fuel := by rw [List.length_erase_of_mem hir]; omega
   have hgo : ∀ acc', ∃ is, Region.linearise.go .any ops fuel (t / rs.length) (listed.setIfInBounds i true) acc' = acc'.reverse ++ is := fun acc' => ⟨_, linearise_go_acc .any ops fuel (t / rs.length) (listed.setIfInBounds i true) acc'⟩
   obtain ⟨is, his⟩ := hgo (i :: acc)
   refine ⟨i :: is, ?_, ?_⟩
   ·rw [Region.linearise.go]
    simp only [hrs, hi]
    rw [his]; simp
   ·refine J.given 𝒥 rfl fun hw => ?_
    refine J_opstep hk (hstep hw) fun t' R' H' hK => ?_
    obtain ⟨is', h1, h2⟩ := J_linearise hk hb hQ fuel (t / rs.length) (listed.setIfInBounds i true) (i :: acc) (rem.erase i) t' R' H' (hA.erase hir) hlt hK
    rw [his] at h1
    have : is = is' := by simpa using h1
    rw [this]; exact h2
end
section
variable {P : Program} {B : Base} {main : Bool} {𝒥 : Jd P B main}
def noSelect (o : Oper) : Bool := match o.op with | .select _ _ => false | _ => true
def looks (ops : Array Oper) (o : Oper) : List Nat :=
 (o.op.operands.toList.filterMap fun | .tmp t => some t | _ => none) ++ (match o.guard with | some (j, _) => ((ops[j]?).bind (·.dst)).toList | none => [])
def apartR (ops : Array Oper) (a b : Oper) : Bool :=
 (match a.dst with | some d => !(looks ops b).contains d && b.dst != some d | none => true) && (match b.dst with | some d => !(looks ops a).contains d | none => true)
theorem putT_comm {a b : Option Tmp} {v u : Value} {t : Array Value} (h : ∀ d, a = some d → b ≠ some d) : putT a v (putT b u t) = putT b u (putT a v t) := by
 cases a with
 | none => rfl
 | some x => cases b with
  | none => rfl
  | some y =>
   have hne : x ≠ y := fun e => h x rfl (by rw [e])
   simp only [putT]
   exact Array.setIfInBounds_comm u v (Ne.symm hne)
theorem eval_putT {c : Ctx} {t : Array Value} {dst : Option Tmp} {v : Value} {x : Operand} (h : ∀ d, dst = some d → x ≠ .tmp d) : (frm c (putT dst v t) []).eval x = (frm c t []).eval x := by
 cases dst with
 | none => rfl
 | some d => cases x with
  | tmp y =>
   have hne : d ≠ y := fun e => h d rfl (by rw [e])
   simp only [frm, Frame.eval, putT, Array.getD_eq_getD_getElem?]
   rw [Array.getElem?_setIfInBounds_ne hne]
  | _ => rfl
theorem exec_putT {c : Ctx} {ops : Array Oper} {t : Array Value} {dst : Option Tmp} {v : Value} {o : Oper} (hs : noSelect o = true) (h : ∀ d, dst = some d → d ∉ looks ops o) : execOp (frm c (putT dst v t) []).eval o = execOp (frm c t []).eval o := by
 refine execOp_congr o (fun cs b e => by rw [noSelect, e] at hs; cases hs) fun x hx => eval_putT fun d hd e => h d hd ?_
 subst e
 unfold looks
 exact List.mem_append_left _ (List.mem_filterMap.2 ⟨_, Array.mem_toList_iff.2 hx, rfl⟩)
theorem wanted_putT {ops : Array Oper} {t : Array Value} {dst : Option Tmp} {v : Value} {o : Oper} (h : ∀ d, dst = some d → d ∉ looks ops o) : Region.wanted o (yielded ops (putT dst v t)) = Region.wanted o (yielded ops t) := by
 unfold Region.wanted
 cases hg : o.guard with
 | none => rfl
 | some g =>
  obtain ⟨j, want⟩ := g
  simp only [yielded]
  cases hd : (ops[j]?).bind (·.dst) with
  | none => rfl
  | some d =>
   simp only [Option.bind_some]
   cases dst with
   | none => rfl
   | some d' =>
    have hne : d' ≠ d := fun e => h d' rfl (by
     subst e
     unfold looks
     rw [hg]
     exact List.mem_append_right _ (by simp [hd]))
    simp only [putT]
    rw [Array.getElem?_setIfInBounds_ne hne]
theorem apart_looks {ops : Array Oper} {a b : Oper} (h : apartR ops a b = true) : (∀ d, a.dst = some d → d ∉ looks ops b ∧ b.dst ≠ some d) ∧ (∀ d, b.dst = some d → d ∉ looks ops a) := by
 unfold apartR at h
 rw [Bool.and_eq_true] at h
 refine ⟨fun d hd => ?_, fun d hd => ?_⟩
 ·rw [hd] at h; simpa using h.1
 ·rw [hd] at h; simpa using h.2
theorem OpStep.putT {c : Ctx} {S : HList} {ops : Array Oper} {j : Nat} {oi oj : Oper} {t : Array Value} {v : Value} {R : RMap} {H : HList} {K1 K : Array Value → RMap → HList → Prop} (hj : ops[j]? = some oj) (hs : noSelect oj = true) (hap : apartR ops oi oj = true) {F : HList} (hS : ∀ p ∈ F, p ∈ H) (hFS : ∀ p ∈ F, p ∈ S)
  (h : OpStep 𝒥 c S ops j (putT oi.dst v t) R H K1) (hK : ∀ u R' H', RLe R R' → (∀ p ∈ F, p ∈ H') → K1 (Go.Lg.putT oj.dst u (Go.Lg.putT oi.dst v t)) R' H' → K (Go.Lg.putT oj.dst u t) R' H') : OpStep 𝒥 c S ops j t R H K := by
 obtain ⟨h1, h2⟩ := apart_looks hap
 obtain ⟨o, ho, hd, h⟩ := h
 obtain rfl : o = oj := Option.some.inj (ho.symm.trans hj)
 rw [wanted_putT (fun d hd => (h1 d hd).1), exec_putT hs (fun d hd => (h1 d hd).1)] at h
 refine ⟨o, ho, hd, ?_⟩
 rcases h with ⟨a, b⟩ | ⟨a, b | ⟨f, args, b, b'⟩⟩
 ·exact .inl ⟨a, hK _ _ _ (RLe.refl _) hS b⟩
 ·exact .inr ⟨a, .inl (b.mono fun nx R' H' ⟨u, x, y, z, hk⟩ => ⟨u, x, y, z, hK _ _ _ y (fun p hp => z p (hFS p hp) (hS p hp)) hk⟩)⟩
 ·exact .inr ⟨a, .inr ⟨f, args, b, b'.mono fun u R' H' ⟨y, z, hk⟩ => ⟨y, z, hK _ _ _ y (fun p hp => z p (hFS p hp) (hS p hp)) hk⟩⟩⟩
def Floats (P : Program) (B : Base) (S : HList) (R : RMap) (ρ : Operand → Value) (o : Oper) (v : Value) : Prop :=
 ∀ R' H', RLe R R' → (∀ p ∈ S, p ∈ H') → SemOk P B R' H' (execOp ρ o) fun nx R'' H'' => (nx = .value v ∨ (nx = .skip ∧ v = undef)) ∧ R'' = R' ∧ H'' = H'
def takeOk (ops : Array Oper) (rem : List Nat) (i : Nat) (D : List Nat) : Bool :=
 rem.contains i && readyR ops rem i && !D.contains i && D.all (fun j => rem.contains j && match ops[j]? with | some o => o.after.any fun e => Region.binds .any e && (e.on == i || D.contains e.on) | none => false) &&
 (match ops[i]? with | some oi => noSelect oi && rem.all (fun j => j == i || D.contains j || match ops[j]? with | some oj => noSelect oj && apartR ops oi oj | none => false) | none => false)
theorem takeOk_erase {ops : Array Oper} {rem : List Nat} {i j : Nat} {D : List Nat} (h : takeOk ops rem i D = true) (hji : j ≠ i) (hjD : j ∉ D) : takeOk ops (rem.erase j) i D = true := by
 unfold takeOk at h ⊢
 simp only [Bool.and_eq_true, Bool.not_eq_true', List.all_eq_true, List.contains_iff_mem] at h ⊢
 obtain ⟨⟨⟨⟨h1, h2⟩, h3⟩, h4⟩, h5⟩ := h
 refine ⟨⟨⟨⟨(List.mem_erase_of_ne (Ne.symm hji)).2 h1, ?_⟩, h3⟩, fun x hx => ⟨(List.mem_erase_of_ne (fun e => hjD (by rw [← e]; exact hx))).2 (h4 x hx).1, (h4 x hx).2⟩⟩, ?_⟩
 ·unfold readyR at h2 ⊢
  cases ho : ops[i]? with
  | none => simp [ho] at h2
  | some o =>
   simp only [ho, Array.all_eq_true_iff_forall_mem] at h2 ⊢
   intro e he
   have := h2 e he
   rcases Bool.or_eq_true_iff.1 this with x | x
   ·simp [x]
   ·have hn : e.on ∉ rem := by simpa using x
    have : e.on ∉ rem.erase j := fun hm => hn (List.mem_of_mem_erase hm)
    simp [this]
 ·cases ho : ops[i]? with
  | none => simp [ho] at h5
  | some oi =>
   simp only [ho, Bool.and_eq_true, List.all_eq_true] at h5 ⊢
   exact ⟨h5.1, fun x hx => h5.2 x (List.mem_of_mem_erase hx)⟩
theorem anyR_take {c : Ctx} {S : Nat → HList} {ops : Array Oper} {Q : Array Value → RMap → HList → Prop} {i : Nat} {oi : Oper} {D : List Nat} {N : HList} {v : Value} (hi : ops[i]? = some oi) (hd : isDefer oi.op = false) : ∀ (n : Nat) (rem : List Nat) (t : Array Value) (R : RMap) (H : HList),
  takeOk ops rem i D = true → rem.Nodup → (∀ p ∈ N, p ∈ H) → (∀ j ∈ rem, j ≠ i → j ∉ D → ∀ p ∈ N, p ∈ S j) → ((Region.wanted oi (yielded ops t) = true ∧ Floats P B N R (frm c t []).eval oi v) ∨ (Region.wanted oi (yielded ops t) = false ∧ v = undef)) → anyR 𝒥 c S ops Q n (rem.erase i) (putT oi.dst v t) R H → anyR 𝒥 c S ops Q (n + 1) rem t R H := by
 intro n
 induction n with
 | zero =>
  intro rem t R H htk hnd hS hSS hwf h
  unfold takeOk at htk
  simp only [Bool.and_eq_true, List.contains_iff_mem] at htk
  have hmem : i ∈ rem := htk.1.1.1.1
  refine .inr ⟨(fun e => by rw [e] at hmem; cases hmem), fun _ j hj _ => ?_⟩
  have hji : j = i := by
   by_cases e : j = i
   ·exact e
   ·exact absurd ((List.mem_erase_of_ne e).2 hj) (by rw [h.1]; simp)
  subst hji
  rcases hwf with ⟨hw, hf⟩ | ⟨hw, rfl⟩
  ·exact ⟨oi, hi, hd, .inr ⟨hw, .inl ((hf R H (RLe.refl _) hS).mono fun nx R' H' ⟨e1, e2, e3⟩ => by subst e2 e3; exact ⟨v, e1, RLe.refl _, (fun _ _ h => h), h⟩)⟩⟩
  ·exact ⟨oi, hi, hd, .inl ⟨hw, h⟩⟩
 | succ n ih =>
  intro rem t R H htk hnd hS hSS hwf h
  have htk0 := htk
  unfold takeOk at htk
  simp only [Bool.and_eq_true, List.contains_iff_mem, Bool.not_eq_true', List.all_eq_true] at htk
  obtain ⟨⟨⟨⟨hmem, hrdy⟩, hiD⟩, hD⟩, hall⟩ := htk
  rw [hi] at hall
  simp only [Bool.and_eq_true, List.all_eq_true] at hall
  obtain ⟨hnosel, hall⟩ := hall
  refine .inr ⟨(fun e => by rw [e] at hmem; cases hmem), fun hww j hj hjr => ?_⟩
  by_cases hji : j = i
  ·subst hji
   rcases hwf with ⟨hw, hf⟩ | ⟨hw, rfl⟩
   ·exact ⟨oi, hi, hd, .inr ⟨hw, .inl ((hf R H (RLe.refl _) hS).mono fun nx R' H' ⟨e1, e2, e3⟩ => by subst e2 e3; exact ⟨v, e1, RLe.refl _, (fun _ _ h => h), h⟩)⟩⟩
   ·exact ⟨oi, hi, hd, .inl ⟨hw, h⟩⟩
  ·
   have hjD : j ∉ D := fun hjD => by
    obtain ⟨_, hx⟩ := hD j hjD
    unfold readyR at hjr
    cases ho : ops[j]? with
    | none => simp [ho] at hx
    | some o =>
     simp only [ho, Array.all_eq_true_iff_forall_mem] at hjr hx
     rw [Array.any_eq_true'] at hx
     obtain ⟨e, he, hx⟩ := hx
     have hr := hjr e he
     rw [Bool.and_eq_true] at hx
     have hin : e.on ∈ rem := by
      rcases Bool.or_eq_true_iff.1 hx.2 with x | x
      ·have : e.on = i := by simpa using x
       rw [this]; exact hmem
      ·have hxD : e.on ∈ D := by simpa using x
       exact (hD _ hxD).1
     simp [hx.1, hin] at hr
   have hj' := hall j hj
   have hjx : ∃ oj, ops[j]? = some oj ∧ noSelect oj = true ∧ apartR ops oi oj = true := by
    cases ho : ops[j]? with
    | none => simp [hji, hjD, ho] at hj'
    | some oj => simp [hji, hjD, ho] at hj'; exact ⟨oj, rfl, hj'.1, hj'.2⟩
   obtain ⟨oj, hoj, hsel, hap⟩ := hjx
   rcases h with ⟨he, _⟩ | ⟨_, hsteps⟩
   ·exact absurd ((List.mem_erase_of_ne hji).2 hj) (by rw [he]; simp)
   have hjr' : readyR ops (rem.erase i) j = true := by
    unfold readyR at hjr ⊢
    simp only [hoj, Array.all_eq_true_iff_forall_mem] at hjr ⊢
    intro e he
    have := hjr e he
    rcases Bool.or_eq_true_iff.1 this with x | x
    ·simp [x]
    ·have hn : e.on ∉ rem := by simpa using x
     have : e.on ∉ rem.erase i := fun hm => hn (List.mem_of_mem_erase hm)
     simp [this]
   have hstep := hsteps hww j ((List.mem_erase_of_ne hji).2 hj) hjr'
   obtain ⟨ha1, ha2⟩ := apart_looks hap
   refine OpStep.putT (oi := oi) (v := v) hoj hsel hap hS (hSS j hj hji hjD) hstep fun u R' H' hR hS' hA => ?_
   refine ih (rem.erase j) (putT oj.dst u t) R' H' (takeOk_erase htk0 hji hjD) (hnd.erase _) hS' (fun x hx => hSS x (List.mem_of_mem_erase hx)) ?_ ?_
   ·rw [wanted_putT (fun d hd => ha2 d hd)]
    refine hwf.imp (fun ⟨hw, hf⟩ => ⟨hw, fun R'' H'' hR'' hS'' => ?_⟩) id
    rw [exec_putT (ops := ops) hnosel (fun d hd => ha2 d hd)]
    exact hf R'' H'' (hR.trans hR'') hS''
   ·rw [List.erase_comm, putT_comm (a := oi.dst) (b := oj.dst) (fun d hd => (ha1 d hd).2)]
    exact hA
variable {c : Ctx} {S : Nat → HList} {ops : Array Oper} {k : List Item} {R : RMap} {H : HList} {st st' : St} {rem : List Nat} {n : Nat}
def Any (𝒥 : Jd P B main) (c : Ctx) (S : Nat → HList) (ops : Array Oper) (k : List Item) (n : Nat) (rem : List Nat) (R : RMap) (H : HList) (st : St) : Prop :=
 rem.Nodup ∧ ∀ tmps, Rep c.n st tmps → anyR 𝒥 c S ops (fun t R H => 𝒥.J R H (gor (frm c t k) c.cs)) n rem tmps R H
theorem At.draw {id : Nat} {is : List Nat} {n : Nat} (S : Nat → HList) (hm : P.follows .mixedOrders = true) (hk : (c.kind == CallKind.early) = false) (hb : backward ops = true) (hn : ops.size = n) (his : List.range n = is) (h : Any 𝒥 c S ops k n is R H st) : At 𝒥 c R H st (.code (.region id ops true) :: k) := by
 intro tmps ht
 subst hn; subst his
 refine 𝒥.step rfl fun w hw => ?_
 have hA : Agree ops (Array.replicate ops.size false) (List.range ops.size) := ⟨by simp, List.nodup_range, fun i => by
  simp only [List.mem_range, Array.getD_eq_getD_getElem?]
  constructor
  ·intro hi; exact ⟨hi, by simp [hi]⟩
  ·exact fun x => x.1⟩
 have key := fun t => J_linearise (𝒥 := 𝒥) (k := k) hk hb (fun _ _ _ hq => hq) ops.size t _ [] _ tmps R H hA (by simp) (h.2 tmps ht)
 obtain ⟨is, h1, h2⟩ := key (if (Question.order c.fn id).forced then 0 else (Question.order c.fn id).cut (w.tape w.drawn (.order c.fn id)))
 refine ⟨gor (frm c tmps (.inRegion ops is :: k)) c.cs, { w with drawn := w.drawn + 1 }, #[], R, H, ?_, by simp, ⟨⟨hw.r, hw.h, hw.nd, hw.dj, hw.os, hw.tape, hw.out⟩, fun _ _ x => x, Nat.le_refl _, fun _ _ _ => rfl, fun _ _ x => .inl x, fun _ o x => .inl ⟨o, x⟩⟩, h2⟩
 simp only [Question.forced, Bool.false_eq_true, if_false, List.reverse_nil, List.nil_append] at h1
 simp [stepG, stepG.exec, gor, frm, choose, Sem.run, Question.forced, Region.schedule, hm, Region.linearise, h1]
theorem At.drawH {id : Nat} {is : List Nat} {n : Nat} (hm : P.follows .mixedOrders = true) (hk : (c.kind == CallKind.early) = false) (hb : backward ops = true) (hn : ops.size = n) (his : List.range n = is) (h : Any 𝒥 c (fun _ => H) ops k n is R H st) : At 𝒥 c R H st (.code (.region id ops true) :: k) := At.draw (fun _ => H) hm hk hb hn his h
theorem OpTo.opStep {o : Oper} {i : Nat} {tmps : Array Value} (h : OpTo 𝒥 c o R H st fun R' H' st' => RLe R R' ∧ (∀ p ∈ S i, p ∈ H → p ∈ H') ∧ Any 𝒥 c S ops k n rem R' H' st') (ho : ops[i]? = some o) (hw : Region.wanted o (yielded ops tmps) = true) (ht : Rep c.n st tmps) :
  OpStep 𝒥 c (S i) ops i tmps R H fun t' R' H' => anyR 𝒥 c S ops (fun t R H => 𝒥.J R H (gor (frm c t k) c.cs)) n rem t' R' H' := by
 obtain ⟨hd, hdl, h | ⟨f, args, h1, h2⟩⟩ := h
 ·exact ⟨o, ho, hd, .inr ⟨hw, .inl ((h _ (ht.knows c [])).mono fun nx R' H' ⟨v, hv, st', hs, hR, hS, hA⟩ => ⟨v, hv, hR, hS, hA.2 _ ((ht.put v hdl).sub hs)⟩)⟩⟩
 ·exact ⟨o, ho, hd, .inr ⟨hw, .inr ⟨f, args, h1 _ (ht.knows c []), h2.mono fun v R' H' ⟨st', hs, hR, hS, hA⟩ => ⟨hR, hS, hA.2 _ ((ht.put v hdl).sub hs)⟩⟩⟩⟩
theorem Any.done (h : At 𝒥 c R H st k) : Any 𝒥 c S ops k n [] R H st := ⟨List.nodup_nil, fun tmps ht => by
 cases n with
 | zero => exact ⟨rfl, h tmps ht⟩
 | succ n => exact .inl ⟨rfl, h tmps ht⟩⟩
theorem Any.take {i : Nat} {o : Oper} {v : Value} {N : HList} (D : List Nat) (ho : ops[i]? = some o) (htk : takeOk ops rem i D = true) (hd : isDefer o.op = false) (hdl : dstLt o.dst c.n) (hw : wantedS ops st o = some true) (hSS : ∀ j ∈ rem, j ≠ i → j ∉ D → ∀ p ∈ N, p ∈ S j) (hS : ∀ p ∈ N, p ∈ H) (hf : ∀ ρ, Knows st ρ → Floats P B N R ρ o v) (hs : SubL (putS o.dst v st) st') (hnd : rem.Nodup)
  {rem' : List Nat} (hr : rem.erase i = rem') (h : Any 𝒥 c S ops k n rem' R H st') : Any 𝒥 c S ops k (n + 1) rem R H st := by
 subst hr
 exact ⟨hnd, fun tmps ht => anyR_take ho hd n rem tmps R H htk hnd hS hSS (.inl ⟨wanted_of ht hw, hf _ (ht.knows c [])⟩) (h.2 _ ((ht.put v hdl).sub hs))⟩
theorem Any.takeS {i d : Nat} {o : Oper} {v : Value} {N : HList} (D : List Nat) (ho : ops[i]? = some o) (hdst : o.dst = some d) (hw : wantedS ops st o = some true) (htk : takeOk ops rem i D = true) (hSS : ∀ j ∈ rem, j ≠ i → j ∉ D → ∀ p ∈ N, p ∈ S j) (hS : ∀ p ∈ N, p ∈ H)
  (hf : ∀ R' H', RLe R R' → (∀ p ∈ N, p ∈ H') → SemTo P B c o R' H' st fun R1 H1 st1 => R1 = R' ∧ H1 = H' ∧ st1 = [(d, v)]) (hs : SubL ((d, v) :: st) st') (hnd : rem.Nodup)
  {rem' : List Nat} (hr : rem.erase i = rem') (h : Any 𝒥 c S ops k n rem' R H st') : Any 𝒥 c S ops k (n + 1) rem R H st := by
 have h0 := hf R H (RLe.refl _) hS
 refine Any.take (v := v) D ho htk h0.1 h0.2.1 hw hSS hS (fun ρ hρ R' H' hR hS' => ?_) (by rw [hdst]; exact hs) hnd hr h
 refine ((hf R' H' hR hS').2.2 ρ hρ).mono fun nx R'' H'' ⟨u, hu, st1, hs1, e1, e2, e3⟩ => ?_
 subst e3
 rw [hdst] at hs1
 have huv : u = v := by
  have := hs1 d v (by simp)
  simp only [putS, List.lookup_cons, beq_self_eq_true] at this
  exact Option.some.inj this
 subst huv
 exact ⟨hu, e1, e2⟩
theorem Any.takeIdle {i : Nat} {o : Oper} (D : List Nat) (ho : ops[i]? = some o) (htk : takeOk ops rem i D = true) (hd : isDefer o.op = false) (hdl : dstLt o.dst c.n) (hw : wantedS ops st o = some false) (hs : SubL (putS o.dst undef st) st') (hnd : rem.Nodup)
  {rem' : List Nat} (hr : rem.erase i = rem') (h : Any 𝒥 c S ops k n rem' R H st') : Any 𝒥 c S ops k (n + 1) rem R H st := by
 subst hr
 exact ⟨hnd, fun tmps ht => anyR_take (v := undef) (N := []) ho hd n rem tmps R H htk hnd (by simp) (by simp) (.inr ⟨wanted_of ht hw, rfl⟩) (h.2 _ ((ht.put undef hdl).sub hs))⟩
theorem Any.one {i : Nat} {o : Oper} (ho : ops[i]? = some o) (hrd : rem.filter (readyR ops rem) = [i]) (hw : wantedS ops st o = some true) (hnd : rem.Nodup) {rem' : List Nat} (hr : rem.erase i = rem')
  (h : OpTo 𝒥 c o R H st fun R' H' st' => RLe R R' ∧ (∀ p ∈ S i, p ∈ H → p ∈ H') ∧ Any 𝒥 c S ops k n rem' R' H' st') : Any 𝒥 c S ops k (n + 1) rem R H st := by
 subst hr
 refine ⟨hnd, fun tmps ht => .inr ⟨(fun e => by rw [e] at hrd; cases hrd), fun _ j hj hjr => ?_⟩⟩
 have : j ∈ rem.filter (readyR ops rem) := List.mem_filter.2 ⟨hj, hjr⟩
 rw [hrd] at this
 obtain rfl : j = i := by simpa using this
 exact h.opStep ho (wanted_of ht hw) ht
theorem keepAll {H H' : HList} (h : ∀ p ∈ H, p ∈ H') {X : HList} : ∀ p ∈ H, p ∈ X → p ∈ H' := fun p hp _ => h p hp
end
end Go.Lg
