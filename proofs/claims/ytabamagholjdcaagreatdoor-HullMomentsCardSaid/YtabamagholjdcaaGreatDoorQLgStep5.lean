/- The machine, ninth part: goroutine 0's steps in the workers' machine, and the run. Conditions: none; over any program. -/
import Derived.Test.YtabamagholjdcaaGreatDoorQLgStep4
namespace Go.Lg
open Go.Conc
section
variable {P : Program} {B : Base} {cf cd : Nat} {MJ' : RMap → HList → Goroutine → Prop} {D : Nat → Dt} {th : Nat → Option Th} {clo : Bool} {cls : Option Nat} {s1 s2 : Nat} {tm1 tm2 : Bool} {gs : Array Goroutine} {w : World} {sl : Option (Nat × Nat)} {t : Trace} {g : Goroutine} {y : Th}
theorem PI.add (h : PI P B cf cd MJ' D th clo cls s1 s2 tm1 tm2 gs w t) {g' child : Goroutine} {x z : Dt} {y0 : Th} {f1 f2 : FuncId} {p1 p2 : String} (hy : th 0 = some y) (hsx : Sit P B cf cd MJ' 0 x (some y) g') (hsz : Sit P B cf cd MJ' gs.size z (some ⟨y.R, []⟩) child)
  (hph : Ph cf (gs.size + 1) (updD (updD D gs.size z) 0 x) clo cls) :
  PI P B cf cd MJ' (updD (updD D gs.size z) 0 x) (updT th gs.size (some ⟨y.R, []⟩)) clo cls s1 s2 tm1 tm2 ((gs.setIfInBounds 0 g').push child) w (t ++ #[⟨0, f1, p1, .go gs.size⟩, ⟨gs.size, f2, p2, .start⟩]) := by
 have hn := h.out gs.size (Nat.le_refl _)
 have h0n : (0 : Nat) ≠ gs.size := by have := h.pos; omega
 have hu : ∀ op ∈ (#[⟨0, f1, p1, .go gs.size⟩, ⟨gs.size, f2, p2, .start⟩] : Trace), op.act.touch? = none := fun op hop => by
  simp only [List.mem_toArray, List.mem_cons, List.not_mem_nil, or_false] at hop
  rcases hop with rfl | rfl <;> rfl
 have hl : ∀ op ∈ (#[⟨0, f1, p1, .go gs.size⟩, ⟨gs.size, f2, p2, .start⟩] : Trace), op.act.low w.heap.size := fun op hop => by
  simp only [List.mem_toArray, List.mem_cons, List.not_mem_nil, or_false] at hop
  rcases hop with rfl | rfl <;> trivial
 have hw : Wordless (#[⟨0, f1, p1, .go gs.size⟩, ⟨gs.size, f2, p2, .start⟩] : Trace) := fun op hop m hm => by
  simp only [List.mem_toArray, List.mem_cons, List.not_mem_nil, or_false] at hop
  rcases hop with rfl | rfl <;> cases hm
 refine ⟨h.ne, h.mem.add hy (fun _ _ e => e), h.tr.muteAdd hu hl hw hy (fun _ _ e => e) hn.1 (fun k hk => kn_spawn (h.tr.quiet.append hw) rfl rfl rfl rfl hk), fun j v hj => ?_, fun j hj => ?_, by simpa using hph, by simp⟩
 ·rw [Array.getElem?_push] at hj
  split at hj
  ·rename_i e
   have e : j = gs.size := by simpa using e
   cases hj; subst e
   rw [updD_ne (Ne.symm h0n), updD_same, updT_same]; exact hsz
  ·rename_i e
   have e : j ≠ gs.size := by simpa using e
   by_cases hj0 : j = 0
   ·subst hj0
    rw [Array.getElem?_setIfInBounds_self_of_lt h.pos] at hj; cases hj
    rw [updD_same, updT_ne h0n, hy]; exact hsx
   ·rw [Array.getElem?_setIfInBounds_ne (Ne.symm hj0)] at hj
    rw [updD_ne hj0, updD_ne e, updT_ne e]; exact h.sit j v hj
 ·have hj' : gs.size + 1 ≤ j := by simpa using hj
  rw [updD_ne (by omega), updD_ne (by omega), updT_ne (by omega)]; exact h.out j (by omega)
theorem PI.stepMs (h : PI P B cf cd MJ' D th clo cls s1 s2 tm1 tm2 gs w t) {k : Nat} {sp : List Value} {T : Tree} (hi : gs[0]? = some g) (hd : D 0 = .ms k sp (some T)) (hy : th 0 = some y) (hk : MSk P B cf cd MJ' k sp y.R y.H g) : Nx P B cf cd MJ' D tm1 tm2 gs w sl t 0 := by
 obtain ⟨rfl, rfl⟩ := h.notClosed (i := 0) (.inr (.inr ⟨⟨_, _, _, hd⟩, rfl⟩))
 have hpos := h.pos
 cases h.ph with
 | ranging h0 => rw [hd] at h0; cases h0
 | spawning h0 hpv hcl hw =>
  rw [hd] at h0; cases h0
  cases k with
  | succ k =>
   obtain ⟨hrun, hst⟩ := hk
   obtain ⟨g', child, v, hsp, ⟨T1, hT1⟩, T0, hT0⟩ := hst w (h.mem.fits 0 y hy)
   have hr := runT_crowd_spawn (sl := sl) hi (show stepG P (0 == 0) g w = _ from hsp)
   rw [ofEvents_none] at hr
   refine ⟨_, _, _, _, _, false, none, s1, s2, hr, ?_, h.add (x := .ms k (v :: sp) (some T0)) (z := .w1 v (some T1)) (y0 := y) hy ⟨⟨y, rfl, .inl ⟨T0, rfl, hT0⟩⟩, rfl⟩ ⟨⟨_, rfl, .inl ⟨T1, rfl, hT1⟩⟩, hpos⟩ ?_⟩
   ·simpa using mu_new (x := .ms k (v :: sp) (some T0)) (y := .w1 v (some T1)) hpos (by rw [hd]; simp only [Dt.pot, List.length_cons]; omega)
   ·refine .spawning (updD_same _ _ _) ?_ (fun j k' m e => ?_) (fun j m e => ?_)
    ·rw [vals_upd (by rw [updD_ne (by omega), hd]; rfl), vals_succ, updD_same, vals_congr (D := D) (fun j hj => by rw [updD_ne (by omega)])]
     exact List.Perm.cons v hpv
    ·by_cases hj0 : j = 0
     ·subst hj0; rw [updD_same] at e; cases e
     ·rw [updD_ne hj0] at e
      by_cases hjn : j = gs.size
      ·subst hjn; rw [updD_same] at e; cases e
      ·rw [updD_ne hjn] at e; exact hcl j k' m e
    ·by_cases hj0 : j = 0
     ·subst hj0; rw [updD_same] at e; cases e
     ·rw [updD_ne hj0] at e
      by_cases hjn : j = gs.size
      ·subst hjn; rw [updD_same] at e; cases e
      ·rw [updD_ne hjn] at e; exact hw j m e
  | zero =>
   obtain ⟨hrun, hst⟩ := hk
   obtain ⟨g', child, hsp, ⟨T1, hT1⟩, T0, hT0⟩ := hst w (h.mem.fits 0 y hy)
   have hr := runT_crowd_spawn (sl := sl) hi (show stepG P (0 == 0) g w = _ from hsp)
   rw [ofEvents_none] at hr
   refine ⟨_, _, _, _, _, false, none, s1, s2, hr, ?_, h.add (x := .mr sp (some T0)) (z := .cl sp.length (some T1)) (y0 := y) hy ⟨⟨y, rfl, .inl ⟨T0, rfl, hT0⟩⟩, rfl⟩ ⟨⟨_, rfl, .inl ⟨T1, rfl, hT1⟩⟩, hpos⟩ ?_⟩
   ·simpa using mu_new (x := .mr sp (some T0)) (y := .cl sp.length (some T1)) hpos (by rw [hd]; simp only [Dt.pot]; omega)
   ·have ev : vals (updD (updD D gs.size (.cl sp.length (some T1))) 0 (.mr sp (some T0))) (gs.size + 1) = vals D gs.size := by
     rw [vals_upd (by rw [updD_ne (by omega), hd]; rfl), vals_succ, updD_same, vals_congr (D := D) (fun j hj => by rw [updD_ne (by omega)])]
     rfl
    refine .ranging (ic := gs.size) (kc := sp.length) (mc := some T1) (updD_same _ _ _) (by rw [ev]; exact hpv) (by omega) (by rw [updD_ne (by omega), updD_same]) (fun j k' m e => ?_) ?_ (fun e => by cases e) (fun e => by cases e)
    ·by_cases hj0 : j = 0
     ·subst hj0; rw [updD_same] at e; cases e
     ·rw [updD_ne hj0] at e
      by_cases hjn : j = gs.size
      ·exact hjn
      ·rw [updD_ne hjn] at e; exact absurd e (hcl j k' m)
    ·rw [act_upd (by rw [updD_ne (by omega), hd]; rfl)]
     have e1 := vals_len_eq (D := D) (n := gs.size) (fun i m _ => hw i m)
     have e2 := hpv.length_eq
     have e3 : sumT gs.size (fun j => (updD D gs.size (.cl sp.length (some T1)) j).act) = sumT gs.size (fun j => (D j).act) := sumT_congr fun j hj => by rw [updD_ne (by omega)]
     have e4 : (updD D gs.size (.cl sp.length (some T1)) gs.size).act = 0 := by rw [updD_same]; rfl
     simp only [sumT, e3, e4]
     omega
theorem offers_nil_cf (h : PI P B cf cd MJ' D th clo cls s1 s2 tm1 tm2 gs w t) {i : Nat} (hz : ∀ j, (D j).act = 0) : partners (gs.setIfInBounds i Go.Conc.ph) cf true = [] := by
 apply List.eq_nil_iff_forall_not_mem.2
 rintro ⟨j, k⟩ hm
 obtain ⟨_, _, x, _, h4⟩ := h.part hm
 rcases h4 with ⟨_, _, v, g0, z, e, _⟩ | ⟨h4, _⟩ | ⟨_, h4, _⟩ | ⟨_, h4, _⟩
 ·have := hz j; rw [e] at this; cases this
 ·exact h.ne h4
 ·cases h4
 ·cases h4
theorem PI.stepMr (h : PI P B cf cd MJ' D th false none s1 s2 tm1 tm2 gs w t) {rem : List Value} {T : Tree} (hi : gs[0]? = some g) (hd : D 0 = .mr rem (some T)) (hy : th 0 = some y) (hk : MRk P B cf MJ' rem.length rem y.R y.H g) : Nx P B cf cd MJ' D tm1 tm2 gs w sl t 0 := by
 have hpos := h.pos
 obtain ⟨z, Got, Nil, hk', hpk⟩ : ∃ z Got Nil, AtR P B true cf true Got Nil z y.R y.H g ∧ ((∀ k, rem.length = k + 1 → ∀ v, MGot P B rem (MRk P B cf MJ' k) v y.R y.H (Conc.served (core g) (recvd true v true))) ∧ PkM P B cf MJ' rem.length rem y.R y.H (parked (core g) #[rcase cf z] (.recv true))) := by
  generalize rem.length = n at hk
  cases n with
  | zero => obtain ⟨z, hk⟩ := hk; exact ⟨z, _, _, hk, fun k e => (by cases e), g, z, hk, rfl⟩
  | succ n => obtain ⟨z, hk⟩ := hk; exact ⟨z, _, _, hk, fun k e v => (by cases e; exact hk.2.2.1 v), g, z, hk, rfl⟩
 have hst : stepG P (0 == 0) g w = .comm (core g) #[rcase cf z] true (.recv true) w #[] := hk'.2.1 w (h.mem.fits 0 y hy)
 by_cases hp : partners (gs.setIfInBounds 0 Go.Conc.ph) cf true = []
 ·have hr := crowd_waits (sl := sl) hi hst (fun cc hcc => by simp at hcc; subst hcc; exact ways_recv_none h.hcf hp)
  rw [ofEvents_none] at hr
  refine ⟨_, _, _, updD D 0 (.mr rem none), th, false, none, s1, s2, hr, ?_, ?_⟩
  ·simpa using mu_msr (x := .mr rem none) hpos (by rw [hd]; rfl) rfl .none (by rw [hd]; rfl)
  ·refine h.one hpos (by simp) (Array.getElem?_setIfInBounds_self_of_lt hpos) (fun j hj => Array.getElem?_setIfInBounds_ne (Ne.symm hj)) h.mem (by simpa using h.tr) (fun _ _ => rfl) ⟨⟨y, hy, .inr ⟨rfl, hpk.2⟩⟩, rfl⟩ ?_
   have ev : vals (updD D 0 (.mr rem none)) gs.size = vals D gs.size := vals_upd (by rw [hd]; rfl)
   have ea : sumT gs.size (fun j => (updD D 0 (.mr rem none) j).act) = sumT gs.size (fun j => (D j).act) := act_upd (by rw [hd]; rfl)
   cases h.ph with
   | spawning h0 hpv hcl hw => rw [hd] at h0; cases h0
   | @ranging rem' m ic kc mc h0 hpv hic hdc hun hkc hw1 hw2 =>
    rw [hd] at h0; cases h0
    have hic0 : ic ≠ 0 := by intro e; subst e; rw [hd] at hdc; cases hdc
    refine .ranging (ic := ic) (updD_same _ _ _) (ev ▸ hpv) hic (by rw [updD_ne hic0]; exact hdc) (fun j k' m e => ?_) (by rw [ea]; exact hkc) (fun e j v e' => ?_) (fun e j e' => ?_)
    ·by_cases hj : j = 0
     ·subst hj; rw [updD_same] at e; cases e
     ·rw [updD_ne hj] at e; exact hun j k' m e
    ·by_cases hj : j = 0
     ·subst hj; rw [updD_same] at e'; cases e'
     ·rw [updD_ne hj] at e'
      obtain ⟨_, g0, z', y0, hg0, _⟩ := h.pkW1 e'
      exact absurd hp (mem_part hg0 hj (by rw [offersAt_parked_send]; simp))
    ·by_cases hj : j = 0
     ·subst hj; rw [updD_same] at e'; cases e'
     ·rw [updD_ne hj] at e'; exact hw2 e j e'
 ·obtain ⟨j, gj, vj, zj, shj, d, hji, hgj, hr⟩ := crowd_recv_meets_some (sl := sl) hi hst h.hcf hp (fun j k hjk => by
   obtain ⟨h1, h2, x, h3, h4⟩ := h.part hjk
   rcases h4 with ⟨_, _, v, g0, z0, _, rfl⟩ | ⟨h4, _⟩ | ⟨_, h4, _⟩ | ⟨_, h4, _⟩
   ·exact ⟨h2, h1, _, _, _, _, h3⟩
   ·exact absurd h4 h.ne
   ·cases h4
   ·cases h4)
  obtain ⟨_, hof⟩ := (h.sit j _ hgj).offers h.ne (c := cf) (send := true) (k := 0) (by rw [offersAt_parked_send]; simp)
  rcases hof with ⟨_, _, v, g0, z0, hdj, he⟩ | ⟨h4, _⟩ | ⟨_, h4, _⟩ | ⟨_, h4, _⟩
  rotate_left
  ·exact absurd h4 h.ne
  ·cases h4
  ·cases h4
  obtain ⟨hcs, hsh, hserved⟩ := parked_inj he
  subst hsh
  have hv : vj = v := by
   have : scase cf vj zj = scase cf v z0 := by simpa using hcs
   simp only [scase, CommCase.mk.injEq, Option.some.injEq] at this
   exact this.2.1
  subst hv
  obtain ⟨_, g0', z0', yj, hg0', hyj, ha⟩ := h.pkW1 hdj
  rw [hgj] at hg0'
  obtain ⟨_, _, hserved'⟩ := parked_inj (Option.some.inj hg0')
  rw [finishComm_recv, finishComm_send, ofEvents_none, hserved'] at hr
  have hmeet := h.meet1 (j := j) (v := vj) hdj hd hyj hy (gj := Conc.served (core g0') undef) (g0 := Conc.served (core g) (recvd true vj true)) ha.2.2 (fun k hlen => hpk.1 k hlen vj) (meet4 (a := j) (b := 0) (s := s1) (cap := 0) (f1 := gj.frame.fn) (f2 := (core g).frame.fn) (p1 := gj.frame.place) (p2 := (core g).frame.place) (lt_of_heap h.hcf)) d
  obtain ⟨x0, xj, hpot, _, hltj, hP, _⟩ := hmeet
  refine ⟨_, _, _, _, _, _, _, _, _, hr, ?_, by simpa using hP⟩
  simpa using mu_pot2 (x := x0) (y := xj) hpos hltj hji (by omega)
theorem PI.stepEnd (h : PI P B cf cd MJ' D th true cls s1 s2 tm1 tm2 gs w t) {rem : List Value} {T : Tree} (hi : gs[0]? = some g) (hd : D 0 = .mr rem (some T)) (hy : th 0 = some y) (hk : MRk P B cf MJ' rem.length rem y.R y.H g) :
  ∃ gs' g' ops q, runT P (crowd gs w sl) 0 = (.next (crowd gs' w sl), ops) ∧ gs'[0]? = some g' ∧ MJ' y.R y.H g' ∧ Alone P B y.R y.H gs' w (t ++ ops) q := by
 have hpos := h.pos
 have hcf := h.hcf
 cases h.ph with
 | @closed rem' m h0 hpv hcl hac hm =>
  rw [hd] at h0; cases h0
  have hlen : rem.length = 0 := by
   have h1 := hpv.length_eq
   have h2 := vals_len (D := D) (n := gs.size)
   have h3 : sumT gs.size (fun i => (D i).act) = 0 := by
    have e : sumT gs.size (fun i => (D i).act) = sumT gs.size (fun _ => 0) := sumT_congr fun i _ => hac i
    rw [e]
    have : ∀ n, sumT n (fun _ => 0) = 0 := by intro n; induction n with | zero => rfl | succ n ih => simp only [sumT, ih]
    exact this _
   omega
  rw [hlen] at hk
  obtain ⟨z, hrun, hst, _, hnil⟩ := hk
  have hr := crowd_recv_closed (sl := sl) hi (show stepG P (0 == 0) g w = _ from hst w (h.mem.fits 0 y hy)) hcf (offers_nil_cf h hac)
  rw [finishComm_recv, ofEvents_none] at hr
  have hlv : ∀ i, i ≠ 0 → th i = none ∧ ∃ n, D i = .lv n ∧ ∀ x, gs[i]? = some x → QuitsIn P n x := by
   intro i hi0
   rcases Nat.lt_or_ge i gs.size with hlt | hge
   ·have hx := Array.getElem?_eq_getElem hlt
    have hs := h.sit i _ hx
    cases hdi : D i with
    | lv n => rw [hdi] at hs; exact ⟨hs.1, n, rfl, fun x hx' => by rw [hx] at hx'; cases hx'; exact hs.2.1⟩
    | w1 v m => have := hac i; rw [hdi] at this; cases this
    | w2 m => have := hac i; rw [hdi] at this; cases this
    | cl k m => exact absurd hdi (hcl i k m)
    | ms k sp m => rw [hdi] at hs; exact absurd hs.2 hi0
    | mr r m => rw [hdi] at hs; exact absurd hs.2 hi0
   ·obtain ⟨h1, h2⟩ := h.out i hge
    exact ⟨h1, 0, h2, fun x hx => by rw [Array.getElem?_eq_none hge] at hx; cases hx⟩
  have hth : th = only y := by
   funext i
   unfold only
   split
   ·rename_i e; subst e; exact hy
   ·rename_i e; exact (hlv i e).1
  have hm' := h.mem
  have ht' := h.tr
  rw [hth] at hm' ht'
  refine ⟨_, _, _, fun i => match D i with | .lv n => n | _ => 0, hr, Array.getElem?_setIfInBounds_self_of_lt hpos, hnil, ⟨hm'.fits, hm'.apart, fun c o hc => (by cases hc), fun c o hc => (by cases hc)⟩, ?_, fun i x hi0 hx => ?_⟩
  ·exact (ht'.reopen (y := ⟨0, (core g).frame.fn, (core g).frame.place, .recvClosed cf⟩) rfl rfl (lt_of_heap hcf)).chs (fun _ _ hc => by cases hc)
  ·rw [Array.getElem?_setIfInBounds_ne (by omega)] at hx
   obtain ⟨_, n, e, hq⟩ := hlv i (by omega)
   simp only [e]
   exact hq x hx
theorem PI.someone (h : PI P B cf cd MJ' D th clo cls s1 s2 tm1 tm2 gs w t) : ∃ (i : Nat) (g : Goroutine), gs[i]? = some g ∧ g.status = .running := by
 have key : ∀ i, (∀ n, D i ≠ .lv n) → (D i).msr ≠ none → ∃ (i : Nat) (g : Goroutine), gs[i]? = some g ∧ g.status = .running := by
  intro i hl hm
  obtain ⟨g, hg⟩ := h.there hl
  refine ⟨i, g, hg, ?_⟩
  have hs := h.sit i g hg
  cases hdi : D i with
  | lv n => exact absurd hdi (hl n)
  | w1 v m =>
   rw [hdi] at hs hm
   obtain ⟨⟨y, _, ⟨T, rfl, h⟩ | ⟨rfl, _⟩⟩, _⟩ := hs
   ·exact h.unf fun _ _ _ => KW1.run
   ·exact absurd rfl hm
  | w2 m =>
   rw [hdi] at hs hm
   obtain ⟨⟨y, _, ⟨T, rfl, h⟩ | ⟨rfl, _⟩⟩, _⟩ := hs
   ·exact h.unf fun _ _ _ => KW2.run
   ·exact absurd rfl hm
  | cl k m =>
   rw [hdi] at hs hm
   obtain ⟨⟨y, _, ⟨T, rfl, h⟩ | ⟨rfl, _⟩⟩, _⟩ := hs
   ·exact h.unf fun _ _ _ => CK.run
   ·exact absurd rfl hm
  | ms k sp m =>
   rw [hdi] at hs hm
   obtain ⟨⟨y, _, ⟨T, rfl, h⟩ | ⟨rfl, _⟩⟩, _⟩ := hs
   ·exact h.unf fun _ _ _ => MSk.run
   ·exact absurd rfl hm
  | mr r m =>
   rw [hdi] at hs hm
   obtain ⟨⟨y, _, ⟨T, rfl, h⟩ | ⟨rfl, _⟩⟩, _⟩ := hs
   ·exact h.unf fun _ _ _ => MRk.run
   ·exact absurd rfl hm
 cases h.ph with
 | @spawning k sp m h0 hpv hcl hw =>
  obtain ⟨g, hg⟩ := h.there (i := 0) (by rw [h0]; intro n e; cases e)
  have hs := h.sit 0 g hg
  rw [h0] at hs
  obtain ⟨⟨y, _, ⟨T, rfl, h⟩ | ⟨rfl, h⟩⟩, _⟩ := hs
  ·exact ⟨0, g, hg, h.unf fun _ _ _ => MSk.run⟩
  ·exact h.elim
 | closed h0 hpv hcl hac hm => exact key 0 (by rw [h0]; intro n e; cases e) (by rw [h0]; exact hm)
 | @ranging rem m ic kc mc h0 hpv hic hdc hun hkc hw1 hw2 =>
  cases m with
  | some T => exact key 0 (by rw [h0]; intro n e; cases e) (by rw [h0]; simp [Dt.msr])
  | none =>
   cases mc with
   | some T => exact key ic (by rw [hdc]; intro n e; cases e) (by rw [hdc]; simp [Dt.msr])
   | none =>
    obtain ⟨k', hk', _⟩ := h.pkCl hdc
    have : ∃ i, i < gs.size ∧ 0 < (D i).act := by
     apply Classical.byContradiction
     intro hn
     have hz : ∀ i, i < gs.size → (D i).act = 0 := fun i hi => by
      have : ¬ 0 < (D i).act := fun hx => hn ⟨i, hi, hx⟩
      omega
     have e : sumT gs.size (fun i => (D i).act) = sumT gs.size (fun _ => 0) := sumT_congr fun i hi => hz i hi
     have h0' : ∀ n, sumT n (fun _ => 0) = 0 := by intro n; induction n with | zero => rfl | succ n ih => simp only [sumT, ih]
     rw [e, h0'] at hkc
     omega
    obtain ⟨i, hi, hact⟩ := this
    cases hdi : D i with
    | w1 v m =>
     cases m with
     | some T => exact key i (by rw [hdi]; intro n e; cases e) (by rw [hdi]; simp [Dt.msr])
     | none => exact absurd hdi (hw1 rfl i v)
    | w2 m =>
     cases m with
     | some T => exact key i (by rw [hdi]; intro n e; cases e) (by rw [hdi]; simp [Dt.msr])
     | none => exact absurd hdi (hw2 rfl i)
    | _ => rw [hdi] at hact; simp [Dt.act] at hact
end
section
variable {P : Program} {B : Base} {Post : Value → World → Prop} {cf cd : Nat} {tm1 tm2 : Bool}
theorem set_some {d : Dt} {T T' : Tree} (h : d.msr = some T) (hl : ∀ n, d ≠ .lv n) : (d.set (some T')).msr = some T' ∧ (d.set (some T')).pot = d.pot := by
 cases d <;> first | exact absurd rfl (hl _) | exact ⟨rfl, rfl⟩
theorem PI.picked : ∀ (μ : Nat × List Ms) (gs : Array Goroutine) (w : World) (sl : Option (Nat × Nat)) (t : Trace) (D : Nat → Dt) (th : Nat → Option Th) (clo : Bool) (cls : Option Nat) (s1 s2 : Nat),
  PI P B cf cd (MJ P B Post) D th clo cls s1 s2 tm1 tm2 gs w t → mu D gs.size = μ → ∀ i g, gs[i]? = some g → g.status = .running → ∀ m0, stepT P m0 = runT P (crowd gs w sl) i → Runs P Post m0 t := by
 intro μ
 induction μ using MuLt.wf.induction with
 | _ μ ih =>
  intro gs w sl t D th clo cls s1 s2 h hμ i g hi hrun m0 hm0
  subst hμ
  have next : ∀ (gs' : Array Goroutine) (w' : World) (sl' : Option (Nat × Nat)) (t' : Trace) (D' : Nat → Dt) (th' : Nat → Option Th) (clo' : Bool) (cls' : Option Nat) (s1' s2' : Nat), PI P B cf cd (MJ P B Post) D' th' clo' cls' s1' s2' tm1 tm2 gs' w' t' →
    MuLt (mu D' gs'.size) (mu D gs.size) → Runs P Post (crowd gs' w' sl') t' := by
   intro gs' w' sl' t' D' th' clo' cls' s1' s2' h' hl
   obtain ⟨j, gj, d, sl'', hj, hrj, hst⟩ := crowd_pick (P := P) (gs := gs') (w := w') (sl := sl') (fun x hx => by
    obtain ⟨k, hk, rfl⟩ := Array.mem_iff_getElem.1 hx
    exact (h'.sit k _ (Array.getElem?_eq_getElem hk)).awake) h'.someone
   exact ih _ hl gs' (w'.at d) sl'' t' D' th' clo' cls' s1' s2' (h'.at d) rfl j gj hj hrj _ hst
  have nx : Nx P B cf cd (MJ P B Post) D tm1 tm2 gs w sl t i → Runs P Post m0 t := by
   rintro ⟨gs', w', ops, D', th', clo', cls', s1', s2', hr, hl, h'⟩
   exact Runs.step (hm0.trans hr) (next _ _ _ _ _ _ _ _ _ _ h' hl)
  have hs := h.sit i g hi
  have hlt := lt_of_get hi
  have go : ∀ (main : Bool) (K : RMap → HList → Goroutine → Prop) (y : Th) (T : Tree), main = (i == 0) → (∀ n, D i ≠ .lv n) → (D i).msr = some T → th i = some y → OwnT P B main K T y.R y.H g →
    (∀ T' (y' : Th) g', OwnT P B main K T' y'.R y'.H g' → Sit P B cf cd (MJ P B Post) i ((D i).set (some T')) (some y') g') → (K y.R y.H g → Runs P Post m0 t) → Runs P Post m0 t := by
   rintro main K ⟨R, H⟩ ⟨ι, f⟩ hmain hnl hmsr hy hown hsit hstop
   rcases hown with hk | ⟨_, hst⟩ | ⟨R', H', k, hgh, hk⟩
   ·exact hstop hk
   ·obtain ⟨g', w', es, R', H', k, h1, h2, h3, h4⟩ := hst w (h.mem.fits i _ hy)
    obtain ⟨gs', ops, hr, hsz, hP⟩ := h.own (sl := sl) (T := f k) hi hy (hmain ▸ h1) h2 h3 (hsit (f k) ⟨R', H'⟩ g' h4)
    obtain ⟨e1, e2⟩ := set_some (T' := f k) hmsr hnl
    exact Runs.step (hm0.trans hr) (next _ _ _ _ _ _ _ _ _ _ hP (by rw [hsz]; exact mu_msr hlt hmsr e1 (.some (.mk f k)) e2))
   ·obtain ⟨hm, ht⟩ := ghost_step h.mem h.tr hy (hgh w (h.mem.fits i _ hy))
    obtain ⟨e1, e2⟩ := set_some (T' := f k) hmsr hnl
    refine ih _ (mu_msr hlt hmsr e1 (.some (.mk f k)) e2) gs w sl t _ _ clo cls s1 s2 (h.one (w' := w) hlt rfl hi (fun _ _ => rfl) hm ht (fun j hj => updT_ne hj) (by rw [updT_same]; exact hsit (f k) ⟨R', H'⟩ g hk) (h.ph.q fun j => Q.upd (.inr (.inr ⟨f k, rfl⟩)) j)) rfl i g hi hrun m0 hm0
  cases hd : D i with
  | lv n =>
   rw [hd] at hs
   obtain ⟨_, hq, _⟩ := hs
   cases n with
   | zero => rw [show g.status = .finished from hq] at hrun; cases hrun
   | succ n =>
    rcases hq with e | ⟨_, g', hst, hq⟩
    ·rw [e] at hrun; cases hrun
    ·obtain ⟨gs', hr, hsz, hP⟩ := h.quit (sl := sl) hi hd hst hq
     refine Runs.step (hm0.trans hr) (next _ _ _ _ _ _ _ _ _ _ (by simpa using hP) ?_)
     rw [hsz]
     exact mu_msr (a := some (natT n)) (b := some (natT (n + 1))) hlt (by rw [hd]; rfl) rfl (natT_lt n) (by rw [hd]; rfl)
  | w1 v m =>
   rw [hd] at hs
   obtain ⟨⟨y, hy, ⟨T, rfl, ho⟩ | ⟨rfl, g0, z, _, rfl⟩⟩, hpos⟩ := hs
   ·exact go false _ y T (by simp; omega) (by rw [hd]; intro n e; cases e) (by rw [hd]; rfl) hy ho (fun T' y' g' ho' => by rw [hd]; exact ⟨⟨y', rfl, .inl ⟨T', rfl, ho'⟩⟩, hpos⟩) (fun hk => nx (h.stepW1 hi hd hpos hy hk))
   ·cases hrun
  | w2 m =>
   rw [hd] at hs
   obtain ⟨⟨y, hy, ⟨T, rfl, ho⟩ | ⟨rfl, g0, z, _, rfl⟩⟩, hpos⟩ := hs
   ·exact go false _ y T (by simp; omega) (by rw [hd]; intro n e; cases e) (by rw [hd]; rfl) hy ho (fun T' y' g' ho' => by rw [hd]; exact ⟨⟨y', rfl, .inl ⟨T', rfl, ho'⟩⟩, hpos⟩) (fun hk => nx (h.stepW2 hi hd hpos hy hk))
   ·cases hrun
  | cl k m =>
   rw [hd] at hs
   obtain ⟨⟨y, hy, ⟨T, rfl, ho⟩ | ⟨rfl, hpk⟩⟩, hpos⟩ := hs
   ·refine go false _ y T (by simp; omega) (by rw [hd]; intro n e; cases e) (by rw [hd]; rfl) hy ho (fun T' y' g' ho' => by rw [hd]; exact ⟨⟨y', rfl, .inl ⟨T', rfl, ho'⟩⟩, hpos⟩) (fun hk => ?_)
    cases k with
    | zero => exact nx (h.stepClose hi hd hpos hy hk)
    | succ k => exact nx (h.stepCl hi hd hpos hy hk)
   ·cases k with
    | zero => exact hpk.elim
    | succ k => obtain ⟨g0, z, _, rfl⟩ := hpk; cases hrun
  | ms k sp m =>
   rw [hd] at hs
   obtain ⟨⟨y, hy, ⟨T, rfl, ho⟩ | ⟨rfl, hpk⟩⟩, rfl⟩ := hs
   ·exact go true _ y T rfl (by rw [hd]; intro n e; cases e) (by rw [hd]; rfl) hy ho (fun T' y' g' ho' => by rw [hd]; exact ⟨⟨y', rfl, .inl ⟨T', rfl, ho'⟩⟩, rfl⟩) (fun hk => nx (h.stepMs hi hd hy hk))
   ·exact hpk.elim
  | mr rem m =>
   rw [hd] at hs
   obtain ⟨⟨y, hy, ⟨T, rfl, ho⟩ | ⟨rfl, hpk⟩⟩, rfl⟩ := hs
   ·refine go true _ y T rfl (by rw [hd]; intro n e; cases e) (by rw [hd]; rfl) hy ho (fun T' y' g' ho' => by rw [hd]; exact ⟨⟨y', rfl, .inl ⟨T', rfl, ho'⟩⟩, rfl⟩) (fun hk => ?_)
    cases clo with
    | false =>
     obtain rfl : cls = none := by
      cases h.ph with
      | spawning => rfl
      | ranging => rfl
     exact nx (h.stepMr hi hd hy hk)
    | true =>
     obtain ⟨gs', g', ops, q, hr, hg', hJ, hA⟩ := h.stepEnd (sl := sl) hi hd hy hk
     exact Runs.step (hm0.trans hr) (hJ gs' w sl _ q hg' hA)
   ·generalize rem.length = n at hpk
    cases n <;> (obtain ⟨g0, z, _, rfl⟩ := hpk; cases hrun)
theorem PI.runs {gs : Array Goroutine} {w : World} {sl : Option (Nat × Nat)} {t : Trace} {D : Nat → Dt} {th : Nat → Option Th} {clo : Bool} {cls : Option Nat} {s1 s2 : Nat} (h : PI P B cf cd (MJ P B Post) D th clo cls s1 s2 tm1 tm2 gs w t) : Runs P Post (crowd gs w sl) t := by
 obtain ⟨j, gj, d, sl'', hj, hrj, hst⟩ := crowd_pick (P := P) (gs := gs) (w := w) (sl := sl) (fun x hx => by
  obtain ⟨k, hk, rfl⟩ := Array.mem_iff_getElem.1 hx
  exact (h.sit k _ (Array.getElem?_eq_getElem hk)).awake) h.someone
 exact PI.picked _ gs (w.at d) sl'' t D th clo cls s1 s2 (h.at d) rfl j gj hj hrj _ hst
end
end Go.Lg
