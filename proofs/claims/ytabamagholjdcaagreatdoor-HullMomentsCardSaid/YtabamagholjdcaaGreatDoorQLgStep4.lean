/- The machine, eighth part: each step of the workers' machine; the run to its end. Conditions: none; over any program. -/
import Derived.Test.YtabamagholjdcaaGreatDoorQLgStep3
namespace Go.Lg
open Go.Conc
theorem TrI.muteClose {th : Nat → Option Th} {ch : HList} {n i c : Nat} {t : Trace} {y : MemOp} (h : TrI th ch none n t) (hy : y.g = i) (hya : y.act = .close c) (hc : c < n) : TrI (updT th i none) ch (some c) n (t ++ #[y]) := by
 have hu : ∀ op ∈ #[y], op.act.touch? = none := fun op hop => by simp at hop; subst hop; rw [hya]; rfl
 have hw : Wordless #[y] := fun op hop m hm => by simp at hop; subst hop; rw [hya] at hm; cases hm
 have hm := h.mute hu (fun op hop => by simp at hop; subst hop; rw [hya]; exact hc) hw
 have key : ∀ j z, updT th i none j = some z → th j = some z := fun j z hz => by
  by_cases hj : j = i
  ·subst hj; rw [updT_same] at hz; cases hz
  ·rwa [updT_ne hj] at hz
 refine ⟨fun j z hz => hm.own j z (key j z hz), fun j z hz => hm.read j z (key j z hz), fun c o hc j z hz => hm.chk c o hc j z (key j z hz), hm.low, fun k a hka hm' => ?_, hm.clean, hm.quiet⟩
 rcases h.all k a (touch_mute' hu hka) hm' with ⟨j, z, hz, hkn⟩ | ⟨c', p, h1, _⟩
 ·by_cases hj : j = i
  ·subst hj
   have e2 : (t ++ #[y])[t.size]? = some y := by simp
   exact .inr ⟨c, t.size, rfl, by rw [act?_of e2, hya], .inr (hkn.hb_new (Nat.le_refl _) e2 hy)⟩
  ·exact .inl ⟨j, z, by rw [updT_ne hj]; exact hz, hkn.app _⟩
 ·cases h1
theorem updT_self {th : Nat → Option Th} {i : Nat} {x : Th} (h : th i = some x) : updT th i (some x) = th := by
 funext j
 by_cases hj : j = i
 ·subst hj; rw [updT_same, h]
 ·rw [updT_ne hj]
section
variable {P : Program} {B : Base} {cf cd : Nat} {MJ' : RMap → HList → Goroutine → Prop} {D : Nat → Dt} {th : Nat → Option Th} {clo : Bool} {cls : Option Nat} {s1 s2 : Nat} {tm1 tm2 : Bool} {gs : Array Goroutine} {w : World} {sl : Option (Nat × Nat)} {t : Trace} {g : Goroutine} {y : Th}
theorem PI.stepW1 (h : PI P B cf cd MJ' D th clo cls s1 s2 tm1 tm2 gs w t) {i : Nat} {v : Value} {T : Tree} (hi : gs[i]? = some g) (hd : D i = .w1 v (some T)) (hpos : 0 < i) (hy : th i = some y) (hk : KW1 P B cf cd v y.R y.H g) : Nx P B cf cd MJ' D tm1 tm2 gs w sl t i := by
 obtain ⟨rfl, rfl⟩ := h.notClosed (i := i) (.inl (by rw [hd]; exact Nat.one_pos))
 obtain ⟨z, hrun, hst, hnext⟩ := hk
 have hi0 : (i == 0) = false := by simp; omega
 have hst' : stepG P (i == 0) g w = .comm (core g) #[scase cf v z] true .send w #[] := by rw [hi0]; exact hst w (h.mem.fits i y hy)
 have hlt := lt_of_get hi
 by_cases hp : partners (gs.setIfInBounds i Go.Conc.ph) cf false = []
 ·have hr := crowd_waits (sl := sl) hi hst' (fun cc hcc => by simp at hcc; subst hcc; exact ways_send_none h.hcf (by simp) hp)
  rw [ofEvents_none] at hr
  refine ⟨_, _, _, updD D i (.w1 v none), th, false, none, s1, s2, hr, ?_, ?_⟩
  ·simpa using mu_msr (x := .w1 v none) hlt (by rw [hd]; rfl) rfl .none (by rw [hd]; rfl)
  ·refine h.one hlt (by simp) (Array.getElem?_setIfInBounds_self_of_lt hlt) (fun j hj => Array.getElem?_setIfInBounds_ne (Ne.symm hj)) h.mem (by simpa using h.tr) (fun _ _ => rfl) ⟨⟨y, hy, .inr ⟨rfl, g, z, ⟨hrun, hst, hnext⟩, rfl⟩⟩, hpos⟩ ?_
   have ev : vals (updD D i (.w1 v none)) gs.size = vals D gs.size := vals_upd (by rw [hd]; rfl)
   have ea : sumT gs.size (fun j => (updD D i (.w1 v none) j).act) = sumT gs.size (fun j => (D j).act) := act_upd (by rw [hd]; rfl)
   cases h.ph with
   | spawning h0 hpv hcl hw =>
    refine .spawning (by rw [updD_ne (by omega)]; exact h0) (ev ▸ hpv) (fun j k m e => ?_) (fun j m e => ?_)
    ·by_cases hj : j = i
     ·subst hj; rw [updD_same] at e; cases e
     ·rw [updD_ne hj] at e; exact hcl j k m e
    ·by_cases hj : j = i
     ·subst hj; rw [updD_same] at e; cases e
     ·rw [updD_ne hj] at e; exact hw j m e
   | @ranging rem m ic kc mc h0 hpv hic hdc hun hkc hw1 hw2 =>
    refine .ranging (ic := ic) (by rw [updD_ne (by omega)]; exact h0) (ev ▸ hpv) hic (by rw [updD_ne (by intro e; subst e; rw [hd] at hdc; cases hdc)]; exact hdc) (fun j k m e => ?_) (by rw [ea]; exact hkc) (fun e => ?_) (fun e j e' => ?_)
    ·by_cases hj : j = i
     ·subst hj; rw [updD_same] at e; cases e
     ·rw [updD_ne hj] at e; exact hun j k m e
    ·subst e
     obtain ⟨_, g0, z', y0, hg0, _⟩ := h.pkMr h0
     exact absurd hp (mem_part hg0 (by omega) (by rw [offersAt_parked_recv]; simp))
    ·by_cases hj : j = i
     ·subst hj; rw [updD_same] at e'; cases e'
     ·rw [updD_ne hj] at e'; exact hw2 e j e'
 ·obtain ⟨j, gj, zj, shj, d, hji, hgj, hr⟩ := crowd_send_meets_some (sl := sl) hi hst' h.hcf hp (fun j k hjk => by
   obtain ⟨h1, h2, x, h3, h4⟩ := h.part hjk
   rcases h4 with ⟨_, h4, _⟩ | ⟨_, h4, _⟩ | ⟨h4, _⟩ | ⟨_, _, rem, g0, z0, _, rfl⟩
   ·cases h4
   ·cases h4
   ·exact absurd h4 h.ne
   ·exact ⟨h2, h1, _, _, _, h3⟩)
  obtain ⟨_, hof⟩ := (h.sit j _ hgj).offers h.ne (c := cf) (send := false) (k := 0) (by rw [offersAt_parked_recv]; simp)
  rcases hof with ⟨_, h4, _⟩ | ⟨_, h4, _⟩ | ⟨h4, _⟩ | ⟨_, _, rem, g0, z0, hdj, he⟩
  ·cases h4
  ·cases h4
  ·exact absurd h4 h.ne
  obtain ⟨_, hsh, hserved⟩ := parked_inj he
  subst hsh
  obtain ⟨rfl, g0', z0', y0, hg0', hy0, hpk⟩ := h.pkMr hdj
  rw [hgj] at hg0'
  obtain ⟨_, _, hserved'⟩ := parked_inj (Option.some.inj hg0')
  rw [finishComm_recv, finishComm_send, ofEvents_none, hserved'] at hr
  have hmeet := h.meet1 (j := i) (v := v) hd hdj hy hy0 (gj := Conc.served (core g) undef) (g0 := Conc.served (core g0') (recvd true v true)) hnext (fun k hlen => by
   have : PkM P B cf MJ' (k + 1) rem y0.R y0.H (parked (core g0') #[rcase cf z0'] (.recv true)) := hlen ▸ hpk
   obtain ⟨g1, z1, ha, e1⟩ := this
   obtain ⟨_, _, hs1⟩ := parked_inj e1
   rw [hs1]; exact ha.2.2.1 v) (meet4 (a := i) (b := 0) (s := s1) (cap := 0) (f1 := (core g).frame.fn) (f2 := gj.frame.fn) (p1 := (core g).frame.place) (p2 := gj.frame.place) (lt_of_heap h.hcf)) d
  obtain ⟨x0, xj, hpot, _, _, _, hP⟩ := hmeet
  refine ⟨_, _, _, _, _, _, _, _, _, hr, ?_, by simpa using hP⟩
  simpa using mu_pot2 (x := xj) (y := x0) hlt h.pos hji (by omega)
theorem PI.stepW2 (h : PI P B cf cd MJ' D th clo cls s1 s2 tm1 tm2 gs w t) {i : Nat} {T : Tree} (hi : gs[i]? = some g) (hd : D i = .w2 (some T)) (hpos : 0 < i) (hy : th i = some y) (hk : KW2 P B cd y.R y.H g) : Nx P B cf cd MJ' D tm1 tm2 gs w sl t i := by
 obtain ⟨rfl, rfl⟩ := h.notClosed (i := i) (.inl (by rw [hd]; exact Nat.one_pos))
 obtain ⟨z, hrun, hst, hnext⟩ := hk
 have hi0 : (i == 0) = false := by simp; omega
 have hst' : stepG P (i == 0) g w = .comm (core g) #[scase cd (.bool true) z] true .send w #[] := by rw [hi0]; exact hst w (h.mem.fits i y hy)
 have hlt := lt_of_get hi
 by_cases hp : partners (gs.setIfInBounds i Go.Conc.ph) cd false = []
 ·have hr := crowd_waits (sl := sl) hi hst' (fun cc hcc => by simp at hcc; subst hcc; exact ways_send_none h.hcd (by simp) hp)
  rw [ofEvents_none] at hr
  refine ⟨_, _, _, updD D i (.w2 none), th, false, none, s1, s2, hr, ?_, ?_⟩
  ·simpa using mu_msr (x := .w2 none) hlt (by rw [hd]; rfl) rfl .none (by rw [hd]; rfl)
  ·refine h.one hlt (by simp) (Array.getElem?_setIfInBounds_self_of_lt hlt) (fun j hj => Array.getElem?_setIfInBounds_ne (Ne.symm hj)) h.mem (by simpa using h.tr) (fun _ _ => rfl) ⟨⟨y, hy, .inr ⟨rfl, g, z, ⟨hrun, hst, hnext⟩, rfl⟩⟩, hpos⟩ ?_
   have ev : vals (updD D i (.w2 none)) gs.size = vals D gs.size := vals_upd (by rw [hd]; rfl)
   have ea : sumT gs.size (fun j => (updD D i (.w2 none) j).act) = sumT gs.size (fun j => (D j).act) := act_upd (by rw [hd]; rfl)
   cases h.ph with
   | spawning h0 hpv hcl hw => exact absurd hd (hw i _)
   | @ranging rem m ic kc mc h0 hpv hic hdc hun hkc hw1 hw2 =>
    refine .ranging (ic := ic) (by rw [updD_ne (by omega)]; exact h0) (ev ▸ hpv) hic (by rw [updD_ne (by intro e; subst e; rw [hd] at hdc; cases hdc)]; exact hdc) (fun j k m e => ?_) (by rw [ea]; exact hkc) (fun e j v e' => ?_) (fun e => ?_)
    ·by_cases hj : j = i
     ·subst hj; rw [updD_same] at e; cases e
     ·rw [updD_ne hj] at e; exact hun j k m e
    ·by_cases hj : j = i
     ·subst hj; rw [updD_same] at e'; cases e'
     ·rw [updD_ne hj] at e'; exact hw1 e j v e'
    ·subst e
     obtain ⟨_, _, _, g0, z', y0, hg0, _⟩ := h.pkCl hdc
     exact absurd hp (mem_part hg0 (by intro e; subst e; rw [hd] at hdc; cases hdc) (by rw [offersAt_parked_recv]; simp))
 ·obtain ⟨j, gj, zj, shj, d, hji, hgj, hr⟩ := crowd_send_meets_some (sl := sl) hi hst' h.hcd hp (fun j k hjk => by
   obtain ⟨h1, h2, x, h3, h4⟩ := h.part hjk
   rcases h4 with ⟨_, h4, _⟩ | ⟨_, h4, _⟩ | ⟨_, _, rem, g0, z0, _, rfl⟩ | ⟨h4, _⟩
   ·cases h4
   ·cases h4
   ·exact ⟨h2, h1, _, _, _, h3⟩
   ·exact absurd h4.symm h.ne)
  obtain ⟨_, hof⟩ := (h.sit j _ hgj).offers h.ne (c := cd) (send := false) (k := 0) (by rw [offersAt_parked_recv]; simp)
  rcases hof with ⟨_, h4, _⟩ | ⟨_, h4, _⟩ | ⟨_, _, k', g0, z0, hdj, he⟩ | ⟨h4, _⟩
  ·cases h4
  ·cases h4
  rotate_left
  ·exact absurd h4.symm h.ne
  obtain ⟨_, hsh, hserved⟩ := parked_inj he
  subst hsh
  obtain ⟨k'', hk'', _, g0', z0', y0, hg0', hy0, ha⟩ := h.pkCl hdj
  obtain rfl : k' = k'' := by omega
  rw [hgj] at hg0'
  obtain ⟨_, _, hserved'⟩ := parked_inj (Option.some.inj hg0')
  rw [finishComm_recv, finishComm_send, ofEvents_none, hserved'] at hr
  obtain ⟨xc, xj, hpot, _, _, hltc, _, hP⟩ := h.meet2 (j := i) hd hdj hy hy0 (gj := Conc.served (core g) undef) (gc := Conc.served (core g0') (recvd false (.bool true) true)) hnext (ha.2.2.1 _) (f1 := (core g).frame.fn) (f2 := gj.frame.fn) (p1 := (core g).frame.place) (p2 := gj.frame.place) d
  refine ⟨_, _, _, _, _, _, _, _, _, hr, ?_, by simpa using hP⟩
  simpa using mu_pot2 (x := xj) (y := xc) hlt hltc hji (by omega)
theorem PI.stepCl (h : PI P B cf cd MJ' D th clo cls s1 s2 tm1 tm2 gs w t) {i k : Nat} {T : Tree} (hi : gs[i]? = some g) (hd : D i = .cl (k + 1) (some T)) (hpos : 0 < i) (hy : th i = some y) (hk : CK P B cf cd (k + 1) y.R y.H g) : Nx P B cf cd MJ' D tm1 tm2 gs w sl t i := by
 obtain ⟨rfl, rfl⟩ := h.notClosed (i := i) (.inr (.inl ⟨_, _, hd⟩))
 obtain ⟨z, hrun, hst, hgot, hnil⟩ := hk
 have hi0 : (i == 0) = false := by simp; omega
 have hst' : stepG P (i == 0) g w = .comm (core g) #[rcase cd z] true (.recv false) w #[] := by rw [hi0]; exact hst w (h.mem.fits i y hy)
 have hlt := lt_of_get hi
 by_cases hp : partners (gs.setIfInBounds i Go.Conc.ph) cd true = []
 ·have hr := crowd_waits (sl := sl) hi hst' (fun cc hcc => by simp at hcc; subst hcc; exact ways_recv_none h.hcd hp)
  rw [ofEvents_none] at hr
  refine ⟨_, _, _, updD D i (.cl (k + 1) none), th, false, none, s1, s2, hr, ?_, ?_⟩
  ·simpa using mu_msr (x := .cl (k + 1) none) hlt (by rw [hd]; rfl) rfl .none (by rw [hd]; rfl)
  ·refine h.one hlt (by simp) (Array.getElem?_setIfInBounds_self_of_lt hlt) (fun j hj => Array.getElem?_setIfInBounds_ne (Ne.symm hj)) h.mem (by simpa using h.tr) (fun _ _ => rfl) ⟨⟨y, hy, .inr ⟨rfl, g, z, ⟨hrun, hst, hgot, hnil⟩, rfl⟩⟩, hpos⟩ ?_
   have ev : vals (updD D i (.cl (k + 1) none)) gs.size = vals D gs.size := vals_upd (by rw [hd]; rfl)
   have ea : sumT gs.size (fun j => (updD D i (.cl (k + 1) none) j).act) = sumT gs.size (fun j => (D j).act) := act_upd (by rw [hd]; rfl)
   cases h.ph with
   | spawning h0 hpv hcl hw => exact absurd hd (hcl i _ _)
   | @ranging rem m ic kc mc h0 hpv hic hdc hun hkc hw1 hw2 =>
    obtain rfl := hun i _ _ hd
    rw [hd] at hdc; cases hdc
    refine .ranging (ic := i) (by rw [updD_ne (by omega)]; exact h0) (ev ▸ hpv) hic (updD_same _ _ _) (fun j k' m e => ?_) (by rw [ea]; exact hkc) (fun e j v e' => ?_) (fun e j e' => ?_)
    ·by_cases hj : j = i
     ·exact hj
     ·rw [updD_ne hj] at e; exact hun j k' m e
    ·by_cases hj : j = i
     ·subst hj; rw [updD_same] at e'; cases e'
     ·rw [updD_ne hj] at e'; exact hw1 e j v e'
    ·by_cases hj : j = i
     ·subst hj; rw [updD_same] at e'; cases e'
     ·rw [updD_ne hj] at e'
      obtain ⟨_, g0, z', y0, hg0, _⟩ := h.pkW2 e'
      exact absurd hp (mem_part hg0 hj (by rw [offersAt_parked_send]; simp))
 ·obtain ⟨j, gj, vj, zj, shj, d, hji, hgj, hr⟩ := crowd_recv_meets_some (sl := sl) hi hst' h.hcd hp (fun j k hjk => by
   obtain ⟨h1, h2, x, h3, h4⟩ := h.part hjk
   rcases h4 with ⟨h4, _⟩ | ⟨_, _, g0, z0, _, rfl⟩ | ⟨_, h4, _⟩ | ⟨h4, _⟩
   ·exact absurd h4.symm h.ne
   ·exact ⟨h2, h1, _, _, _, _, h3⟩
   ·cases h4
   ·exact absurd h4.symm h.ne)
  obtain ⟨_, hof⟩ := (h.sit j _ hgj).offers h.ne (c := cd) (send := true) (k := 0) (by rw [offersAt_parked_send]; simp)
  rcases hof with ⟨h4, _⟩ | ⟨_, _, g0, z0, hdj, he⟩ | ⟨_, h4, _⟩ | ⟨h4, _⟩
  ·exact absurd h4.symm h.ne
  rotate_left
  ·cases h4
  ·exact absurd h4.symm h.ne
  obtain ⟨_, hsh, hserved⟩ := parked_inj he
  subst hsh
  obtain ⟨_, g0', z0', yj, hg0', hyj, ha⟩ := h.pkW2 hdj
  rw [hgj] at hg0'
  obtain ⟨_, _, hserved'⟩ := parked_inj (Option.some.inj hg0')
  rw [finishComm_recv, finishComm_send, ofEvents_none, hserved'] at hr
  obtain ⟨xc, xj, hpot, _, hltj, _, hP, _⟩ := h.meet2 (j := j) hdj hd hyj hy (gj := Conc.served (core g0') undef) (gc := Conc.served (core g) (recvd false vj true)) ha.2.2 (hgot _) (f1 := gj.frame.fn) (f2 := (core g).frame.fn) (p1 := gj.frame.place) (p2 := (core g).frame.place) d
  refine ⟨_, _, _, _, _, _, _, _, _, hr, ?_, by simpa using hP⟩
  simpa using mu_pot2 (x := xc) (y := xj) hlt hltj hji (by omega)
theorem PI.stepClose (h : PI P B cf cd MJ' D th clo cls s1 s2 tm1 tm2 gs w t) {i : Nat} {T : Tree} (hi : gs[i]? = some g) (hd : D i = .cl 0 (some T)) (hpos : 0 < i) (hy : th i = some y) (hk : CK P B cf cd 0 y.R y.H g) : Nx P B cf cd MJ' D tm1 tm2 gs w sl t i := by
 obtain ⟨rfl, rfl⟩ := h.notClosed (i := i) (.inr (.inl ⟨_, _, hd⟩))
 obtain ⟨hrun, hmw, g', n, hst, hq⟩ := hk
 have hi0 : (i == 0) = false := by simp; omega
 have hlt := lt_of_get hi
 have hst' := hst w s1 s1 tm1 (h.mem.fits i y hy) h.hcf
 have hr := runT_crowd_go (P := P) (sl := sl) hi (by rw [hi0]; exact hst')
 cases h.ph with
 | spawning h0 hpv hcl hw => exact absurd hd (hcl i _ _)
 | @ranging rem m ic kc mc h0 hpv hic hdc hun hkc hw1 hw2 =>
  obtain rfl := hun i _ _ hd
  rw [hd] at hdc; cases hdc
  have hz := act_zero hkc.symm
  have hac : ∀ j, (D j).act = 0 := fun j => by
   rcases Nat.lt_or_ge j gs.size with hj | hj
   ·exact hz j hj
   ·rw [(h.out j hj).2]; rfl
  obtain ⟨x0, hx0⟩ := h.there (i := 0) (by rw [h0]; intro n e; cases e)
  have hs0 := h.sit 0 x0 hx0
  rw [h0] at hs0
  have hlen : rem.length = 0 := by
   have h1 := hpv.length_eq
   have h2 := vals_len (D := D) (n := gs.size)
   omega
  have hc0 : (w.shut cf s1 s1 tm1).heap[cf]? = some (.chan 0 #[] true s1 s1 tm1) := by
   have := lt_of_heap h.hcf
   simp [World.shut, this]
  obtain ⟨T0, hsit0⟩ : ∃ T0, Sit P B cf cd MJ' 0 (.mr rem (some T0)) (th 0) (woken P g g' (w.shut cf s1 s1 tm1) x0) := by
   obtain ⟨⟨y0, hy0, ⟨T0, rfl, h1⟩ | ⟨rfl, h1⟩⟩, _⟩ := hs0
   ·refine ⟨T0, ⟨y0, hy0, .inl ⟨T0, rfl, ?_⟩⟩, rfl⟩
    unfold woken
    split
    ·rw [again_running _ (.inl (h1.unf fun _ _ _ => MRk.run))]; exact h1
    ·exact h1
   ·refine ⟨.node Empty Empty.elim, ⟨y0, hy0, .inl ⟨_, rfl, .inl ?_⟩⟩, rfl⟩
    rw [hlen] at h1 ⊢
    obtain ⟨g0, z, ha, rfl⟩ := h1
    have hg' : g'.status = .running ∨ g'.status = .finished := hq.status
    have hw : woken P g g' (w.shut cf s1 s1 tm1) (parked (core g0) #[rcase cf z] (.recv true)) = { parked (core g0) #[rcase cf z] (.recv true) with status := .running } := by
     unfold woken
     rw [if_pos]
     ·exact again_parked_shut rfl hc0
     ·rcases hg' with e | e <;> simp [hmw, e]
    rw [hw]
    have hcore : ∀ v, Conc.served (core { parked (core g0) #[rcase cf z] (.recv true) with status := .running }) v = Conc.served (core g0) v := fun v => rfl
    refine ⟨z, rfl, fun w hw => ?_, fun v => ?_, ?_⟩
    ·exact (stepG_same rfl rfl rfl w).trans (ha.2.1 w hw)
    ·exact trivial
    ·rw [hcore]; exact ha.2.2.2
  have harr : (gs.map (woken P g g' (w.shut cf s1 s1 tm1))).setIfInBounds i g' = (gs.setIfInBounds 0 (woken P g g' (w.shut cf s1 s1 tm1) x0)).setIfInBounds i g' := by
   apply Array.ext_getElem?
   intro k
   by_cases hki : k = i
   ·subst hki
    rw [Array.getElem?_setIfInBounds_self_of_lt (by simpa using hlt), Array.getElem?_setIfInBounds_self_of_lt (by simpa using hlt)]
   ·rw [Array.getElem?_setIfInBounds_ne (Ne.symm hki), Array.getElem?_setIfInBounds_ne (Ne.symm hki), Array.getElem?_map]
    by_cases hk0 : k = 0
    ·subst hk0
     rw [Array.getElem?_setIfInBounds_self_of_lt h.pos, hx0]; rfl
    ·rw [Array.getElem?_setIfInBounds_ne (Ne.symm hk0)]
     cases hgk : gs[k]? with
     | none => rfl
     | some x =>
      rw [Option.map_some]
      congr 1
      have hcd : (w.shut cf s1 s1 tm1).heap[cd]? = some (.chan 0 #[] false s2 s2 tm2) := by
       rw [← h.hcd]
       exact Array.getElem?_setIfInBounds_ne h.ne
      refine (h.sit k x hgk).again hcd (.inr ⟨fun v e => ?_, fun rem e => ?_⟩) (s1 := s1) (tm1 := tm1)
      ·have := hac k; rw [e] at this; cases this
      ·have hsk := h.sit k x hgk
       rw [e] at hsk
       exact hk0 hsk.2
  rw [harr] at hr
  refine ⟨_, _, _, updD (updD D 0 (.mr rem (some T0))) i (.lv n), updT th i none, true, some cf, s1, s2, hr, ?_, ?_⟩
  ·simpa using mu_pot2 (x := .lv n) (y := .mr rem (some T0)) hlt h.pos (by omega) (by rw [hd, h0]; simp only [Dt.pot]; omega)
  ·have hm := (h.mem.setf (s1' := s1) h.ne true).drop (i := i)
   have hlow : cf < w.heap.size := lt_of_heap h.hcf
   have ht1 := TrI.app (u := #[(⟨i, g.frame.fn, g.frame.place, .access ⟨.obj cf, false, true⟩⟩ : MemOp)]) h.mem rfl h.tr hy (R' := y.R) (H' := y.H) (n' := w.heap.size) (by simp)
    (fun op hop a ha => by
     simp at hop; subst hop
     simp [MemAct.touch?] at ha; subst ha
     exact ⟨cf, rfl, .inr (.inr (.inr ⟨rfl, _, List.mem_cons_self⟩))⟩)
    (fun op hop => by simp at hop; subst hop; exact hlow) (fun op hop m hm => by simp at hop; subst hop; cases hm) (Nat.le_refl _) (fun b o x => .inl x) (fun b o x => .inl ⟨o, x⟩)
   rw [updT_self hy] at ht1
   have ht2 := (ht1.muteClose (y := ⟨i, g.frame.fn, g.frame.place, .close cf⟩) rfl rfl hlow).chs2 (s1' := s1) (s2' := s2) (clo' := true)
   have hops : t ++ MemOp.ofEvents i g.frame.fn g.frame.place #[⟨.obj cf, false, true⟩, ⟨.obj cf, true, true⟩] = (t ++ #[(⟨i, g.frame.fn, g.frame.place, .access ⟨.obj cf, false, true⟩⟩ : MemOp)]) ++ #[⟨i, g.frame.fn, g.frame.place, .close cf⟩] := by
    rw [ofEvents_eq, Array.append_assoc]; congr 1; simp [MemAct.ofEvent]
   rw [hops]
   refine h.two hlt h.pos (by omega) hm (by simpa [World.shut] using ht2) (fun k h1 h2 => updT_ne h1) ⟨updT_same _ _ _, hq, hpos⟩ (by rw [updT_ne (by omega)]; exact hsit0) ?_
   have hrem : rem = [] := List.length_eq_zero_iff.1 hlen
   refine .closed (rem := rem) (m := some T0) (by rw [updD_ne (by omega), updD_same]) ?_ (fun j k m e => ?_) (fun j => ?_) (by simp)
   ·rw [vals_upd (by rw [updD_ne (by omega), hd]; rfl), vals_upd (by rw [h0]; rfl)]; exact hpv
   ·by_cases hj : j = i
    ·subst hj; rw [updD_same] at e; cases e
    ·rw [updD_ne hj] at e
     by_cases hj0 : j = 0
     ·subst hj0; rw [updD_same] at e; cases e
     ·rw [updD_ne hj0] at e; exact hj (hun j k m e)
   ·by_cases hj : j = i
    ·subst hj; rw [updD_same]; rfl
    ·rw [updD_ne hj]
     by_cases hj0 : j = 0
     ·subst hj0; rw [updD_same]; rfl
     ·rw [updD_ne hj0]; exact hac j
end
end Go.Lg
