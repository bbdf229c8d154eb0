/- The machine, seventh part: each communication of the workers' machine; the run. Conditions: none; over any program. -/
import Derived.Test.YtabamagholjdcaaGreatDoorQLgStep2
namespace Go.Lg
open Go.Conc
theorem parked_inj {a b : Goroutine} {cs cs' : Array CommCase} {sh sh' : CommShape} (h : parked a cs sh = parked b cs' sh') : cs = cs' ∧ sh = sh' ∧ ∀ v, Conc.served a v = Conc.served b v := by
 obtain ⟨f, c, s, d, o⟩ := a
 obtain ⟨f', c', s', d', o'⟩ := b
 simp only [parked, Goroutine.mk.injEq, Option.some.injEq, Prod.mk.injEq] at h
 obtain ⟨rfl, rfl, _, rfl, rfl, rfl⟩ := h
 exact ⟨rfl, rfl, fun _ => rfl⟩
section
variable {P : Program} {B : Base} {cf cd : Nat} {MJ' : RMap → HList → Goroutine → Prop} {D : Nat → Dt} {th : Nat → Option Th} {clo : Bool} {cls : Option Nat} {s1 s2 : Nat} {tm1 tm2 : Bool} {gs : Array Goroutine} {w : World} {sl : Option (Nat × Nat)} {t : Trace}
def Nx (P : Program) (B : Base) (cf cd : Nat) (MJ' : RMap → HList → Goroutine → Prop) (D : Nat → Dt) (tm1 tm2 : Bool) (gs : Array Goroutine) (w : World) (sl : Option (Nat × Nat)) (t : Trace) (i : Nat) : Prop :=
 ∃ gs' w' ops D' th' clo' cls' s1' s2', runT P (crowd gs w sl) i = (.next (crowd gs' w' sl), ops) ∧ MuLt (mu D' gs'.size) (mu D gs.size) ∧ PI P B cf cd MJ' D' th' clo' cls' s1' s2' tm1 tm2 gs' w' (t ++ ops)
theorem PI.notClosed (h : PI P B cf cd MJ' D th clo cls s1 s2 tm1 tm2 gs w t) {i : Nat} (ha : 0 < (D i).act ∨ (∃ k m, D i = .cl k m) ∨ (∃ k sp m, D i = .ms k sp m) ∧ i = 0) : clo = false ∧ cls = none := by
 cases h.ph with
 | spawning => exact ⟨rfl, rfl⟩
 | ranging => exact ⟨rfl, rfl⟩
 | closed h0 hp hc hac hm =>
  rcases ha with ha | ⟨k, m, e⟩ | ⟨⟨k, sp, m, e⟩, rfl⟩
  ·rw [hac i] at ha; cases ha
  ·exact absurd e (hc i k m)
  ·rw [h0] at e; cases e
theorem PI.there (h : PI P B cf cd MJ' D th clo cls s1 s2 tm1 tm2 gs w t) {i : Nat} (hd : ∀ n, D i ≠ .lv n) : ∃ g, gs[i]? = some g := by
 rcases Nat.lt_or_ge i gs.size with hlt | hge
 ·exact ⟨_, Array.getElem?_eq_getElem hlt⟩
 ·exact absurd (h.out i hge).2 (hd 0)
theorem PI.pkMr (h : PI P B cf cd MJ' D th clo cls s1 s2 tm1 tm2 gs w t) {i : Nat} {rem : List Value} (hd : D i = .mr rem none) :
  i = 0 ∧ ∃ g0 z y, gs[0]? = some (parked (core g0) #[rcase cf z] (.recv true)) ∧ th 0 = some y ∧ PkM P B cf MJ' rem.length rem y.R y.H (parked (core g0) #[rcase cf z] (.recv true)) := by
 obtain ⟨g, hg⟩ := h.there (i := i) (by rw [hd]; intro n e; cases e)
 have hs := h.sit i g hg
 have hl := hs.look
 rw [hd] at hs hl
 obtain ⟨⟨y, hy, ⟨T, e, _⟩ | ⟨_, hp⟩⟩, rfl⟩ := hs
 ·cases e
 rcases hl with ⟨_, T, e⟩ | e | ⟨v, g0, z, e, _⟩ | ⟨g0, z, e, _⟩ | ⟨k, g0, z, e, _⟩ | ⟨rem', g0, z, e, rfl⟩
 ·cases e
 ·exfalso
  have : g.status = .blocked := by
   generalize rem.length = k at hp
   cases k <;> (obtain ⟨g0, z, _, rfl⟩ := hp; rfl)
  rw [this] at e; cases e
 ·cases e
 ·cases e
 ·cases e
 ·exact ⟨rfl, g0, z, y, hg, hy, hp⟩
theorem PI.pkCl (h : PI P B cf cd MJ' D th clo cls s1 s2 tm1 tm2 gs w t) {i k : Nat} (hd : D i = .cl k none) :
  ∃ k', k = k' + 1 ∧ 0 < i ∧ ∃ g0 z y, gs[i]? = some (parked (core g0) #[rcase cd z] (.recv false)) ∧ th i = some y ∧ AtR P B false cd false (CGot P B (CK P B cf cd k')) Tt z y.R y.H g0 := by
 obtain ⟨g, hg⟩ := h.there (i := i) (by rw [hd]; intro n e; cases e)
 have hs := h.sit i g hg
 rw [hd] at hs
 obtain ⟨⟨y, hy, ⟨T, e, _⟩ | ⟨_, hp⟩⟩, hpos⟩ := hs
 ·cases e
 cases k with
 | zero => exact hp.elim
 | succ k => obtain ⟨g0, z, ha, rfl⟩ := hp; exact ⟨k, rfl, hpos, g0, z, y, hg, hy, ha⟩
theorem PI.pkW1 (h : PI P B cf cd MJ' D th clo cls s1 s2 tm1 tm2 gs w t) {i : Nat} {v : Value} (hd : D i = .w1 v none) :
  0 < i ∧ ∃ g0 z y, gs[i]? = some (parked (core g0) #[scase cf v z] .send) ∧ th i = some y ∧ AtS P B false cf v (W2 P B cd) z y.R y.H g0 := by
 obtain ⟨g, hg⟩ := h.there (i := i) (by rw [hd]; intro n e; cases e)
 have hs := h.sit i g hg
 rw [hd] at hs
 obtain ⟨⟨y, hy, ⟨T, e, _⟩ | ⟨_, g0, z, ha, rfl⟩⟩, hpos⟩ := hs
 ·cases e
 exact ⟨hpos, g0, z, y, hg, hy, ha⟩
theorem PI.pkW2 (h : PI P B cf cd MJ' D th clo cls s1 s2 tm1 tm2 gs w t) {i : Nat} (hd : D i = .w2 none) :
  0 < i ∧ ∃ g0 z y, gs[i]? = some (parked (core g0) #[scase cd (.bool true) z] .send) ∧ th i = some y ∧ AtS P B false cd (.bool true) (Lv P) z y.R y.H g0 := by
 obtain ⟨g, hg⟩ := h.there (i := i) (by rw [hd]; intro n e; cases e)
 have hs := h.sit i g hg
 rw [hd] at hs
 obtain ⟨⟨y, hy, ⟨T, e, _⟩ | ⟨_, g0, z, ha, rfl⟩⟩, hpos⟩ := hs
 ·cases e
 exact ⟨hpos, g0, z, y, hg, hy, ha⟩
theorem mem_part {i j c : Nat} {x : Goroutine} {send : Bool} (hj : gs[j]? = some x) (hji : j ≠ i) (hk : 0 ∈ offersAt x c send) : partners (gs.setIfInBounds i Go.Conc.ph) c send ≠ [] := by
 intro e
 have : (j, 0) ∈ partners (gs.setIfInBounds i Go.Conc.ph) c send := mem_partners.2 ⟨x, stand_get hji hj, hk⟩
 rw [e] at this; cases this
theorem vals_upd {n i : Nat} {x : Dt} (hx : x.vof = (D i).vof) : vals (updD D i x) n = vals D n := vals_congr fun j _ => by
 by_cases hj : j = i
 ·subst hj; rw [updD_same, hx]
 ·rw [updD_ne hj]
theorem act_upd {n i : Nat} {x : Dt} (hx : x.act = (D i).act) : sumT n (fun j => (updD D i x j).act) = sumT n (fun j => (D j).act) := sumT_congr fun j _ => by
 by_cases hj : j = i
 ·subst hj; rw [updD_same, hx]
 ·rw [updD_ne hj]
theorem PI.meet1 (h : PI P B cf cd MJ' D th clo cls s1 s2 tm1 tm2 gs w t) {j : Nat} {v : Value} {m mm : Ms} {rem : List Value} {y y0 : Th} (hj : D j = .w1 v m) (h0 : D 0 = .mr rem mm) (hyj : th j = some y) (hy0 : th 0 = some y0) {g0 gj : Goroutine}
  (hn : W2 P B cd y.R y.H gj) (hg : ∀ k, rem.length = k + 1 → MGot P B rem (MRk P B cf MJ' k) v y0.R y0.H g0) {u : Trace} (hu : (∀ op ∈ u, op.act.touch? = none) ∧ (∀ op ∈ u, op.act.low w.heap.size) ∧ Wordless u) (d : Nat) :
  ∃ x0 xj, x0.pot + xj.pot < (D 0).pot + (D j).pot ∧ j ≠ 0 ∧ j < gs.size ∧
   PI P B cf cd MJ' (updD (updD D j xj) 0 x0) th clo cls (s1 + 1) s2 tm1 tm2 ((gs.setIfInBounds j gj).setIfInBounds 0 g0) ((w.at d).setChan cf 0 #[] false (s1 + 1) (s1 + 1) tm1) (t ++ u) ∧
   PI P B cf cd MJ' (updD (updD D 0 x0) j xj) th clo cls (s1 + 1) s2 tm1 tm2 ((gs.setIfInBounds 0 g0).setIfInBounds j gj) ((w.at d).setChan cf 0 #[] false (s1 + 1) (s1 + 1) tm1) (t ++ u) := by
 obtain ⟨rfl, rfl⟩ := h.notClosed (i := j) (.inl (by rw [hj]; exact Nat.one_pos))
 obtain ⟨x, hx⟩ := h.there (i := j) (by rw [hj]; intro n e; cases e)
 have hlt := lt_of_get hx
 have hj0 : j ≠ 0 := by intro e; subst e; rw [h0] at hj; cases hj
 cases h.ph with
 | spawning h0' => rw [h0] at h0'; cases h0'
 | @ranging rem' m' ic kc mc h0' hp hic hdc hun hk hw1 hw2 =>
  rw [h0] at h0'; cases h0'
  obtain ⟨T2, hT2⟩ := hn
  have hv := vals_take (D := D) (D' := updD D j (.w2 (some T2))) (i := j) (v := v) (by rw [hj]; rfl) (by rw [updD_same]; rfl) (fun k hk => by rw [updD_ne hk]) hlt
  have hperm := hp.symm.trans hv
  have hlen := hperm.length_eq
  simp only [List.length_cons] at hlen
  obtain ⟨T0, hT0⟩ := hg _ hlen _ hperm
  have hicj : ic ≠ j := by intro e; subst e; rw [hj] at hdc; cases hdc
  have hic0 : ic ≠ 0 := by intro e; subst e; rw [h0] at hdc; cases hdc
  refine ⟨.mr (vals (updD D j (.w2 (some T2))) gs.size) (some T0), .w2 (some T2), by rw [h0, hj]; simp only [Dt.pot]; omega, hj0, hlt, ?_, ?_⟩
  ·have hm := (h.mem.at d).setf (s1' := s1 + 1) h.ne false
   refine h.two h.pos hlt hj0 hm (show TrI _ _ _ _ (t ++ u) from ?_) (fun _ _ _ => rfl) ⟨⟨y0, hy0, .inl ⟨T0, rfl, hT0⟩⟩, rfl⟩ ⟨⟨y, hyj, .inl ⟨T2, rfl, hT2⟩⟩, by omega⟩ ?_
   ·have := (h.tr.mute hu.1 hu.2.1 hu.2.2).chs2 (s1' := s1 + 1) (s2' := s2) (clo' := false)
    simpa [World.setChan, World.at] using this
   ·refine .ranging (ic := ic) (kc := kc) (mc := mc) (updD_same _ _ _) ?_ hic (by rw [updD_ne hic0, updD_ne hicj]; exact hdc) (fun k k' m e => ?_) ?_ (fun e => by cases e) (fun e k e' => ?_)
    ·rw [vals_upd (by rw [updD_ne (Ne.symm hj0), h0]; rfl)]
    ·by_cases hk0 : k = 0
     ·subst hk0; rw [updD_same] at e; cases e
     ·rw [updD_ne hk0] at e
      by_cases hkj : k = j
      ·subst hkj; rw [updD_same] at e; cases e
      ·rw [updD_ne hkj] at e; exact hun k k' m e
    ·rw [act_upd (by rw [updD_ne (Ne.symm hj0), h0]; rfl), act_upd (by rw [hj]; rfl)]; exact hk
    ·by_cases hk0 : k = 0
     ·subst hk0; rw [updD_same] at e'; cases e'
     ·rw [updD_ne hk0] at e'
      by_cases hkj : k = j
      ·subst hkj; rw [updD_same] at e'; cases e'
      ·rw [updD_ne hkj] at e'; exact hw2 e k e'
  ·have hm := (h.mem.at d).setf (s1' := s1 + 1) h.ne false
   refine h.two hlt h.pos (Ne.symm hj0) hm (show TrI _ _ _ _ (t ++ u) from ?_) (fun _ _ _ => rfl) ⟨⟨y, hyj, .inl ⟨T2, rfl, hT2⟩⟩, by omega⟩ ⟨⟨y0, hy0, .inl ⟨T0, rfl, hT0⟩⟩, rfl⟩ ?_
   ·have := (h.tr.mute hu.1 hu.2.1 hu.2.2).chs2 (s1' := s1 + 1) (s2' := s2) (clo' := false)
    simpa [World.setChan, World.at] using this
   ·have ec : updD (updD D 0 (.mr (vals (updD D j (.w2 (some T2))) gs.size) (some T0))) j (.w2 (some T2)) = updD (updD D j (.w2 (some T2))) 0 (.mr (vals (updD D j (.w2 (some T2))) gs.size) (some T0)) := by
     funext k
     by_cases hk0 : k = 0
     ·subst hk0; rw [updD_ne (Ne.symm hj0), updD_same, updD_same]
     ·rw [updD_ne hk0 (D := updD D j _)]
      by_cases hkj : k = j
      ·subst hkj; rw [updD_same, updD_same]
      ·rw [updD_ne hkj, updD_ne hk0, updD_ne hkj]
    rw [ec]
    refine .ranging (ic := ic) (kc := kc) (mc := mc) (updD_same _ _ _) ?_ hic (by rw [updD_ne hic0, updD_ne hicj]; exact hdc) (fun k k' m e => ?_) ?_ (fun e => by cases e) (fun e k e' => ?_)
    ·rw [vals_upd (by rw [updD_ne (Ne.symm hj0), h0]; rfl)]
    ·by_cases hk0 : k = 0
     ·subst hk0; rw [updD_same] at e; cases e
     ·rw [updD_ne hk0] at e
      by_cases hkj : k = j
      ·subst hkj; rw [updD_same] at e; cases e
      ·rw [updD_ne hkj] at e; exact hun k k' m e
    ·rw [act_upd (by rw [updD_ne (Ne.symm hj0), h0]; rfl), act_upd (by rw [hj]; rfl)]; exact hk
    ·by_cases hk0 : k = 0
     ·subst hk0; rw [updD_same] at e'; cases e'
     ·rw [updD_ne hk0] at e'
      by_cases hkj : k = j
      ·subst hkj; rw [updD_same] at e'; cases e'
      ·rw [updD_ne hkj] at e'; exact hw2 e k e'
theorem PI.meet2 (h : PI P B cf cd MJ' D th clo cls s1 s2 tm1 tm2 gs w t) {j ic k : Nat} {m mc : Ms} {y yc : Th} (hj : D j = .w2 m) (hc : D ic = .cl (k + 1) mc) (hyj : th j = some y) (hyc : th ic = some yc) {gc gj : Goroutine}
  (hn : Lv P y.R y.H gj) (hg : Own P B false (CK P B cf cd k) yc.R yc.H gc) {f1 f2 : FuncId} {p1 p2 : String} (d : Nat) :
  ∃ xc xj, xc.pot + xj.pot < (D ic).pot + (D j).pot ∧ j ≠ ic ∧ j < gs.size ∧ ic < gs.size ∧
   PI P B cf cd MJ' (updD (updD D j xj) ic xc) (updT th j none) clo cls s1 (s2 + 1) tm1 tm2 ((gs.setIfInBounds j gj).setIfInBounds ic gc) ((w.at d).setChan cd 0 #[] false (s2 + 1) (s2 + 1) tm2) (t ++ #[⟨j, f1, p1, .send cd s2⟩, ⟨ic, f2, p2, .recv cd s2 0⟩, ⟨j, f1, p1, .sendDone cd s2⟩, ⟨ic, f2, p2, .recvDone cd s2⟩]) ∧
   PI P B cf cd MJ' (updD (updD D ic xc) j xj) (updT th j none) clo cls s1 (s2 + 1) tm1 tm2 ((gs.setIfInBounds ic gc).setIfInBounds j gj) ((w.at d).setChan cd 0 #[] false (s2 + 1) (s2 + 1) tm2) (t ++ #[⟨j, f1, p1, .send cd s2⟩, ⟨ic, f2, p2, .recv cd s2 0⟩, ⟨j, f1, p1, .sendDone cd s2⟩, ⟨ic, f2, p2, .recvDone cd s2⟩]) := by
 obtain ⟨rfl, rfl⟩ := h.notClosed (i := j) (.inl (by rw [hj]; exact Nat.one_pos))
 obtain ⟨x, hx⟩ := h.there (i := j) (by rw [hj]; intro n e; cases e)
 obtain ⟨xc, hxc⟩ := h.there (i := ic) (by rw [hc]; intro n e; cases e)
 have hlt := lt_of_get hx
 have hltc := lt_of_get hxc
 have hjc : j ≠ ic := by intro e; subst e; rw [hc] at hj; cases hj
 have hsj := h.sit j x hx
 rw [hj] at hsj
 have hposj := hsj.2
 have hsc := h.sit ic xc hxc
 rw [hc] at hsc
 have hposc := hsc.2
 cases h.ph with
 | spawning h0' hp hcl hw => exact absurd hj (hw j m)
 | @ranging rem m' ic' kc mc' h0 hp hic hdc hun hk hw1 hw2 =>
  obtain rfl := hun ic _ _ hc
  rw [hc] at hdc; cases hdc
  obtain ⟨n, hq⟩ := hn
  obtain ⟨T, hT⟩ := hg
  have hu := meet4 (a := j) (b := ic) (c := cd) (s := s2) (cap := 0) (n := w.heap.size) (f1 := f1) (f2 := f2) (p1 := p1) (p2 := p2) (lt_of_heap h.hcd)
  have htr : TrI (updT th j none) [(cf, .chan 0 #[] false s1 s1 tm1), (cd, .chan 0 #[] false (s2 + 1) (s2 + 1) tm2)] none w.heap.size (t ++ #[⟨j, f1, p1, .send cd s2⟩, ⟨ic, f2, p2, .recv cd s2 0⟩, ⟨j, f1, p1, .sendDone cd s2⟩, ⟨ic, f2, p2, .recvDone cd s2⟩]) := by
   refine (h.tr.muteDrop (i := j) hu.1 hu.2.1 hu.2.2 fun q hq => ⟨ic, yc, Ne.symm hjc, hyc, ?_⟩).chs2
   exact kn_meet (c := cd) (s := s2) (h.tr.quiet.append hu.2.2) (p := t.size) (q := t.size + 3) (Nat.le_refl _) (by simp; rfl) rfl rfl (by simp; rfl) rfl rfl hq
  have hm := ((h.mem.at d).setd (s2' := s2 + 1) h.ne).drop (i := j)
  have hph : ∀ D', (∀ k', k' ≠ ic → k' ≠ j → D' k' = D k') → D' ic = .cl k (some T) → D' j = .lv n → Ph cf gs.size D' false none := by
   intro D' hD hDc hDj
   have hv : vals D' gs.size = vals D gs.size := vals_congr fun i _ => by
    by_cases h1 : i = ic
    ·subst h1; rw [hDc, hc]; rfl
    ·by_cases h2 : i = j
     ·subst h2; rw [hDj, hj]; rfl
     ·rw [hD i h1 h2]
   have ha : sumT gs.size (fun i => (D' i).act) + 1 = sumT gs.size (fun i => (D i).act) := by
    have := sumT_upd (f := fun i => (D i).act) (g := fun i => (D' i).act) hlt (fun i hi => by
     by_cases h1 : i = ic
     ·subst h1; simp only [hDc, hc]; rfl
     ·simp only [hD i h1 hi])
    have e1 : (Dt.lv n).act = 0 := rfl
    have e2 : (Dt.w2 m).act = 1 := rfl
    simp only [hDj, hj, e1, e2] at this
    omega
   refine .ranging (ic := ic) (kc := k) (mc := some T) (by rw [hD 0 (by omega) (by omega)]; exact h0) (hv ▸ hp) hic hDc (fun i k' m e => ?_) (by omega) (fun e i v e' => ?_) (fun e => by cases e)
   ·by_cases h1 : i = ic
    ·exact h1
    ·by_cases h2 : i = j
     ·subst h2; rw [hDj] at e; cases e
     ·rw [hD i h1 h2] at e; exact hun i _ _ e
   ·by_cases h1 : i = ic
    ·subst h1; rw [hDc] at e'; cases e'
    ·by_cases h2 : i = j
     ·subst h2; rw [hDj] at e'; cases e'
     ·rw [hD i h1 h2] at e'; exact hw1 e i v e'
  refine ⟨.cl k (some T), .lv n, by rw [hj, hc]; simp only [Dt.pot]; omega, hjc, hlt, hltc, ?_, ?_⟩
  ·refine h.two hltc hlt hjc hm (show TrI _ _ _ _ _ from by simpa [World.setChan, World.at] using htr) (fun i h1 h2 => updT_ne h2) ⟨⟨yc, by rw [updT_ne (Ne.symm hjc)]; exact hyc, .inl ⟨T, rfl, hT⟩⟩, hposc⟩ ⟨updT_same _ _ _, hq, hposj⟩ ?_
   exact hph _ (fun i h1 h2 => by rw [updD_ne h1, updD_ne h2]) (updD_same _ _ _) (by rw [updD_ne hjc, updD_same])
  ·refine h.two hlt hltc (Ne.symm hjc) hm (show TrI _ _ _ _ _ from by simpa [World.setChan, World.at] using htr) (fun i h1 h2 => updT_ne h1) ⟨updT_same _ _ _, hq, hposj⟩ ⟨⟨yc, by rw [updT_ne (Ne.symm hjc)]; exact hyc, .inl ⟨T, rfl, hT⟩⟩, hposc⟩ ?_
   exact hph _ (fun i h1 h2 => by rw [updD_ne h2, updD_ne h1]) (by rw [updD_ne (Ne.symm hjc), updD_same]) (updD_same _ _ _)
end
end Go.Lg
