/- The machine, sixth part: what a step keeps of the workers' machine. Conditions: none; over any program. -/
import Derived.Test.YtabamagholjdcaaGreatDoorQLgStep
namespace Go.Lg
open Go.Conc
def Q (d d' : Dt) : Prop := d' = d ∨ (∃ n n', d = .lv n ∧ d' = .lv n') ∨ (∃ T, d' = d.set (some T))
theorem Q.vof {d d' : Dt} (h : Q d d') : d'.vof = d.vof := by
 rcases h with rfl | ⟨n, n', rfl, rfl⟩ | ⟨T, rfl⟩
 ·rfl
 ·rfl
 ·cases d <;> rfl
theorem Q.act {d d' : Dt} (h : Q d d') : d'.act = d.act := by
 rcases h with rfl | ⟨n, n', rfl, rfl⟩ | ⟨T, rfl⟩
 ·rfl
 ·rfl
 ·cases d <;> rfl
theorem Q.cl {d d' : Dt} (h : Q d d') {k : Nat} {m' : Ms} (e : d' = .cl k m') : ∃ m, d = .cl k m := by
 rcases h with rfl | ⟨n, n', rfl, rfl⟩ | ⟨T, rfl⟩
 ·exact ⟨_, e⟩
 ·cases e
 ·cases d <;> simp [Dt.set] at e
  exact ⟨_, by rw [e.1]⟩
theorem Q.cl' {d d' : Dt} (h : Q d d') {k : Nat} {m : Ms} (e : d = .cl k m) : ∃ m', d' = .cl k m' ∧ (m' = m ∨ m' ≠ none) := by
 subst e
 rcases h with rfl | ⟨n, n', h1, h2⟩ | ⟨T, rfl⟩
 ·exact ⟨_, rfl, .inl rfl⟩
 ·cases h1
 ·exact ⟨_, rfl, .inr (by simp)⟩
theorem Q.ms' {d d' : Dt} (h : Q d d') {k : Nat} {sp : List Value} {m : Ms} (e : d = .ms k sp m) : ∃ m', d' = .ms k sp m' := by
 subst e
 rcases h with rfl | ⟨n, n', h1, h2⟩ | ⟨T, rfl⟩
 ·exact ⟨_, rfl⟩
 ·cases h1
 ·exact ⟨_, rfl⟩
theorem Q.mr' {d d' : Dt} (h : Q d d') {rem : List Value} {m : Ms} (e : d = .mr rem m) : ∃ m', d' = .mr rem m' ∧ (m' = m ∨ m' ≠ none) := by
 subst e
 rcases h with rfl | ⟨n, n', h1, h2⟩ | ⟨T, rfl⟩
 ·exact ⟨_, rfl, .inl rfl⟩
 ·cases h1
 ·exact ⟨_, rfl, .inr (by simp)⟩
theorem Q.w1 {d d' : Dt} (h : Q d d') {v : Value} (e : d' = .w1 v none) : d = .w1 v none := by
 rcases h with rfl | ⟨n, n', rfl, rfl⟩ | ⟨T, rfl⟩
 ·exact e
 ·cases e
 ·cases d <;> simp [Dt.set] at e
theorem Q.w2 {d d' : Dt} (h : Q d d') (e : d' = .w2 none) : d = .w2 none := by
 rcases h with rfl | ⟨n, n', rfl, rfl⟩ | ⟨T, rfl⟩
 ·exact e
 ·cases e
 ·cases d <;> simp [Dt.set] at e
theorem Q.w2' {d d' : Dt} (h : Q d d') {m : Ms} (e : d' = .w2 m) : ∃ m, d = .w2 m := by
 rcases h with rfl | ⟨n, n', rfl, rfl⟩ | ⟨T, rfl⟩
 ·exact ⟨_, e⟩
 ·cases e
 ·cases d <;> simp [Dt.set] at e
  exact ⟨_, rfl⟩
theorem Q.upd {D : Nat → Dt} {i : Nat} {x : Dt} (h : Q (D i) x) (j : Nat) : Q (D j) (updD D i x j) := by
 by_cases hj : j = i
 ·subst hj; rw [updD_same]; exact h
 ·rw [updD_ne hj]; exact .inl rfl
theorem Ph.q {cf n : Nat} {D D' : Nat → Dt} {clo : Bool} {cls : Option Nat} (h : Ph cf n D clo cls) (hq : ∀ j, Q (D j) (D' j)) : Ph cf n D' clo cls := by
 have hv : vals D' n = vals D n := vals_congr fun i _ => (hq i).vof
 have ha : sumT n (fun i => (D' i).act) = sumT n (fun i => (D i).act) := sumT_congr fun i _ => (hq i).act
 cases h with
 | spawning h0 hp hc hw =>
  obtain ⟨m', h0'⟩ := (hq 0).ms' h0
  exact .spawning h0' (hv ▸ hp) (fun i k m e => let ⟨_, e'⟩ := (hq i).cl e; hc i k _ e') (fun i m e => let ⟨_, e'⟩ := (hq i).w2' e; hw i _ e')
 | @ranging rem m ic kc mc h0 hp hic hdc hun hk hw1 hw2 =>
  obtain ⟨m', h0', hm'⟩ := (hq 0).mr' h0
  obtain ⟨mc', hdc', hmc'⟩ := (hq ic).cl' hdc
  refine .ranging h0' (hv ▸ hp) hic hdc' (fun j k m e => let ⟨_, e'⟩ := (hq j).cl e; hun j k _ e') (by rw [ha]; exact hk) (fun e i v e' => ?_) (fun e i e' => ?_)
  ·rcases hm' with x | x
   ·exact hw1 (x ▸ e) i v ((hq i).w1 e')
   ·exact x e
  ·rcases hmc' with x | x
   ·exact hw2 (x ▸ e) i ((hq i).w2 e')
   ·exact x e
 | closed h0 hp hc hac hm =>
  obtain ⟨m', h0', hm'⟩ := (hq 0).mr' h0
  refine .closed h0' (hv ▸ hp) (fun i k m e => let ⟨_, e'⟩ := (hq i).cl e; hc i k _ e') (fun i => by rw [(hq i).act]; exact hac i) ?_
  rcases hm' with x | x
  ·rw [x]; exact hm
  ·exact x
section
variable {P : Program} {B : Base} {cf cd : Nat} {MJ' : RMap → HList → Goroutine → Prop} {D : Nat → Dt} {th : Nat → Option Th} {clo : Bool} {cls : Option Nat} {s1 s2 : Nat} {tm1 tm2 : Bool} {gs : Array Goroutine} {w : World} {sl : Option (Nat × Nat)} {t : Trace}
theorem PI.at (h : PI P B cf cd MJ' D th clo cls s1 s2 tm1 tm2 gs w t) (d : Nat) : PI P B cf cd MJ' D th clo cls s1 s2 tm1 tm2 gs (w.at d) t :=
 ⟨h.ne, h.mem.at d, h.tr, h.sit, h.out, h.ph, h.pos⟩
theorem PI.hcf (h : PI P B cf cd MJ' D th clo cls s1 s2 tm1 tm2 gs w t) : w.heap[cf]? = some (.chan 0 #[] clo s1 s1 tm1) := h.mem.chans _ _ (by simp)
theorem PI.hcd (h : PI P B cf cd MJ' D th clo cls s1 s2 tm1 tm2 gs w t) : w.heap[cd]? = some (.chan 0 #[] false s2 s2 tm2) := h.mem.chans _ _ (by simp)
theorem PI.noPk (h : PI P B cf cd MJ' D th clo cls s1 s2 tm1 tm2 gs w t) {j : Nat} {x : Goroutine} (hj : gs[j]? = some x) : clo = false ∨ ((∀ v, D j ≠ .w1 v none) ∧ ∀ rem, D j ≠ .mr rem none) := by
 have hs := h.sit j x hj
 cases h.ph with
 | spawning => exact .inl rfl
 | ranging => exact .inl rfl
 | closed h0 hp hc hac hm =>
  refine .inr ⟨fun v e => ?_, fun rem e => ?_⟩
  ·have := hac j; rw [e] at this; cases this
  ·rw [e] at hs
   have : j = 0 := hs.2
   subst this
   rw [h0] at e; cases e; exact hm rfl
theorem PI.again (h : PI P B cf cd MJ' D th clo cls s1 s2 tm1 tm2 gs w t) {th' : Nat → Option Th} {w' : World} (hm : MemI B th' [(cf, .chan 0 #[] clo s1 s1 tm1), (cd, .chan 0 #[] false s2 s2 tm2)] w')
  {j : Nat} {x a a' : Goroutine} (hj : gs[j]? = some x) : woken P a a' w' x = x := by
 refine (h.sit j x hj).again (hm.chans _ _ (by simp)) ?_ (s1 := s1) (s2 := s2) (tm1 := tm1) (tm2 := tm2)
 rcases h.noPk hj with e | e
 ·subst e; exact .inl (hm.chans _ _ (by simp))
 ·exact .inr e
theorem lt_of_get {gs : Array Goroutine} {i : Nat} {g : Goroutine} (h : gs[i]? = some g) : i < gs.size := (Array.getElem?_eq_some_iff.1 h).1
theorem PI.one (h : PI P B cf cd MJ' D th clo cls s1 s2 tm1 tm2 gs w t) {i : Nat} (hi : i < gs.size) {gs' : Array Goroutine} {g' : Goroutine} {w' : World} {t' : Trace} {th' : Nat → Option Th} {x : Dt} {clo' : Bool} {cls' : Option Nat} {s1' s2' : Nat}
  (hz : gs'.size = gs.size) (hg : gs'[i]? = some g') (ho : ∀ j, j ≠ i → gs'[j]? = gs[j]?)
  (hm : MemI B th' [(cf, .chan 0 #[] clo' s1' s1' tm1), (cd, .chan 0 #[] false s2' s2' tm2)] w') (ht : TrI th' [(cf, .chan 0 #[] clo' s1' s1' tm1), (cd, .chan 0 #[] false s2' s2' tm2)] cls' w'.heap.size t')
  (hth : ∀ j, j ≠ i → th' j = th j) (hs : Sit P B cf cd MJ' i x (th' i) g') (hph : Ph cf gs.size (updD D i x) clo' cls') :
  PI P B cf cd MJ' (updD D i x) th' clo' cls' s1' s2' tm1 tm2 gs' w' t' := by
 refine ⟨h.ne, hm, ht, fun j y hj => ?_, fun j hj => ?_, hz ▸ hph, hz ▸ h.pos⟩
 ·by_cases hji : j = i
  ·subst hji
   rw [hg] at hj; cases hj
   rw [updD_same]; exact hs
  ·rw [ho j hji] at hj
   rw [updD_ne hji, hth j hji]; exact h.sit j y hj
 ·have hji : j ≠ i := by omega
  rw [updD_ne hji, hth j hji]; exact h.out j (by omega)
theorem PI.two (h : PI P B cf cd MJ' D th clo cls s1 s2 tm1 tm2 gs w t) {i j : Nat} (hi : i < gs.size) (hj : j < gs.size) (hij : j ≠ i) {gi gj : Goroutine} {w' : World} {t' : Trace} {th' : Nat → Option Th} {x y : Dt} {clo' : Bool} {cls' : Option Nat} {s1' s2' : Nat}
  (hm : MemI B th' [(cf, .chan 0 #[] clo' s1' s1' tm1), (cd, .chan 0 #[] false s2' s2' tm2)] w') (ht : TrI th' [(cf, .chan 0 #[] clo' s1' s1' tm1), (cd, .chan 0 #[] false s2' s2' tm2)] cls' w'.heap.size t')
  (hth : ∀ k, k ≠ i → k ≠ j → th' k = th k) (hsi : Sit P B cf cd MJ' i x (th' i) gi) (hsj : Sit P B cf cd MJ' j y (th' j) gj) (hph : Ph cf gs.size (updD (updD D j y) i x) clo' cls') :
  PI P B cf cd MJ' (updD (updD D j y) i x) th' clo' cls' s1' s2' tm1 tm2 ((gs.setIfInBounds j gj).setIfInBounds i gi) w' t' := by
 refine ⟨h.ne, hm, ht, fun k z hk => ?_, fun k hk => ?_, by simpa using hph, by simpa using h.pos⟩
 ·by_cases hki : k = i
  ·subst hki
   rw [Array.getElem?_setIfInBounds_self_of_lt (by simpa using hi)] at hk; cases hk
   rw [updD_same]; exact hsi
  ·rw [Array.getElem?_setIfInBounds_ne (Ne.symm hki)] at hk
   rw [updD_ne hki]
   by_cases hkj : k = j
   ·subst hkj
    rw [Array.getElem?_setIfInBounds_self_of_lt hj] at hk; cases hk
    rw [updD_same]; exact hsj
   ·rw [Array.getElem?_setIfInBounds_ne (Ne.symm hkj)] at hk
    rw [updD_ne hkj, hth k hki hkj]; exact h.sit k z hk
 ·have hk' : gs.size ≤ k := by simpa using hk
  rw [updD_ne (by omega), updD_ne (by omega), hth k (by omega) (by omega)]; exact h.out k hk'
theorem PI.own (h : PI P B cf cd MJ' D th clo cls s1 s2 tm1 tm2 gs w t) {i : Nat} {g g' : Goroutine} {R R' : RMap} {H H' : HList} {w' : World} {es : Array Event} {T : Tree} (hi : gs[i]? = some g) (hth : th i = some ⟨R, H⟩)
  (hst : stepG P (i == 0) g w = .go g' w' es) (hes : ∀ e ∈ es, EvOk R H w.heap.size w'.heap.size e) (hu : Upd B R H w R' H' w') (hs : Sit P B cf cd MJ' i ((D i).set (some T)) (some ⟨R', H'⟩) g') :
  ∃ gs' ops, runT P (crowd gs w sl) i = (.next (crowd gs' w' sl), ops) ∧ gs'.size = gs.size ∧ PI P B cf cd MJ' (updD D i ((D i).set (some T))) (updT th i (some ⟨R', H'⟩)) clo cls s1 s2 tm1 tm2 gs' w' (t ++ ops) := by
 obtain ⟨hm, ht⟩ := own_step h.mem h.tr hth hes hu g.frame.fn g.frame.place
 have hlt := lt_of_get hi
 refine ⟨_, _, runT_crowd_go (sl := sl) hi hst, by simp, h.one hlt (by simp) (Array.getElem?_setIfInBounds_self_of_lt (by simpa using hlt)) (fun j hj => ?_) hm ht (fun j hj => updT_ne hj) (by rw [updT_same]; exact hs) (h.ph.q fun j => Q.upd (.inr (.inr ⟨T, rfl⟩)) j)⟩
 rw [Array.getElem?_setIfInBounds_ne (Ne.symm hj), Array.getElem?_map]
 cases hgj : gs[j]? with
 | none => rfl
 | some x => rw [Option.map_some, h.again hm hgj]
theorem PI.quit (h : PI P B cf cd MJ' D th clo cls s1 s2 tm1 tm2 gs w t) {i n : Nat} {g g' : Goroutine} (hi : gs[i]? = some g) (hd : D i = .lv (n + 1)) (hst : ∀ w, stepG P false g w = .go g' w #[]) (hq : QuitsIn P n g') :
  ∃ gs', runT P (crowd gs w sl) i = (.next (crowd gs' w sl), #[]) ∧ gs'.size = gs.size ∧ PI P B cf cd MJ' (updD D i (.lv n)) th clo cls s1 s2 tm1 tm2 gs' w t := by
 have hlt := lt_of_get hi
 have hs := h.sit i g hi
 rw [hd] at hs
 obtain ⟨hn, _, hpos⟩ := hs
 have hi0 : (i == 0) = false := by simp; omega
 have hrun := runT_crowd_go (P := P) (sl := sl) (w := w) hi (by rw [hi0]; exact hst w)
 rw [ofEvents_none] at hrun
 refine ⟨_, hrun, by simp, h.one hlt (by simp) (Array.getElem?_setIfInBounds_self_of_lt (by simpa using hlt)) (fun j hj => ?_) h.mem h.tr (fun j hj => rfl) ⟨hn, hq, hpos⟩ (h.ph.q fun j => Q.upd (.inr (.inl ⟨_, _, hd, rfl⟩)) j)⟩
 rw [Array.getElem?_setIfInBounds_ne (Ne.symm hj), Array.getElem?_map]
 cases hgj : gs[j]? with
 | none => rfl
 | some x => rw [Option.map_some, h.again h.mem hgj]
theorem PI.part (h : PI P B cf cd MJ' D th clo cls s1 s2 tm1 tm2 gs w t) {i c j k : Nat} {send : Bool} (hp : (j, k) ∈ partners (gs.setIfInBounds i Go.Conc.ph) c send) :
  j ≠ i ∧ k = 0 ∧ ∃ x, gs[j]? = some x ∧ ((c = cf ∧ send = true ∧ ∃ v g0 z, D j = .w1 v none ∧ x = parked (core g0) #[scase cf v z] .send) ∨
  (c = cd ∧ send = true ∧ ∃ g0 z, D j = .w2 none ∧ x = parked (core g0) #[scase cd (.bool true) z] .send) ∨
  (c = cd ∧ send = false ∧ ∃ k g0 z, D j = .cl (k + 1) none ∧ x = parked (core g0) #[rcase cd z] (.recv false)) ∨
  (c = cf ∧ send = false ∧ ∃ rem g0 z, D j = .mr rem none ∧ x = parked (core g0) #[rcase cf z] (.recv true))) := by
 obtain ⟨x, hx, hk⟩ := mem_partners.1 hp
 rcases getElem?_stand gs i j x hx with ⟨_, rfl⟩ | ⟨hji, hx⟩
 ·rw [offersAt_ph] at hk; cases hk
 ·obtain ⟨h0, hh⟩ := (h.sit j x hx).offers h.ne hk
  exact ⟨hji, h0, x, hx, hh⟩
theorem meet4 {a b c s cap n : Nat} {f1 f2 : FuncId} {p1 p2 : String} (hc : c < n) :
  (∀ op ∈ (#[⟨a, f1, p1, .send c s⟩, ⟨b, f2, p2, .recv c s cap⟩, ⟨a, f1, p1, .sendDone c s⟩, ⟨b, f2, p2, .recvDone c s⟩] : Trace), op.act.touch? = none) ∧
  (∀ op ∈ (#[⟨a, f1, p1, .send c s⟩, ⟨b, f2, p2, .recv c s cap⟩, ⟨a, f1, p1, .sendDone c s⟩, ⟨b, f2, p2, .recvDone c s⟩] : Trace), op.act.low n) ∧
  Wordless (#[⟨a, f1, p1, .send c s⟩, ⟨b, f2, p2, .recv c s cap⟩, ⟨a, f1, p1, .sendDone c s⟩, ⟨b, f2, p2, .recvDone c s⟩] : Trace) := by
 refine ⟨fun op hop => ?_, fun op hop => ?_, fun op hop m hm => ?_⟩
 all_goals (simp only [List.mem_toArray, List.mem_cons, List.not_mem_nil, or_false] at hop)
 ·rcases hop with rfl | rfl | rfl | rfl <;> rfl
 ·rcases hop with rfl | rfl | rfl | rfl <;> exact hc
 ·rcases hop with rfl | rfl | rfl | rfl <;> cases hm
theorem MemI.setf {s1' : Nat} (hne : cf ≠ cd) (h : MemI B th [(cf, .chan 0 #[] clo s1 s1 tm1), (cd, .chan 0 #[] false s2 s2 tm2)] w) (clo' : Bool) :
  MemI B th [(cf, .chan 0 #[] clo' s1' s1' tm1), (cd, .chan 0 #[] false s2 s2 tm2)] { w with heap := w.heap.setIfInBounds cf (.chan 0 #[] clo' s1' s1' tm1) } :=
 h.setc (c := cf) (o := .chan 0 #[] clo s1 s1 tm1) (by simp) fun x y hxy => by
  simp only [List.mem_cons, List.not_mem_nil, or_false, Prod.mk.injEq] at hxy ⊢
  rcases hxy with ⟨rfl, rfl⟩ | ⟨rfl, rfl⟩
  ·exact .inl ⟨rfl, rfl⟩
  ·exact .inr ⟨Ne.symm hne, .inr ⟨rfl, rfl⟩⟩
theorem MemI.setd {s2' : Nat} (hne : cf ≠ cd) (h : MemI B th [(cf, .chan 0 #[] clo s1 s1 tm1), (cd, .chan 0 #[] false s2 s2 tm2)] w) :
  MemI B th [(cf, .chan 0 #[] clo s1 s1 tm1), (cd, .chan 0 #[] false s2' s2' tm2)] { w with heap := w.heap.setIfInBounds cd (.chan 0 #[] false s2' s2' tm2) } :=
 h.setc (c := cd) (o := .chan 0 #[] false s2 s2 tm2) (by simp) fun x y hxy => by
  simp only [List.mem_cons, List.not_mem_nil, or_false, Prod.mk.injEq] at hxy ⊢
  rcases hxy with ⟨rfl, rfl⟩ | ⟨rfl, rfl⟩
  ·exact .inr ⟨hne, .inl ⟨rfl, rfl⟩⟩
  ·exact .inl ⟨rfl, rfl⟩
theorem TrI.chs2 {n s1' s2' : Nat} {clo' : Bool} (h : TrI th [(cf, .chan 0 #[] clo s1 s1 tm1), (cd, .chan 0 #[] false s2 s2 tm2)] cls n t) : TrI th [(cf, .chan 0 #[] clo' s1' s1' tm1), (cd, .chan 0 #[] false s2' s2' tm2)] cls n t :=
 h.chs fun x y hxy => by
  simp only [List.mem_cons, List.not_mem_nil, or_false, Prod.mk.injEq] at hxy
  rcases hxy with ⟨rfl, rfl⟩ | ⟨rfl, rfl⟩
  ·exact ⟨_, by simp; exact .inl rfl⟩
  ·exact ⟨_, List.mem_cons_of_mem _ (List.mem_singleton.2 rfl)⟩
end
end Go.Lg
