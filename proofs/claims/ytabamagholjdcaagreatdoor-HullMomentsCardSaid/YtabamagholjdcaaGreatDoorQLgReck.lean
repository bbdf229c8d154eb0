/- The machine, fourth part: N workers each send one value over a channel, then a word over another one; one that waits for all these words and closes the first channel; goroutine 0 that starts them all and takes the values till the channel is closed. Here: the scripts, what is held of the machine, small laws. Conditions: none; over any program. -/
import Derived.Test.YtabamagholjdcaaGreatDoorQLgAlone
import Derived.Conc.CrowdComm
namespace Go.Lg
open Go.Conc
section
variable {B : Base} {th : Nat → Option Th} {ch ch' : HList} {cls : Option Nat} {w : World} {n i : Nat} {R R' : RMap} {H : HList} {t u : Trace}
theorem MemI.setc (h : MemI B th ch w) {c : Nat} {o o' : Obj} (hc : (c, o) ∈ ch) (hch : ∀ x y, (x, y) ∈ ch' → (x = c ∧ y = o') ∨ (x ≠ c ∧ (x, y) ∈ ch)) : MemI B th ch' { w with heap := w.heap.setIfInBounds c o' } := by
 have hlt := lt_of_heap (h.chans c o hc)
 have ne : ∀ b, b ≠ c → (w.heap.setIfInBounds c o')[b]? = w.heap[b]? := fun b hb => Array.getElem?_setIfInBounds_ne (Ne.symm hb)
 refine ⟨fun j x hx => ?_, h.apart, fun x y hxy => ?_, fun x y hxy j z hz => ?_⟩
 ·have hf := h.fits j x hx
  have hcp := h.chapart c o hc j x hx
  refine ⟨fun b v hb => ?_, fun b v hb => ?_, hf.nd, hf.dj, hf.os, hf.tape, hf.out⟩
  ·show (w.heap.setIfInBounds c o')[b]? = _
   rw [ne b (fun e => by subst e; exact nn hcp.1 hb)]; exact hf.r b v hb
  ·show (w.heap.setIfInBounds c o')[b]? = _
   rw [ne b (fun e => by subst e; exact hcp.2 v hb)]; exact hf.h b v hb
 ·show (w.heap.setIfInBounds c o')[x]? = _
  rcases hch x y hxy with ⟨rfl, rfl⟩ | ⟨hne, hm⟩
  ·rw [Array.getElem?_setIfInBounds_self_of_lt hlt]
  ·rw [ne x hne]; exact h.chans x y hm
 ·rcases hch x y hxy with ⟨rfl, rfl⟩ | ⟨_, hm⟩
  ·exact h.chapart x o hc j z hz
  ·exact h.chapart x y hm j z hz
theorem TrI.chs (h : TrI th ch cls n t) (hch : ∀ x y, (x, y) ∈ ch' → ∃ y', (x, y') ∈ ch) : TrI th ch' cls n t :=
 ⟨h.own, h.read, fun c o hc => (h.chk c _ (hch c o hc).choose_spec), h.low, h.all, h.clean, h.quiet⟩
theorem touch_mute' (hu : ∀ op ∈ u, op.act.touch? = none) {k : Nat} {a : Touch} (h : touchAt (t ++ u) k = some a) : touchAt t k = some a := by
 rcases new_or_old h with ⟨_, x⟩ | ⟨op, _, h2, h3⟩
 ·exact x
 ·rw [hu op h2] at h3; cases h3
theorem TrI.muteAdd (h : TrI th ch cls n t) (hu : ∀ op ∈ u, op.act.touch? = none) (hl : ∀ op ∈ u, op.act.low n) (hw : Wordless u) {c : Nat} (hi : th i = some ⟨R, H⟩) (hR : RLe R' R) (hc : th c = none) (hk : ∀ k, Kn t i k → Kn (t ++ u) c k) :
  TrI (updT th c (some ⟨R', []⟩)) ch cls n (t ++ u) := by
 have hm := h.mute hu hl hw
 refine ⟨fun j y hy b o hb k a hka hab => ?_, fun j y hy b o hb k a hka hab hwr => ?_, fun d o hd j y hy k a hka hab => ?_, hm.low, fun k a hka hm' => ?_, hm.clean, hm.quiet⟩
 ·by_cases hj : j = c
  ·subst hj; rw [updT_same] at hy; cases hy; cases hb
  ·rw [updT_ne hj] at hy; exact hm.own j y hy b o hb k a hka hab
 ·by_cases hj : j = c
  ·subst hj; rw [updT_same] at hy; cases hy
   exact hk k (h.read i _ hi b o (hR b o hb) k a (touch_mute' hu hka) hab hwr)
  ·rw [updT_ne hj] at hy; exact hm.read j y hy b o hb k a hka hab hwr
 ·by_cases hj : j = c
  ·subst hj; rw [updT_same] at hy; cases hy
   exact (h.chk d o hd i _ hi k a (touch_mute' hu hka) hab).imp id (hk k)
  ·rw [updT_ne hj] at hy; exact hm.chk d o hd j y hy k a hka hab
 ·refine (hm.all k a hka hm').imp (fun ⟨j, y, hy, hkn⟩ => ⟨j, y, ?_, hkn⟩) id
  rw [updT_ne (fun e => by subst e; rw [hc] at hy; cases hy)]; exact hy
theorem TrI.muteDrop (h : TrI th ch cls n t) (hu : ∀ op ∈ u, op.act.touch? = none) (hl : ∀ op ∈ u, op.act.low n) (hw : Wordless u) (hk : ∀ k, Kn t i k → ∃ j y, j ≠ i ∧ th j = some y ∧ Kn (t ++ u) j k) :
  TrI (updT th i none) ch cls n (t ++ u) := by
 have hm := h.mute hu hl hw
 have key : ∀ j y, updT th i none j = some y → th j = some y := fun j y hy => by
  by_cases hj : j = i
  ·subst hj; rw [updT_same] at hy; cases hy
  ·rwa [updT_ne hj] at hy
 refine ⟨fun j y hy => hm.own j y (key j y hy), fun j y hy => hm.read j y (key j y hy), fun c o hc j y hy => hm.chk c o hc j y (key j y hy), hm.low, fun k a hka hm' => ?_, hm.clean, hm.quiet⟩
 rcases h.all k a (touch_mute' hu hka) hm' with ⟨j, y, hy, hkn⟩ | x
 ·by_cases hj : j = i
  ·subst hj
   obtain ⟨j', y', h1, h2, h3⟩ := hk k hkn
   exact .inl ⟨j', y', by rw [updT_ne h1]; exact h2, h3⟩
  ·exact .inl ⟨j, y, by rw [updT_ne hj]; exact hy, hkn.app u⟩
 ·exact .inr (closed_app x)
theorem TrI.reopen {x : Th} {c : Nat} {y : MemOp} (h : TrI (only x) ch (some c) n t) (hy : y.g = 0) (hya : y.act = .recvClosed c) (hc : c < n) : TrI (only x) [] none n (t ++ #[y]) := by
 have hu : ∀ op ∈ #[y], op.act.touch? = none := fun op hop => by simp at hop; subst hop; rw [hya]; rfl
 have hw : Wordless #[y] := fun op hop m hm => by simp at hop; subst hop; rw [hya] at hm; cases hm
 have hm := h.mute hu (fun op hop => by simp at hop; subst hop; rw [hya]; exact hc) hw
 refine ⟨hm.own, hm.read, fun c o hc => (by cases hc), hm.low, fun k a hka hmem => ?_, hm.clean, hm.quiet⟩
 rcases h.all k a (touch_mute' hu hka) hmem with ⟨j, z, hz, hkn⟩ | ⟨c', p, h1, h2, h3⟩
 ·exact .inl ⟨j, z, hz, hkn.app _⟩
 ·cases h1
  exact .inl ⟨0, x, rfl, kn_closed hm.quiet h2 hy hya h3⟩
end
section
variable (P : Program) (B : Base) (main : Bool)
def AtS (c : Nat) (v : Value) (Next : RMap → HList → Goroutine → Prop) (z : Value) (R : RMap) (H : HList) (g : Goroutine) : Prop :=
 g.status = .running ∧ (∀ w, Fits B R H w → stepG P main g w = .comm (core g) #[scase c v z] true .send w #[]) ∧ Next R H (Conc.served (core g) undef)
def AtR (c : Nat) (fl : Bool) (Got : Value → RMap → HList → Goroutine → Prop) (Nil : RMap → HList → Goroutine → Prop) (z : Value) (R : RMap) (H : HList) (g : Goroutine) : Prop :=
 g.status = .running ∧ (∀ w, Fits B R H w → stepG P main g w = .comm (core g) #[rcase c z] true (.recv fl) w #[]) ∧ (∀ v, Got v R H (Conc.served (core g) (recvd fl v true))) ∧ Nil R H (Conc.served (core g) (recvd fl z false))
def AtC (c : Nat) (R : RMap) (H : HList) (g : Goroutine) : Prop :=
 g.status = .running ∧ mayWake P g = true ∧ ∃ g' n, (∀ w s r tm, Fits B R H w → w.heap[c]? = some (.chan 0 #[] false s r tm) → stepG P false g w = .go g' (w.shut c s r tm) #[⟨.obj c, false, true⟩, ⟨.obj c, true, true⟩]) ∧ QuitsIn P n g'
def PkS (c : Nat) (v : Value) (Next : RMap → HList → Goroutine → Prop) (R : RMap) (H : HList) (g : Goroutine) : Prop := ∃ g0 z, AtS P B main c v Next z R H g0 ∧ g = parked (core g0) #[scase c v z] .send
def PkR (c : Nat) (fl : Bool) (Got : Value → RMap → HList → Goroutine → Prop) (Nil : RMap → HList → Goroutine → Prop) (R : RMap) (H : HList) (g : Goroutine) : Prop := ∃ g0 z, AtR P B main c fl Got Nil z R H g0 ∧ g = parked (core g0) #[rcase c z] (.recv fl)
end
section
variable (P : Program) (B : Base) (cf cd : Nat) (MJ' : RMap → HList → Goroutine → Prop)
def Lv (_ : RMap) (_ : HList) (g : Goroutine) : Prop := ∃ n, QuitsIn P n g
def KW2 (R : RMap) (H : HList) (g : Goroutine) : Prop := ∃ z, AtS P B false cd (.bool true) (Lv P) z R H g
def W2 : RMap → HList → Goroutine → Prop := Own P B false (KW2 P B cd)
def KW1 (v : Value) (R : RMap) (H : HList) (g : Goroutine) : Prop := ∃ z, AtS P B false cf v (W2 P B cd) z R H g
def CGot (CK : RMap → HList → Goroutine → Prop) (_ : Value) (R : RMap) (H : HList) (g : Goroutine) : Prop := Own P B false CK R H g
def Tt (_ : RMap) (_ : HList) (_ : Goroutine) : Prop := True
def CK : Nat → RMap → HList → Goroutine → Prop
 | 0 => AtC P B cf
 | n + 1 => fun R H g => ∃ z, AtR P B false cd false (CGot P B (CK n)) Tt z R H g
def MGot (rem : List Value) (MK : List Value → RMap → HList → Goroutine → Prop) (v : Value) (R : RMap) (H : HList) (g : Goroutine) : Prop := ∀ rest, rem.Perm (v :: rest) → Own P B true (MK rest) R H g
def MRk : Nat → List Value → RMap → HList → Goroutine → Prop
 | 0, _ => fun R H g => ∃ z, AtR P B true cf true (fun _ => Tt) MJ' z R H g
 | n + 1, rem => fun R H g => ∃ z, AtR P B true cf true (MGot P B rem (MRk n)) Tt z R H g
def MSk : Nat → List Value → RMap → HList → Goroutine → Prop
 | 0, sp => fun R H g => g.status = .running ∧ ∀ w, Fits B R H w → ∃ g' child, stepG P true g w = .spawn g' child w #[] ∧ Own P B false (CK P B cf cd sp.length) R [] child ∧ Own P B true (MRk P B cf MJ' sp.length sp) R H g'
 | k + 1, sp => fun R H g => g.status = .running ∧ ∀ w, Fits B R H w → ∃ g' child v, stepG P true g w = .spawn g' child w #[] ∧ Own P B false (KW1 P B cf cd v) R [] child ∧ Own P B true (MSk k (v :: sp)) R H g'
end
inductive Dt : Type 1
 | lv (n : Nat)
 | w1 (v : Value) (m : Ms)
 | w2 (m : Ms)
 | cl (k : Nat) (m : Ms)
 | ms (k : Nat) (sp : List Value) (m : Ms)
 | mr (rem : List Value) (m : Ms)
def Dt.msr : Dt → Ms
 | .lv n => some (natT n)
 | .w1 _ m | .w2 m | .cl _ m | .ms _ _ m | .mr _ m => m
def Dt.set : Dt → Ms → Dt
 | .lv n, _ => .lv n
 | .w1 v _, m => .w1 v m
 | .w2 _, m => .w2 m
 | .cl k _, m => .cl k m
 | .ms k sp _, m => .ms k sp m
 | .mr rem _, m => .mr rem m
def Dt.pot : Dt → Nat
 | .lv _ => 0
 | .w1 _ _ => 2
 | .w2 _ => 1
 | .cl k _ => k + 1
 | .ms k sp _ => 3 * k + 2 * (k + sp.length) + 3
 | .mr rem _ => rem.length + 1
def Dt.act : Dt → Nat
 | .w1 _ _ | .w2 _ => 1
 | _ => 0
def Dt.vof : Dt → Option Value
 | .w1 v _ => some v
 | _ => none
def vals (D : Nat → Dt) : Nat → List Value
 | 0 => []
 | n + 1 => match (D n).vof with | some v => v :: vals D n | none => vals D n
def updD (D : Nat → Dt) (i : Nat) (x : Dt) : Nat → Dt := fun j => if j = i then x else D j
theorem updD_same (D : Nat → Dt) (i : Nat) (x : Dt) : updD D i x i = x := by simp [updD]
theorem updD_ne {D : Nat → Dt} {i j : Nat} {x : Dt} (h : j ≠ i) : updD D i x j = D j := by simp [updD, h]
theorem vals_succ (D : Nat → Dt) (n : Nat) : vals D (n + 1) = (D n).vof.toList ++ vals D n := by
 simp only [vals]
 cases (D n).vof <;> rfl
theorem vals_congr {D D' : Nat → Dt} : ∀ {n : Nat}, (∀ i, i < n → (D' i).vof = (D i).vof) → vals D' n = vals D n
 | 0, _ => rfl
 | n + 1, h => by rw [vals_succ, vals_succ, h n (by omega), vals_congr (fun i hi => h i (by omega))]
theorem vals_take {D D' : Nat → Dt} {i : Nat} {v : Value} (hv : (D i).vof = some v) (h0 : (D' i).vof = none) (hne : ∀ j, j ≠ i → (D' j).vof = (D j).vof) : ∀ {n : Nat}, i < n → (vals D n).Perm (v :: vals D' n)
 | n + 1, h => by
  rcases Nat.lt_or_ge i n with hlt | hge
  ·have ih := vals_take hv h0 hne hlt
   rw [vals_succ, vals_succ, hne n (by omega)]
   cases (D n).vof with
   | none => exact ih
   | some u => exact (List.Perm.cons u ih).trans (List.Perm.swap _ _ _)
  ·obtain rfl : i = n := by omega
   rw [vals_succ, vals_succ, hv, h0, vals_congr (D := D) (D' := D') fun j hj => hne j (by omega)]
   exact List.Perm.refl _
theorem vof_act (d : Dt) : d.vof.toList.length ≤ d.act := by cases d <;> simp [Dt.vof, Dt.act]
theorem vals_len {D : Nat → Dt} : ∀ {n : Nat}, (vals D n).length ≤ sumT n (fun i => (D i).act)
 | 0 => by simp [vals]
 | n + 1 => by
  have ih := vals_len (D := D) (n := n)
  have := vof_act (D n)
  rw [vals_succ, List.length_append]
  simp only [sumT]
  omega
theorem vals_len_eq {D : Nat → Dt} : ∀ {n : Nat}, (∀ i m, i < n → D i ≠ .w2 m) → (vals D n).length = sumT n (fun i => (D i).act)
 | 0, _ => by simp [vals, sumT]
 | n + 1, hw => by
  have ih := vals_len_eq (D := D) (n := n) fun i m hi => hw i m (by omega)
  have : (D n).vof.toList.length = (D n).act := by
   cases h : D n with
   | w2 m => exact absurd h (hw n m (by omega))
   | _ => simp [Dt.vof, Dt.act]
  rw [vals_succ, List.length_append]
  simp only [sumT]
  omega
theorem act_zero {D : Nat → Dt} : ∀ {n : Nat}, sumT n (fun i => (D i).act) = 0 → ∀ i, i < n → (D i).act = 0
 | n + 1, h, i, hi => by
  simp only [sumT] at h
  rcases Nat.lt_or_ge i n with hlt | hge
  ·exact act_zero (by omega) i hlt
  ·obtain rfl : i = n := by omega
   omega
section
variable (P : Program) (B : Base) (cf cd : Nat) (MJ' : RMap → HList → Goroutine → Prop)
def SitK (main : Bool) (K Pk : RMap → HList → Goroutine → Prop) (m : Ms) (x : Option Th) (g : Goroutine) : Prop :=
 ∃ y : Th, x = some y ∧ ((∃ T, m = some T ∧ OwnT P B main K T y.R y.H g) ∨ (m = none ∧ Pk y.R y.H g))
def No (_ : RMap) (_ : HList) (_ : Goroutine) : Prop := False
def PkC : Nat → RMap → HList → Goroutine → Prop
 | 0 => No
 | n + 1 => PkR P B false cd false (CGot P B (CK P B cf cd n)) Tt
def PkM : Nat → List Value → RMap → HList → Goroutine → Prop
 | 0, _ => PkR P B true cf true (fun _ => Tt) MJ'
 | n + 1, rem => PkR P B true cf true (MGot P B rem (MRk P B cf MJ' n)) Tt
def Sit (i : Nat) : Dt → Option Th → Goroutine → Prop
 | .lv n, x, g => x = none ∧ QuitsIn P n g ∧ 0 < i
 | .w1 v m, x, g => SitK P B false (KW1 P B cf cd v) (PkS P B false cf v (W2 P B cd)) m x g ∧ 0 < i
 | .w2 m, x, g => SitK P B false (KW2 P B cd) (PkS P B false cd (.bool true) (Lv P)) m x g ∧ 0 < i
 | .cl k m, x, g => SitK P B false (CK P B cf cd k) (PkC P B cf cd k) m x g ∧ 0 < i
 | .ms k sp m, x, g => SitK P B true (MSk P B cf cd MJ' k sp) No m x g ∧ i = 0
 | .mr rem m, x, g => SitK P B true (MRk P B cf MJ' rem.length rem) (PkM P B cf MJ' rem.length rem) m x g ∧ i = 0
inductive Ph (cf : Nat) (n : Nat) (D : Nat → Dt) : Bool → Option Nat → Prop
 | spawning {k sp m} : D 0 = .ms k sp m → (vals D n).Perm sp → (∀ i k m, D i ≠ .cl k m) → (∀ i m, D i ≠ .w2 m) → Ph cf n D false none
 | ranging {rem m ic kc mc} : D 0 = .mr rem m → (vals D n).Perm rem → ic < n → D ic = .cl kc mc → (∀ j k m, D j = .cl k m → j = ic) → kc = sumT n (fun i => (D i).act) →
   (m = none → ∀ i v, D i ≠ .w1 v none) → (mc = none → ∀ i, D i ≠ .w2 none) → Ph cf n D false none
 | closed {rem m} : D 0 = .mr rem m → (vals D n).Perm rem → (∀ i k m, D i ≠ .cl k m) → (∀ i, (D i).act = 0) → m ≠ none → Ph cf n D true (some cf)
structure PI (D : Nat → Dt) (th : Nat → Option Th) (clo : Bool) (cls : Option Nat) (s1 s2 : Nat) (tm1 tm2 : Bool) (gs : Array Goroutine) (w : World) (t : Trace) : Prop where
 ne : cf ≠ cd
 mem : MemI B th [(cf, .chan 0 #[] clo s1 s1 tm1), (cd, .chan 0 #[] false s2 s2 tm2)] w
 tr : TrI th [(cf, .chan 0 #[] clo s1 s1 tm1), (cd, .chan 0 #[] false s2 s2 tm2)] cls w.heap.size t
 sit : ∀ i g, gs[i]? = some g → Sit P B cf cd MJ' i (D i) (th i) g
 out : ∀ i, gs.size ≤ i → th i = none ∧ D i = .lv 0
 ph : Ph cf gs.size D clo cls
 pos : 0 < gs.size
end
end Go.Lg
