/- The logic, on: loops; what one owns is let go, or is known for good from then on. Conditions: none; over any program. -/
import Derived.Test.YtabamagholjdcaaGreatDoorQLgDraw
namespace Go.Lg
open Go.Conc
section
variable {P : Program} {B : Base} {main : Bool} {𝒥 : Jd P B main} {c : Ctx} {R : RMap} {H H' : HList} {st st' : St} {k : List Item}
theorem upd_sub {w : World} (hs : List.Sublist H' H) (hw : Fits B R H w) : Upd B R H w R H' w :=
 ⟨⟨hw.r, fun b o h => hw.h b o (hs.subset h), (hs.map _).nodup hw.nd, fun b o h => hw.dj b o (hs.subset h), hw.os, hw.tape, hw.out⟩, fun _ _ x => x, Nat.le_refl _, fun _ _ _ => rfl, fun _ _ x => .inl x, fun _ o x => .inl ⟨o, hs.subset x⟩⟩
theorem At.drop {todo : List Item} (hs : List.Sublist H' H) (h : At 𝒥 c R H' st todo) : At 𝒥 c R H st todo := At.ghost (fun _ hw => upd_sub hs hw) h
theorem J.drop {g : Goroutine} (hs : List.Sublist H' H) (h : 𝒥.J R H' g) : 𝒥.J R H g := 𝒥.ghost (fun _ hw => upd_sub hs hw) h
theorem upd_perm {w : World} (hs : List.Perm H' H) (hw : Fits B R H w) : Upd B R H w R H' w :=
 ⟨⟨hw.r, fun b o h => hw.h b o (hs.subset h), (hs.map _).nodup_iff.2 hw.nd, fun b o h => hw.dj b o (hs.subset h), hw.os, hw.tape, hw.out⟩, fun _ _ x => x, Nat.le_refl _, fun _ _ _ => rfl, fun _ _ x => .inl x, fun _ o x => .inl ⟨o, hs.subset x⟩⟩
theorem At.perm {todo : List Item} (hs : List.Perm H' H) (h : At 𝒥 c R H' st todo) : At 𝒥 c R H st todo := At.ghost (fun _ hw => upd_perm hs hw) h
theorem J.perm {g : Goroutine} (hs : List.Perm H' H) (h : 𝒥.J R H' g) : 𝒥.J R H g := 𝒥.ghost (fun _ hw => upd_perm hs hw) h
def RMap.ins (R : RMap) (b : Nat) (o : Obj) : RMap := fun x => if x = b then some o else R x
theorem RMap.ins_same (R : RMap) (b : Nat) (o : Obj) : R.ins b o b = some o := by simp [RMap.ins]
theorem RMap.ins_le {R : RMap} {b : Nat} {o : Obj} (h : R b = none) : RLe R (R.ins b o) := fun x u hx => by
 unfold RMap.ins
 split
 ·subst_vars; rw [h] at hx; cases hx
 ·exact hx
theorem upd_freeze {w : World} {b : Nat} {o : Obj} (hw : Fits B R ((b, o) :: H) w) : Upd B R ((b, o) :: H) w (R.ins b o) H w := by
 have hb : R b = none := hw.dj b o (by simp)
 have hnd := hw.nd
 rw [List.map_cons, List.nodup_cons] at hnd
 refine ⟨⟨fun x u hx => ?_, fun x u hx => hw.h x u (by simp [hx]), hnd.2, fun x u hx => ?_, hw.os, hw.tape, hw.out⟩, RMap.ins_le hb, Nat.le_refl _, fun _ _ _ => rfl, fun x u hx => ?_, fun x u hx => .inl ⟨u, by simp [hx]⟩⟩
 ·unfold RMap.ins at hx
  split at hx
  ·subst_vars; cases hx; exact hw.h _ _ (by simp)
  ·exact hw.r x u hx
 ·have hne : x ≠ b := fun e => hnd.1 (List.mem_map.2 ⟨(x, u), hx, e⟩)
  unfold RMap.ins
  rw [if_neg hne]
  exact hw.dj x u (by simp [hx])
 ·unfold RMap.ins at hx
  split at hx
  ·subst_vars; exact .inr (.inl ⟨o, by simp⟩)
  ·exact .inl hx
theorem J.freeze {g : Goroutine} {b : Nat} {o : Obj} (h : ∀ R', RLe R R' → R' b = some o → 𝒥.J R' H g) (hb : R b = none) : 𝒥.J R ((b, o) :: H) g :=
 𝒥.ghost (fun _ hw => upd_freeze hw) (h _ (RMap.ins_le hb) (RMap.ins_same R b o))
theorem J.freeze' {fr : Frame} {cs : List Frame} {b : Nat} {o : Obj} (h : ∀ R', RLe R R' → R' b = some o → 𝒥.J R' H (gor fr cs)) : 𝒥.J R ((b, o) :: H) (gor fr cs) := by
 cases hb : R b with
 | none => exact J.freeze h hb
 | some x =>
  refine 𝒥.step rfl fun w hw => ?_
  have := hw.dj b o (by simp)
  rw [hb] at this
  cases this
theorem At.freeze {todo : List Item} {b : Nat} {o : Obj} (h : ∀ R', RLe R R' → R' b = some o → At 𝒥 c R' H st todo) : At 𝒥 c R ((b, o) :: H) st todo :=
 fun tmps ht => J.freeze' fun R' h1 h2 => h R' h1 h2 tmps ht
theorem Rep.shadow {n t : Nat} {x : Value} {tmps : Array Value} (hx : st.lookup t = some x) (h : Rep n st tmps) : Rep n ((t, x) :: st) tmps := by
 refine ⟨h.1, fun u v hu => ?_⟩
 rw [List.lookup_cons] at hu
 split at hu
 ·rename_i heq
  have : u = t := by simpa using heq
  subst this
  cases hu
  exact h.2 _ _ hx
 ·exact h.2 u v hu
end
theorem Cell.mono {R R' : RMap} {H : HList} {a : Addr} {v : Value} (h : Cell R [] a v) (hR : RLe R R') : Cell R' H a v := by
 obtain ⟨h1, cs, e, fz, h2, h3⟩ := h
 exact ⟨h1, cs, e, fz, .inl (h2.elim (hR _ _) (fun x => by cases x)), h3⟩
theorem CellsAt.up {R R' : RMap} {H : HList} {b o : Nat} {vs : List Value} (h : CellsAt R [] b o vs) (hR : RLe R R') : CellsAt R' H b o vs := fun j v hj => (h j v hj).mono hR
theorem CellsAt.any {R : RMap} {H : HList} {b o : Nat} {vs : List Value} (h : CellsAt R [] b o vs) : CellsAt R H b o vs := h.up (RLe.refl R)
theorem CellsAt.one {R : RMap} {H : HList} {b o j : Nat} {v : Value} {vs : List Value} (h : CellsAt R H b o vs) (hj : vs[j]? = some v) : Cell R H ⟨b, o + j, none⟩ v := h j v hj
end Go.Lg
