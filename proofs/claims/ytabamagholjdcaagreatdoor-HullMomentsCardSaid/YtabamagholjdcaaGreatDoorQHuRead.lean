/- What the arguments of chapter 6's statements are to the logic, and what the row's listed variable says of memory. Conditions: none. -/
import Derived.Test.YtabamagholjdcaaGreatDoorQHuTypes
import Derived.Test.YtabamagholjdcaaGreatDoorQLgTop
import Derived.Test.YtabamagholjdcaaGreatDoorTie
import Derived.Stop.Joined
import Derived.LaidOnce
import Derived.ProofKit
import Derived.OpenShut
namespace Go.Proofs.YtabamagholjdcaaGreatDoor
open Go.Lg Go.Proofs Go.ChangeShapes Go.WideShapes Go.ChangeAt Go.RowKit Go.Conc
set_option maxRecDepth 100000
theorem read3 : ReadR Tryz.prog 3 (CI .i64) 1 := ReadR.int (by kernel_rfl) Tryz.underlying3
theorem read45 : ReadR Tryz.prog 45 (CI .i64) 1 := ReadR.int (by kernel_rfl) Tryz.underlying45
theorem read9 : ReadR Tryz.prog 9 CS 1 := ReadR.str (by kernel_rfl) Tryz.underlying9
theorem read25 : ReadR Tryz.prog 25 (CSl (CI .i64) 1) 1 := ReadR.slice (by kernel_rfl) Tryz.underlying25 (by decide) read3
theorem read23 : ReadR Tryz.prog 23 CReach 2 := ⟨by kernel_rfl, fun W T enc sp held fuel cs x h => by
 obtain ⟨xs, n, _, _, hl, hx, hf⟩ := DataW.trod_struct Tryz.underlying23 h
 have hc : cs.length = 2 := hl.trans (by kernel_rfl)
 match cs, hc with
 | [c0, c1], _ =>
  obtain ⟨a0, h0⟩ := read3.field [c0] hx (hf 0 _ rfl)
  obtain ⟨a1, h1⟩ := read3.field [c1] hx (hf 1 _ rfl)
  cases h0; cases h1
  exact ⟨rfl, ⟨a0, a1⟩, rfl⟩⟩
theorem read47 : ReadR Tryz.prog 47 CHullHeel 2 := ⟨by kernel_rfl, fun W T enc sp held fuel cs x h => by
 obtain ⟨xs, n, _, _, hl, hx, hf⟩ := DataW.trod_struct Tryz.underlying47 h
 have hc : cs.length = 2 := hl.trans (by kernel_rfl)
 match cs, hc with
 | [c0, c1], _ =>
  obtain ⟨a0, h0⟩ := read3.field [c0] hx (hf 0 _ rfl)
  obtain ⟨a1, h1⟩ := read45.field [c1] hx (hf 1 _ rfl)
  cases h0; cases h1
  exact ⟨rfl, ⟨a0, a1⟩, rfl⟩⟩
theorem read58 : ReadR Tryz.prog 58 CHullPiece 5 := ⟨by kernel_rfl, fun W T enc sp held fuel cs x h => by
 obtain ⟨xs, n, _, _, hl, hx, hf⟩ := DataW.trod_struct Tryz.underlying58 h
 have hc : cs.length = 5 := hl.trans (by kernel_rfl)
 match cs, hc with
 | [c0, c1, c2, c3, c4], _ =>
  obtain ⟨a0, h0⟩ := read9.field [c0] hx (hf 0 _ rfl)
  obtain ⟨a1, h1⟩ := read3.field [c1] hx (hf 1 _ rfl)
  obtain ⟨a2, h2⟩ := read23.field [c2, c3] hx (hf 2 _ rfl)
  obtain ⟨a3, v3, h3, g3⟩ := read25.field [c4] hx (hf 3 _ rfl)
  cases h0; cases h1; cases h2; cases h3
  exact ⟨rfl, ⟨a0, a1, a2, a3⟩, c4, g3, rfl⟩⟩
theorem read24 : ReadR Tryz.prog 24 (CSl CHullPiece 5) 1 := ReadR.slice (by kernel_rfl) Tryz.underlying24 (by decide) read58
theorem read26 : ReadR Tryz.prog 26 (CSl CHullHeel 2) 1 := ReadR.slice (by kernel_rfl) Tryz.underlying26 (by decide) read47
theorem read28 : ReadR Tryz.prog 28 CHullBook 6 := ⟨by kernel_rfl, fun W T enc sp held fuel cs x h => by
 obtain ⟨xs, n, _, _, hl, hx, hf⟩ := DataW.trod_struct Tryz.underlying28 h
 have hc : cs.length = 6 := hl.trans (by kernel_rfl)
 match cs, hc with
 | [c0, c1, c2, c3, c4, c5], _ =>
  obtain ⟨a0, h0⟩ := read3.field [c0] hx (hf 0 _ rfl)
  obtain ⟨a1, h1⟩ := read23.field [c1, c2] hx (hf 1 _ rfl)
  obtain ⟨a2, v2, h2, g2⟩ := read24.field [c3] hx (hf 2 _ rfl)
  obtain ⟨a3, v3, h3, g3⟩ := read25.field [c4] hx (hf 3 _ rfl)
  obtain ⟨a4, v4, h4, g4⟩ := read26.field [c5] hx (hf 4 _ rfl)
  cases h0; cases h1; cases h2; cases h3; cases h4
  exact ⟨rfl, ⟨a0, a1, a2, a3, a4⟩, c3, c4, c5, g2, g3, g4, rfl⟩⟩
theorem read66 : ReadR Tryz.prog 66 CHullCase 2 := ⟨by kernel_rfl, fun W T enc sp held fuel cs x h => by
 obtain ⟨xs, n, _, _, hl, hx, hf⟩ := DataW.trod_struct Tryz.underlying66 h
 have hc : cs.length = 2 := hl.trans (by kernel_rfl)
 match cs, hc with
 | [c0, c1], _ =>
  obtain ⟨a0, h0⟩ := read3.field [c0] hx (hf 0 _ rfl)
  obtain ⟨a1, v1, h1, g1⟩ := read25.field [c1] hx (hf 1 _ rfl)
  cases h0; cases h1
  exact ⟨rfl, ⟨a0, a1⟩, c1, g1, rfl⟩⟩
section
variable {W : World} {T : Type} {enc : TypeId × Value → T} {b0 : Nat} {v : Value} {d : DataW T} {p : List MemPlace}
theorem arg28 (hv : Value.okWide Tryz.prog W .any b0 28 v) (h : DataW.Trod enc Tryz.prog W 0 (fun _ => true) true 28 v d p) :
  ∃ (x : HullBook) (v3 v4 v5 : Value), v = .agg #[iv x.Limit, iv x.Ballast.Least, iv x.Ballast.Most, v3, v4, v5] ∧ SlR CHullPiece 5 (heapR W) v3 x.Pieces ∧ SlR (CI .i64) 1 (heapR W) v4 x.Out ∧ SlR CHullHeel 2 (heapR W) v5 x.Heels := by
 obtain ⟨cs, rfl, _⟩ := okWide_struct Tryz.underlying28 hv
 obtain ⟨fuel, hf⟩ := h
 obtain ⟨_, x, v3, v4, v5, h3, h4, h5, e⟩ := read28.rd _ _ _ _ _ _ _ _ hf
 exact ⟨x, v3, v4, v5, by rw [← Array.toArray_toList (xs := cs), show cs.toList = _ from e], h3, h4, h5⟩
theorem arg66 (hv : Value.okWide Tryz.prog W .any b0 66 v) (h : DataW.Trod enc Tryz.prog W 0 (fun _ => true) true 66 v d p) :
  ∃ (x : HullCase) (v1 : Value), v = .agg #[iv x.Ballast, v1] ∧ SlR (CI .i64) 1 (heapR W) v1 x.Weights := by
 obtain ⟨cs, rfl, _⟩ := okWide_struct Tryz.underlying66 hv
 obtain ⟨fuel, hf⟩ := h
 obtain ⟨_, x, v1, h1, e⟩ := read66.rd _ _ _ _ _ _ _ _ hf
 exact ⟨x, v1, by rw [← Array.toArray_toList (xs := cs), show cs.toList = _ from e], h1⟩
theorem arg25 (hv : Value.okWide Tryz.prog W .any b0 25 v) (h : DataW.Trod enc Tryz.prog W 0 (fun _ => true) true 25 v d p) : ∃ xs, SlR (CI .i64) 1 (heapR W) v xs := by
 obtain ⟨a, len, cap, rfl⟩ := okWide_slice Tryz.underlying25 hv
 obtain ⟨fuel, hf⟩ := h
 obtain ⟨_, x, v1, e, h1⟩ := read25.rd _ _ _ _ _ _ _ _ hf
 cases e
 exact ⟨x, h1⟩
end
theorem gChecks : Tryz.prog.globalNamed "lagan/hull.checks" = some 0 := by kernel_rfl
theorem tChecks : (Tryz.prog.globals[0]?).map (·.type) = some 164 := by kernel_rfl
abbrev laidL : List (String × DataW Unit) := [("lagan/hull.checks", Rows.laid_lagan_hull_checks)]
theorem door_met (os : Os) (args : Array Value) : laidMetH Tryz.prog laidL ((World.doorLaid Tryz.prog 14 os).forCall (fun _ _ => 0) ⟨#[], args, []⟩).memory :=
 laidMetH_of_parts3 (fuel := 8) (laidMet_of_run' 8 (by kernel_rfl) (by kernel_rfl)) (by kernel_rfl) (by kernel_rfl)
theorem of_laid {W : World} (h : laidMetH Tryz.prog laidL W) : GOk (heapR W) := by
 obtain ⟨g, t, cs, fuel, p, hg, ht, hv, hd⟩ := h.funcs (n := "lagan/hull.checks") (List.mem_cons_self ..)
 obtain rfl := Option.some.inj (gChecks.symm.trans hg)
 obtain rfl := Option.some.inj (tChecks.symm.trans ht)
 obtain ⟨xs, n, _, hx, hlen, hn, hel⟩ := DataW.trod_array Tryz.underlying164 (show DataW.trod (funcToken Tryz.prog) Tryz.prog W 0 (fun _ => true) true fuel 164 cs.toList = some (.agg [.held [40, 108, 97, 103, 97, 110, 47, 104, 117, 108, 108, 46, 98, 111, 111, 107, 41, 46, 104, 117, 108, 108], .held [40, 108, 97, 103, 97, 110, 47, 104, 117, 108, 108, 46, 98, 111, 111, 107, 41, 46, 112, 105, 101, 99, 101, 115], .held [40, 108, 97, 103, 97, 110, 47, 104, 117, 108, 108, 46, 98, 111, 111, 107, 41, 46, 111, 117, 116], .held [40, 108, 97, 103, 97, 110, 47, 104, 117, 108, 108, 46, 98, 111, 111, 107, 41, 46, 104, 101, 101, 108, 115]], p) from hd)
 rw [show Tryz.prog.cellsOf 109 = 1 by kernel_rfl] at hel
 have hl : cs.toList.length = 4 := hlen.trans (by kernel_rfl)
 obtain ⟨cs⟩ := cs
 simp only at hl hel
 match xs, hn, cs, hl with
 | [x0, x1, x2, x3], _, [c0, c1, c2, c3], _ =>
  simp only [Prod.mk.injEq, DataW.agg.injEq, List.map_cons, List.map_nil, List.cons.injEq, and_true] at hx
  obtain ⟨⟨e0, e1, e2, e3⟩, _⟩ := hx
  obtain ⟨x0, q0⟩ := x0
  obtain ⟨x1, q1⟩ := x1
  obtain ⟨x2, q2⟩ := x2
  obtain ⟨x3, q3⟩ := x3
  simp only at e0 e1 e2 e3
  subst e0 e1 e2 e3
  obtain rfl := func_of_trod (f0 := 211) Tryz.underlying109 (by kernel_rfl) (hel 0 (by decide))
  obtain rfl := func_of_trod (f0 := 212) Tryz.underlying109 (by kernel_rfl) (hel 1 (by decide))
  obtain rfl := func_of_trod (f0 := 213) Tryz.underlying109 (by kernel_rfl) (hel 2 (by decide))
  obtain rfl := func_of_trod (f0 := 214) Tryz.underlying109 (by kernel_rfl) (hel 3 (by decide))
  intro j v hj
  rw [Nat.zero_add]
  refine cell_heapR ?_
  rw [World.var?_cell hg hv j]
  simpa using hj
end Go.Proofs.YtabamagholjdcaaGreatDoor
