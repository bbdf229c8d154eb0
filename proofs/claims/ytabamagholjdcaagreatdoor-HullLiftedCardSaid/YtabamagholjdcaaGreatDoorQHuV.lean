/- What reckon does in company; the arguments of the statements. Conditions: none. -/
import Derived.Test.YtabamagholjdcaaGreatDoorQHuW
import Derived.Test.YtabamagholjdcaaGreatDoorQHuF
import Derived.Test.YtabamagholjdcaaGreatDoorQLgD
import Derived.Test.YtabamagholjdcaaGreatDoorTie
import Derived.Stop.Joined
import Derived.LaidOnce
import Derived.ProofKit
import Derived.OpenShut
namespace Go.Proofs.YtabamagholjdcaaGreatDoor
open Go.Lg Go.Proofs Go.Conc
set_option maxRecDepth 100000
set_option maxHeartbeats 4000000
section
variable {B : Base} {R : RMap} {H : HList}
abbrev pt (b : Nat) : Value := .pointer (some ⟨b, 0, none⟩)
theorem w148_ok {cf cd b0 b1 b2 : Nat} (k : Nat) (hk : k ≤ 1048576) (hc0 : CellsAt R [] b0 0 [iv (k : Int)]) (hc1 : CellsAt R [] b1 0 [.chan (some cd)]) (hc2 : CellsAt R [] b2 0 [.chan (some cf)]) :
  Own Tryz.prog B false (CK Tryz.prog B cf cd k) R [] (gor (Frame.enter Tryz.prog 148 #[pt b0, pt b1, pt b2] .deferred) [wrapF Tryz.prog]) := by
 refine own_enter (args := [pt b0, pt b1, pt b2]) Tryz.func148 rfl (n := 10) rfl rfl ?_
 refine At.seq ?_
 refine At.seq ?_
 refine At.regionIs (n := 2) (is := [0, 1]) rfl rfl ?_
 refine At.stepS rfl rfl rfl (Ox.load1 rfl rfl one3 (hc0.any.one (j := 0) rfl) rfl (.put rfl) ?_)
 refine At.stepS rfl rfl rfl (Ox.move rfl rfl rfl (.put rfl) ?_)
 refine At.endRegion ?_
 refine At.block ?_
 refine At.enterLoop ?_
 refine countdown (ι := Unit) (J := fun n _ => ownJd Tryz.prog B false (CK Tryz.prog B cf cd n)) (C := fun n _ R' H' st => R' = R ∧ H' = [] ∧ n ≤ k ∧ SubL st [(1, pt b1), (2, pt b2), (3, iv (k : Int)), (4, iv ((k - n : Nat) : Int))]) ?_ ?_ k () _ _ _ ⟨rfl, rfl, Nat.le_refl _, SubT.sub ⟨rfl, rfl, rfl, by simp, trivial⟩⟩
 ·rintro _ R' H' st ⟨rfl, rfl, _, hst⟩
  refine At.sub hst ?_
  refine At.seq ?_
  refine At.regionIs (n := 1) (is := [0]) rfl rfl ?_
  refine At.stepS rfl rfl rfl (Ox.cmp rfl rfl rfl rfl rfl (.put rfl) ?_)
  refine At.endRegion ?_
  refine At.seq ?_
  refine At.condF rfl (by simp) ?_
  refine At.exit rfl ?_
  refine At.regionIs (n := 2) (is := [0, 1]) rfl rfl ?_
  refine At.stepS rfl rfl rfl (Ox.load1 rfl rfl one167 (hc2.any.one (j := 0) rfl) rfl (.put rfl) ?_)
  exact fun tmps ht => Own.stop _ _ _ _ (toClose rfl rfl rfl rfl rfl ht fun _ => quits_end Tryz.func148 rfl)
 ·rintro n ih _ R' H' st ⟨rfl, rfl, hn, hst⟩
  refine At.sub hst ?_
  refine At.seq ?_
  refine At.regionIs (n := 1) (is := [0]) rfl rfl ?_
  refine At.stepS rfl rfl rfl (Ox.cmp rfl rfl rfl rfl rfl (.put rfl) ?_)
  refine At.endRegion ?_
  refine At.seq ?_
  refine At.condT rfl (by simp; omega) ?_
  refine At.skip ?_
  refine At.seq ?_
  refine At.block ?_
  refine At.regionIs (n := 2) (is := [0, 1]) rfl rfl ?_
  refine At.stepS rfl rfl rfl (Ox.load1 rfl rfl one168 (hc1.any.one (j := 0) rfl) rfl (.put rfl) ?_)
  refine fun tmps ht => Own.stop _ _ _ _ ⟨.bool false, toRecv rfl rfl rfl rfl Tryz.underlying168 (fun _ => ⟨by kernel_rfl, by kernel_rfl⟩) rfl ht (fun v tmps' ht' => ?_) (fun _ _ => trivial)⟩
  refine (?_ : At (ownJd Tryz.prog B false (CK Tryz.prog B cf cd n)) _ _ _ _ _) tmps' ht'
  refine At.endRegion ?_
  refine At.inBlock ?_
  refine At.regionIs (n := 2) (is := [0, 1]) rfl rfl ?_
  refine At.stepS rfl rfl rfl (Ox.ar rfl rfl rfl rfl rfl (.put rfl) ?_)
  refine At.stepS rfl rfl rfl (Ox.move rfl rfl rfl (.put rfl) ?_)
  refine At.endRegion ?_
  have e : i64 (((k - (n + 1) : Nat) : Int) + 1) = ((k - n : Nat) : Int) := by rw [i64_fit (by omega)]; omega
  refine At.inLoop ?_
  exact ih () _ _ _ ⟨rfl, rfl, by omega, SubT.sub ⟨rfl, rfl, rfl, congrArg (fun z => some (iv z)) e, trivial⟩⟩
theorem mapM_get {α β : Type} {f : α → Option β} : ∀ {xs : List α} {ys : List β}, xs.mapM f = some ys → ys.length = xs.length ∧ ∀ (i : Nat) (x : α), xs[i]? = some x → ∃ y, ys[i]? = some y ∧ f x = some y
 | [], ys, h => by
  simp at h; subst h
  exact ⟨rfl, fun i x hx => by simp at hx⟩
 | a :: xs, ys, h => by
  rw [List.mapM_cons] at h
  cases ha : f a with
  | none => rw [ha] at h; simp at h
  | some b =>
   cases hr : xs.mapM f with
   | none => rw [ha, hr] at h; simp at h
   | some bs =>
    rw [ha, hr] at h
    simp at h
    subst h
    obtain ⟨h1, h2⟩ := mapM_get hr
    refine ⟨by simp [h1], fun i x hx => ?_⟩
    cases i with
    | zero => simp at hx; subst hx; exact ⟨b, rfl, ha⟩
    | succ i => exact h2 i x (by simpa using hx)
theorem mapAdd' {c : Ctx} {st st' : St} {o : Oper} {x y z : Operand} {v : Value} {m : Tab} {k : List Bool} {w : Int} {Hs : HList} {C : RMap → HList → St → Prop} (hop : o.op = .mapUpdate 104 x y z) (hx : evalS st x = some v) (hy : evalS st y = some (keyV k)) (hz : evalS st z = some (iv w)) (hm : OwnM v m Hs) (hnil : m ≠ nilTab) (hk : k.length = 5) (hn : k ∉ m.map (·.1))
  (G : HList → HList) (hG : Hole G) (hd : o.dst = none) (hst : SubL st st') (h : ∀ Hs', OwnM v (m ++ [(k, w)]) Hs' → C R (G Hs') st') : SemTo Tryz.prog B c o R (G Hs) st C := by
 rcases hm with ⟨_, h2, _⟩ | ⟨b, es, cl, rfl, rfl, h3, h4⟩
 ·exact absurd h2 hnil
 ·refine Ox.mapAdd hop hx hy hz map104 h3 hk hn hG.set hd hst (h _ (.inr ⟨b, _, _, rfl, rfl, ?_, ?_⟩))
  ·rw [Array.toList_push]; exact EntL.push rfl rfl hk h3
  ·rw [List.map_append, List.nodup_append]
   refine ⟨h4, by simp, fun a ha b hb => ?_⟩
   simp only [List.map_cons, List.map_nil, List.mem_singleton] at hb
   subst hb
   intro e; subst e; exact hn ha
def spOf (l : List (List Bool × Int)) (n : Nat) : List Value := ((l.take (l.length - n)).map recV).reverse
theorem spOf_all (l : List (List Bool × Int)) : spOf l l.length = [] := by simp [spOf]
theorem spOf_next {l : List (List Bool × Int)} {n : Nat} {p : List Bool × Int} (hn : n + 1 ≤ l.length) (hp : l[l.length - (n + 1)]? = some p) : recV p :: spOf l (n + 1) = spOf l n := by
 have e : l.length - n = (l.length - (n + 1)) + 1 := by omega
 unfold spOf
 rw [e, List.take_add_one, hp]
 simp
theorem spOf_len {l : List (List Bool × Int)} : (spOf l 0).length = l.length := by simp [spOf]
theorem spOf_perm (l : List (List Bool × Int)) : (spOf l 0).Perm (l.map recV) := by
 unfold spOf
 simp only [Nat.sub_zero, List.take_length]
 exact List.reverse_perm _
theorem reckons {Post : Value → World → Prop} : Reckons (mainJd Tryz.prog B Post) := by
 intro R H x0 v3 v4 v5 v6 v7 Hs h3 h4 h5 h6 h7 r hr
 unfold m91 at hr
 obtain ⟨many, hmany, hr⟩ := bnd hr
 obtain ⟨l, hl, hr⟩ := bnd hr
 split at hr
 case isFalse => cases hr
 rename_i hc
 obtain ⟨hnil, hnd, hl5, hm0, hm1⟩ := hc
 obtain rfl := sinj hr
 obtain ⟨N, rfl⟩ : ∃ N : Nat, many = (N : Int) := ⟨many.toNat, by omega⟩
 rw [Int.toNat_natCast] at hl
 obtain ⟨hlen, hget⟩ := mapM_get hl
 rw [List.length_range] at hlen
 have hget' : ∀ i, i < N → ∃ p, l[i]? = some p ∧ m147 x0 (i : Int) = some p := fun i hi => hget i i (by simp [hi])
 refine FnOk.of_at (args := [.agg #[iv x0.book.Limit, iv x0.book.Ballast.Least, iv x0.book.Ballast.Most, v3, v4, v5, v6, v7]]) Tryz.func91 rfl (n := 32) rfl rfl fun fr cs hk => ?_
 refine At.seq ?_
 refine At.regionIs (n := 1) (is := [0]) rfl rfl ?_
 refine At.stepS rfl rfl rfl (Ox.boxN rfl rfl rfl fun b1 _ _ => ⟨_, (.put rfl), ?_⟩)
 refine At.endRegion ?_
 refine At.seq ?_
 refine At.regionIs (n := 3) (is := [0, 1, 2]) rfl rfl ?_
 refine At.stepS rfl rfl rfl (Ox.makeChan rfl rfl Tryz.underlying167 (infoOk (by decide +kernel)) rfl fun cf _ _ => ⟨_, (.put rfl), ?_⟩)
 refine At.stepS rfl rfl rfl (Ox.alloc (cs := #[.chan none]) rfl zero167 rfl fun b2 _ _ => ⟨_, (.put rfl), ?_⟩)
 refine At.stepS rfl rfl rfl (Ox.store1 (cs' := #[_]) rfl rfl rfl one167 rfl .here rfl rfl rfl (.refl _) ?_)
 refine At.endRegion ?_
 refine At.seq ?_
 refine At.regionIs (n := 3) (is := [0, 1, 2]) rfl rfl ?_
 refine At.stepS rfl rfl rfl (Ox.makeChan rfl rfl Tryz.underlying168 (infoOk (by decide +kernel)) rfl fun cd _ _ => ⟨_, (.put rfl), ?_⟩)
 refine At.stepS rfl rfl rfl (Ox.alloc (cs := #[.chan none]) rfl zero168 rfl fun b3 _ _ => ⟨_, (.put rfl), ?_⟩)
 refine At.stepS rfl rfl rfl (Ox.store1 (cs' := #[_]) rfl rfl rfl one168 rfl .here rfl rfl rfl (.refl _) ?_)
 refine At.endRegion ?_
 refine At.seq ?_
 refine At.regionIs (n := 8) (is := [0, 1, 2, 3, 4, 5, 6, 7]) rfl rfl ?_
 refine At.stepS rfl rfl rfl (Ox.fieldAddr rfl rfl field106_0 rfl (.put rfl) ?_)
 refine At.stepS rfl rfl rfl (Ox.fieldAddr rfl rfl field102_0 rfl (.put rfl) ?_)
 refine At.stepS rfl rfl rfl (Ox.fieldAddr rfl rfl field28_2 rfl (.put rfl) ?_)
 refine At.stepS rfl rfl rfl (Ox.load1 rfl rfl one24 ((CellsAt.box (L := [iv x0.book.Limit, iv x0.book.Ballast.Least, iv x0.book.Ballast.Most, v3, v4, v5, v6, v7]) (.tail _ (.tail _ (.tail _ (.tail _ (.head _)))))).one (j := 3) rfl) rfl (.put rfl) ?_)
 refine At.stepS rfl rfl rfl (Ox.lenS (K := CHullPiece) (k := 5) (xs := x0.book.Pieces) rfl rfl h3 Tryz.underlying24 rfl (.put rfl) ?_)
 refine At.stepS rfl rfl rfl (Ox.shl rfl rfl rfl hmany rfl (.put rfl) ?_)
 refine At.stepS rfl rfl rfl (Ox.alloc (cs := #[iv 0]) rfl zero3 rfl fun b4 _ _ => ⟨_, (.put rfl), ?_⟩)
 refine At.stepS rfl rfl rfl (Ox.store1 (cs' := #[_]) rfl rfl rfl one3 rfl .here rfl rfl rfl (.refl _) ?_)
 refine At.endRegion ?_
 refine At.seq ?_
 refine At.seq ?_
 refine At.regionIs (n := 2) (is := [0, 1]) rfl rfl ?_
 refine At.stepS rfl rfl rfl (Ox.load1 rfl rfl one3 ((CellsAt.box (L := [iv (N : Int)]) (.head _)).one (j := 0) rfl) rfl (.put rfl) ?_)
 refine At.stepS rfl rfl rfl (Ox.move rfl rfl rfl (.put rfl) ?_)
 refine At.endRegion ?_
 refine At.block ?_
 refine At.freezeBox (H2 := (b3, _) :: (cd, _) :: (b2, _) :: (cf, _) :: (b1, _) :: (Hs ++ H)) (fun X => X ++ ((b3, _) :: (cd, _) :: (b2, _) :: (cf, _) :: (b1, _) :: (Hs ++ H))) .id rfl (fun R4 hR4 hc4 => ?_)
 refine At.freezeBox (H2 := (cd, _) :: (b2, _) :: (cf, _) :: (b1, _) :: (Hs ++ H)) (fun X => X ++ ((cd, _) :: (b2, _) :: (cf, _) :: (b1, _) :: (Hs ++ H))) .id rfl (fun R3 hR3 hc3 => ?_)
 refine At.freezeBox (H2 := (cd, _) :: (cf, _) :: (b1, _) :: (Hs ++ H)) (fun X => (cd, _) :: X ++ ((cf, _) :: (b1, _) :: (Hs ++ H))) (.cons .id) rfl (fun R2 hR2 hc2 => ?_)
 refine At.freezeBox (H2 := (cd, _) :: (cf, _) :: (Hs ++ H)) (fun X => (cd, _) :: (cf, _) :: X ++ (Hs ++ H)) (.cons (.cons .id)) rfl (fun Rz hRz hc1 => ?_)
 replace hc4 := ((hc4.up (H := []) hR3).up (H := []) hR2).up (H := []) hRz
 replace hc3 := (hc3.up (H := []) hR2).up (H := []) hRz
 replace hc2 := hc2.up (H := []) hRz
 have hR : RLe R Rz := ((hR4.trans hR3).trans hR2).trans hRz
 replace h3 := h3.mono hR
 replace h4 := h4.mono hR
 replace h5 := h5.mono hR
 replace h6 := h6.mono hR
 suffices hsw : At (ownJd Tryz.prog B true (MSk Tryz.prog B cf cd (MJ Tryz.prog B Post) N (spOf l N))) _ _ _ _ _ from fun tmps ht => MJ.crowd (n := N) (by
  have e : spOf l N = [] := by rw [← hlen]; exact spOf_all l
  rw [← e]; exact hsw tmps ht)
 refine At.enterLoop ?_
 refine countdown (ι := Unit) (J := fun n _ => ownJd Tryz.prog B true (MSk Tryz.prog B cf cd (MJ Tryz.prog B Post) n (spOf l n))) (C := fun n _ R' H' st => RLe Rz R' ∧ H' = Hs ++ H ∧ n ≤ N ∧ SubL st [(1, pt b1), (2, pt b2), (3, pt b3), (4, pt b4), (15, iv (N : Int)), (16, iv ((N - n : Nat) : Int))]) ?_ ?_ N () _ _ _ ⟨RLe.refl _, rfl, Nat.le_refl _, SubT.sub ⟨rfl, rfl, rfl, rfl, rfl, by simp, trivial⟩⟩
 ·rintro _ R' H' st ⟨hR', rfl, _, hst⟩
  replace hc1 := hc1.up (H := []) hR'
  replace hc2 := hc2.up (H := []) hR'
  replace hc3 := hc3.up (H := []) hR'
  replace hc4 := hc4.up (H := []) hR'
  refine At.sub hst ?_
  refine At.seq ?_
  refine At.regionIs (n := 1) (is := [0]) rfl rfl ?_
  refine At.stepS rfl rfl rfl (Ox.cmp rfl rfl rfl rfl rfl (.put rfl) ?_)
  refine At.endRegion ?_
  refine At.seq ?_
  refine At.condF rfl (by simp) ?_
  refine At.exit rfl ?_
  refine At.seq ?_
  refine At.regionIs (n := 2) (is := [0, 1]) rfl rfl ?_
  refine At.stepS rfl rfl rfl (Ox.makeFunc (vs := #[]) (us := #[_, _, _]) rfl rfl rfl rfl (.put rfl) ?_)
  refine fun tmps ht => Own.stop _ _ _ _ ⟨rfl, fun w hw => ⟨_, _, toGo (d := ⟨.fn (.func 148) #[pt b4, pt b3, pt b2], #[]⟩) rfl rfl rfl ht (resolve_fn rfl rfl rfl) rfl, ?_, ?_⟩⟩
  ·rw [spOf_len, hlen]
   exact Own.child rfl (val_invoke ent148) (w148_ok N (by omega) hc4 hc3 hc2)
  ·refine (?_ : At (ownJd Tryz.prog B true (MRk Tryz.prog B cf (MJ Tryz.prog B Post) (spOf l 0).length (spOf l 0))) _ _ _ _ _) _ (ht.put undef rfl)
   refine At.endRegion ?_
   refine At.seq ?_
   refine At.regionIs (n := 1) (is := [0]) rfl rfl ?_
   refine At.stepS rfl rfl rfl (Ox.load1 rfl rfl one167 (hc2.any.one (j := 0) rfl) rfl (.put rfl) ?_)
   refine At.endRegion ?_
   refine At.block ?_
   refine At.enterLoop ?_
   refine countdown (ι := List Value) (J := fun n rem => ownJd Tryz.prog B true (MRk Tryz.prog B cf (MJ Tryz.prog B Post) n rem)) (C := fun n rem R2 H2 st => ∃ (m td : Tab) (Hs' : HList), RLe R' R2 ∧ rem.Perm (td.map recV) ∧ (m ++ td).Perm l ∧ OwnM v7 m Hs' ∧ H2 = Hs' ++ H ∧ n = rem.length ∧ SubL st [(1, pt b1), (22, .chan (some cf))]) ?_ ?_ _ _ _ _ _ ⟨[], l, Hs, RLe.refl _, spOf_perm l, by simp, hnil ▸ h7, rfl, rfl, SubT.sub ⟨rfl, rfl, trivial⟩⟩
   ·rintro rem R2 H2 st ⟨m, td, Hs', hR2, hrem, hml, hm, rfl, hn, hst⟩
    refine At.sub hst ?_
    refine At.seq ?_
    refine At.regionIs (n := 2) (is := [0, 1]) rfl rfl ?_
    refine fun tmps ht => Own.stop _ _ _ _ ⟨.agg #[.bool false, .bool false, .bool false, .bool false, .bool false, .int .i64 0], toRecv rfl rfl rfl rfl Tryz.underlying167 (fun _ => ⟨by kernel_rfl, by kernel_rfl⟩) rfl ht (fun _ _ _ => trivial) fun tmps' ht' => ?_⟩
    refine (?_ : At (mainJd Tryz.prog B Post) _ _ _ _ _) tmps' ht'
    refine At.stepS rfl rfl rfl (Ox.extract rfl rfl rfl rfl (.put rfl) ?_)
    refine At.endRegion ?_
    refine At.seq ?_
    refine At.condF rfl rfl ?_
    refine At.exit rfl ?_
    refine At.freezeMap (H2 := H) (fun X => X ++ H) .id rfl hm (fun R6 hR6 hm6 => ?_)
    refine At.endR Tryz.func91 .nil (hk _ _ _ ⟨[], ⟨((hR.trans hR').trans hR2).trans hR6, ?_, rfl, rfl⟩, rfl⟩)
    have htd : td = [] := by
     have h1 := hrem.length_eq
     rw [← hn, List.length_map] at h1
     exact List.length_eq_zero_iff.1 h1.symm
    subst htd
    rw [List.append_nil] at hml
    rcases hm6 with ⟨e1, e2⟩ | ⟨b, es, cl, m', e1, e2, e3, e4, e5⟩
    ·exfalso
     rw [e2] at hml
     have := hl5 ([], 0) (hml.mem_iff.1 (by simp [nilTab]))
     cases this
    ·exact .inr ⟨b, es, cl, m', e1, e2, e3, e4, e5.trans hml⟩
   ·rintro n ih rem R2 H2 st ⟨m, td, Hs', hR2, hrem, hml, hm, rfl, hn, hst⟩
    refine At.sub hst ?_
    refine At.seq ?_
    refine At.regionIs (n := 2) (is := [0, 1]) rfl rfl ?_
    refine fun tmps ht => Own.stop _ _ _ _ ⟨.agg #[.bool false, .bool false, .bool false, .bool false, .bool false, .int .i64 0], toRecv rfl rfl rfl rfl Tryz.underlying167 (fun _ => ⟨by kernel_rfl, by kernel_rfl⟩) rfl ht (fun v tmps' ht' rest hrest => ?_) fun _ _ => trivial⟩
    obtain ⟨p, hp, rfl⟩ := List.mem_map.1 (hrem.mem_iff.1 (hrest.mem_iff.2 (List.mem_cons_self)))
    have htd : td.Perm (p :: td.erase p) := List.perm_cons_erase hp
    have hrest' : rest.Perm ((td.erase p).map recV) := by
     have := hrest.symm.trans (hrem.trans (htd.map recV))
     simpa using this
    have hpl : p ∈ l := hml.mem_iff.1 (List.mem_append.2 (.inr hp))
    have hml' : ((m ++ [p]) ++ td.erase p).Perm l := by
     rw [List.append_assoc]
     exact (List.Perm.append_left m htd.symm).trans hml
    have hnew : p.1 ∉ m.map (·.1) := by
     have h1 : ((m ++ td).map (·.1)).Nodup := (hml.map _).nodup_iff.2 hnd
     rw [List.map_append, List.nodup_append] at h1
     intro hx
     exact h1.2.2 _ hx _ (List.mem_map.2 ⟨p, hp, rfl⟩) rfl
    have hmn : m ≠ nilTab := by
     intro e
     have := hl5 ([], 0) (hml.mem_iff.1 (by rw [e]; simp [nilTab]))
     cases this
    have hp5 := hl5 p hpl
    obtain ⟨g, wst⟩ := p
    obtain ⟨a0, a1, a2, a3, a4, rfl⟩ := five hp5
    replace hc1 := hc1.up (H := []) hR2
    refine (?_ : At (ownJd Tryz.prog B true (MRk Tryz.prog B cf (MJ Tryz.prog B Post) n rest)) _ _ _ _ _) tmps' ht'
    refine At.stepS rfl rfl rfl (Ox.extract rfl rfl rfl rfl (.put rfl) ?_)
    refine At.endRegion ?_
    refine At.seq ?_
    refine At.condT rfl rfl ?_
    refine At.skip ?_
    refine At.block ?_
    refine At.seq ?_
    refine At.regionIs (n := 3) (is := [0, 1, 2]) rfl rfl ?_
    refine At.stepS rfl rfl rfl (Ox.extract rfl rfl rfl rfl (.put rfl) ?_)
    refine At.stepS rfl rfl rfl (Ox.alloc (cs := #[.bool false, .bool false, .bool false, .bool false, .bool false, .int .i64 0]) rfl zero170 rfl fun b6 _ _ => ⟨_, (.put rfl), ?_⟩)
    refine At.stepS rfl rfl rfl (Ox.storeN (cs' := #[_, _, _, _, _, _]) rfl rfl rfl agg170 rfl (ones_cons rfl (ones_cons rfl (ones_cons rfl (ones_cons rfl (ones_cons rfl (ones_cons rfl ones_nil)))))) .here rfl rfl rfl (.refl _) ?_)
    refine At.endRegion ?_
    refine At.regionIs (n := 7) (is := [0, 1, 2, 3, 4, 5, 6]) rfl rfl ?_
    refine At.stepS rfl rfl rfl (Ox.fieldAddr rfl rfl field106_2 rfl (.put rfl) ?_)
    refine At.stepS rfl rfl rfl (Ox.load1 rfl rfl one104 (hc1.any.one (j := 7) rfl) rfl (.put rfl) ?_)
    refine At.stepS rfl rfl rfl (Ox.fieldAddr rfl rfl field170_0 rfl (.put rfl) ?_)
    refine At.stepS rfl rfl rfl (Ox.loadN (vs := [_, _, _, _, _]) rfl rfl agg112 rfl ((CellsAt.box (L := [.bool a0, .bool a1, .bool a2, .bool a3, .bool a4, iv wst]) (.head _)).part (j := 0) (n := 5) rfl) rfl (.put rfl) ?_)
    refine At.stepS rfl rfl rfl (Ox.fieldAddr rfl rfl field170_1 rfl (.put rfl) ?_)
    refine At.stepS rfl rfl rfl (Ox.load1 rfl rfl one3 ((CellsAt.box (L := [.bool a0, .bool a1, .bool a2, .bool a3, .bool a4, iv wst]) (.head _)).one (j := 5) rfl) rfl (.put rfl) ?_)
    refine At.stepS rfl rfl rfl (mapAdd' (k := [a0, a1, a2, a3, a4]) (w := wst) rfl rfl rfl rfl hm hmn rfl hnew (fun X => (b6, _) :: X ++ H) (.cons .id) rfl (.refl _) fun Hs2 hm2 => ?_)
    refine At.endRegion ?_
    refine At.inBlock ?_
    refine At.inLoop ?_
    refine At.drop (List.Sublist.cons _ (List.Sublist.refl _)) ?_
    refine ih rest _ _ _ ⟨m ++ [([a0, a1, a2, a3, a4], wst)], td.erase ([a0, a1, a2, a3, a4], wst), Hs2, hR2, hrest', hml', hm2, rfl, ?_, SubT.sub ⟨rfl, rfl, trivial⟩⟩
    have := hrest.length_eq
    simp only [List.length_cons] at this
    omega
 ·rintro n ih _ R' H' st ⟨hR', rfl, hn, hst⟩
  have hi : N - (n + 1) < N := by omega
  obtain ⟨p, hp, hmp⟩ := hget' _ hi
  refine At.sub hst ?_
  refine At.seq ?_
  refine At.regionIs (n := 1) (is := [0]) rfl rfl ?_
  refine At.stepS rfl rfl rfl (Ox.cmp rfl rfl rfl rfl rfl (.put rfl) ?_)
  refine At.endRegion ?_
  refine At.seq ?_
  refine At.condT rfl (by simp; omega) ?_
  refine At.skip ?_
  refine At.seq ?_
  refine At.block ?_
  refine At.seq ?_
  refine At.regionIs (n := 3) (is := [0, 1, 2]) rfl rfl ?_
  refine At.stepS rfl rfl rfl (Ox.move rfl rfl rfl (.put rfl) ?_)
  refine At.stepS rfl rfl rfl (Ox.alloc (cs := #[iv 0]) rfl zero3 rfl fun b5 _ _ => ⟨_, (.put rfl), ?_⟩)
  refine At.stepS rfl rfl rfl (Ox.store1 (cs' := #[_]) rfl rfl rfl one3 rfl .here rfl rfl rfl (.refl _) ?_)
  refine At.endRegion ?_
  refine At.freezeBox (H2 := Hs ++ H) (fun X => X ++ (Hs ++ H)) .id rfl (fun R5 hR5 hc5 => ?_)
  have hRR : RLe Rz R5 := hR'.trans hR5
  refine At.regionIs (n := 2) (is := [0, 1]) rfl rfl ?_
  refine At.stepS rfl rfl rfl (Ox.makeFunc (vs := #[]) (us := #[_, _, _, _]) rfl rfl rfl rfl (.put rfl) ?_)
  refine fun tmps ht => Own.stop _ _ _ _ ⟨rfl, fun w hw => ⟨_, _, recV p, toGo (d := ⟨.fn (.func 147) #[pt b1, pt b5, pt b2, pt b3], #[]⟩) rfl rfl rfl ht (resolve_fn rfl rfl rfl) rfl, ?_, ?_⟩⟩
  ·exact Own.child rfl (val_invoke ent147) (w147_ok x0 ((N - (n + 1) : Nat) : Int) (hc1.up (H := []) hRR) (h3.mono hRR) (h4.mono hRR) (h5.mono hRR) (h6.mono hRR) hc5 (hc2.up (H := []) hRR) (hc3.up (H := []) hRR) hmp)
  ·have hsp : recV p :: spOf l (n + 1) = spOf l n := spOf_next (by omega) (by rw [hlen]; exact hp)
   rw [hsp]
   refine (?_ : At (ownJd Tryz.prog B true (MSk Tryz.prog B cf cd (MJ Tryz.prog B Post) n (spOf l n))) _ _ _ _ _) _ (ht.put undef rfl)
   refine At.endRegion ?_
   refine At.inBlock ?_
   refine At.regionIs (n := 2) (is := [0, 1]) rfl rfl ?_
   refine At.stepS rfl rfl rfl (Ox.ar rfl rfl rfl rfl rfl (.put rfl) ?_)
   refine At.stepS rfl rfl rfl (Ox.move rfl rfl rfl (.put rfl) ?_)
   refine At.endRegion ?_
   refine At.inLoop ?_
   have e : i64 (((N - (n + 1) : Nat) : Int) + 1) = ((N - n : Nat) : Int) := by rw [i64_fit (by omega)]; omega
   exact ih () _ _ _ ⟨hRR, rfl, by omega, SubT.sub ⟨rfl, rfl, rfl, rfl, rfl, congrArg (fun z => some (iv z)) e, trivial⟩⟩
end
end Go.Proofs.YtabamagholjdcaaGreatDoor
namespace Go.Proofs.YtabamagholjdcaaGreatDoor
open Go.Lg Go.Proofs Go.ChangeShapes Go.WideShapes Go.ChangeAt Go.RowKit Go.Conc
set_option maxRecDepth 100000
theorem read3 : ReadR Tryz.prog 3 (CI .i64) 1 := ReadR.int (by kernel_rfl) Tryz.underlying3
theorem read45 : ReadR Tryz.prog 45 (CI .i64) 1 := ReadR.int (by kernel_rfl) Tryz.underlying45
theorem read9 : ReadR Tryz.prog 9 CS 1 := ReadR.str (by kernel_rfl) Tryz.underlying9
theorem read25 : ReadR Tryz.prog 25 (CSl (CI .i64) 1) 1 := ReadR.slice (by kernel_rfl) Tryz.underlying25 (by decide) read3
theorem read23 : ReadR Tryz.prog 23 CReach 2 := ⟨by kernel_rfl, fun W T enc sp held fuel cs x h => by
 obtain ⟨xs, n, _, _, hl, hx, hf⟩ := DataW.trod_struct Tryz.underlying23 h
 have hc : cs.length = 2 := hl.trans (by kernel_rfl)
 match cs, hc with
 | [c0, c1], _ =>
  obtain ⟨a0, h0⟩ := read3.field [c0] hx (hf 0 _ rfl)
  obtain ⟨a1, h1⟩ := read3.field [c1] hx (hf 1 _ rfl)
  cases h0; cases h1
  exact ⟨rfl, ⟨a0, a1⟩, rfl⟩⟩
theorem read47 : ReadR Tryz.prog 47 CHullHeel 2 := ⟨by kernel_rfl, fun W T enc sp held fuel cs x h => by
 obtain ⟨xs, n, _, _, hl, hx, hf⟩ := DataW.trod_struct Tryz.underlying47 h
 have hc : cs.length = 2 := hl.trans (by kernel_rfl)
 match cs, hc with
 | [c0, c1], _ =>
  obtain ⟨a0, h0⟩ := read3.field [c0] hx (hf 0 _ rfl)
  obtain ⟨a1, h1⟩ := read45.field [c1] hx (hf 1 _ rfl)
  cases h0; cases h1
  exact ⟨rfl, ⟨a0, a1⟩, rfl⟩⟩
theorem read58 : ReadR Tryz.prog 58 CHullPiece 5 := ⟨by kernel_rfl, fun W T enc sp held fuel cs x h => by
 obtain ⟨xs, n, _, _, hl, hx, hf⟩ := DataW.trod_struct Tryz.underlying58 h
 have hc : cs.length = 5 := hl.trans (by kernel_rfl)
 match cs, hc with
 | [c0, c1, c2, c3, c4], _ =>
  obtain ⟨a0, h0⟩ := read9.field [c0] hx (hf 0 _ rfl)
  obtain ⟨a1, h1⟩ := read3.field [c1] hx (hf 1 _ rfl)
  obtain ⟨a2, h2⟩ := read23.field [c2, c3] hx (hf 2 _ rfl)
  obtain ⟨a3, v3, h3, g3⟩ := read25.field [c4] hx (hf 3 _ rfl)
  cases h0; cases h1; cases h2; cases h3
  exact ⟨rfl, ⟨a0, a1, a2, a3⟩, c4, g3, rfl⟩⟩
theorem read24 : ReadR Tryz.prog 24 (CSl CHullPiece 5) 1 := ReadR.slice (by kernel_rfl) Tryz.underlying24 (by decide) read58
theorem read26 : ReadR Tryz.prog 26 (CSl CHullHeel 2) 1 := ReadR.slice (by kernel_rfl) Tryz.underlying26 (by decide) read47
theorem read28 : ReadR Tryz.prog 28 CHullBook 6 := ⟨by kernel_rfl, fun W T enc sp held fuel cs x h => by
 obtain ⟨xs, n, _, _, hl, hx, hf⟩ := DataW.trod_struct Tryz.underlying28 h
 have hc : cs.length = 6 := hl.trans (by kernel_rfl)
 match cs, hc with
 | [c0, c1, c2, c3, c4, c5], _ =>
  obtain ⟨a0, h0⟩ := read3.field [c0] hx (hf 0 _ rfl)
  obtain ⟨a1, h1⟩ := read23.field [c1, c2] hx (hf 1 _ rfl)
  obtain ⟨a2, v2, h2, g2⟩ := read24.field [c3] hx (hf 2 _ rfl)
  obtain ⟨a3, v3, h3, g3⟩ := read25.field [c4] hx (hf 3 _ rfl)
  obtain ⟨a4, v4, h4, g4⟩ := read26.field [c5] hx (hf 4 _ rfl)
  cases h0; cases h1; cases h2; cases h3; cases h4
  exact ⟨rfl, ⟨a0, a1, a2, a3, a4⟩, c3, c4, c5, g2, g3, g4, rfl⟩⟩
theorem read157 : ReadR Tryz.prog 157 (CW .u16) 1 := ReadR.intW (by kernel_rfl) Tryz.underlying157
theorem read63 : ReadR Tryz.prog 63 (CSl (CW .u16) 1) 1 := ReadR.slice (by kernel_rfl) Tryz.underlying63 (by decide) read157
section
variable {W : World} {T : Type} {enc : TypeId × Value → T} {b0 : Nat} {v : Value} {d : DataW T} {p : List MemPlace}
theorem arg28 (hv : Value.okWide Tryz.prog W .any b0 28 v) (h : DataW.Trod enc Tryz.prog W 0 (fun _ => true) true 28 v d p) :
  ∃ (x : HullBook) (v3 v4 v5 : Value), v = .agg #[iv x.Limit, iv x.Ballast.Least, iv x.Ballast.Most, v3, v4, v5] ∧ SlR CHullPiece 5 (heapR W) v3 x.Pieces ∧ SlR (CI .i64) 1 (heapR W) v4 x.Out ∧ SlR CHullHeel 2 (heapR W) v5 x.Heels := by
 obtain ⟨cs, rfl, _⟩ := okWide_struct Tryz.underlying28 hv
 obtain ⟨fuel, hf⟩ := h
 obtain ⟨_, x, v3, v4, v5, h3, h4, h5, e⟩ := read28.rd _ _ _ _ _ _ _ _ hf
 exact ⟨x, v3, v4, v5, by rw [← Array.toArray_toList (xs := cs), show cs.toList = _ from e], h3, h4, h5⟩
theorem arg63 (hv : Value.okWide Tryz.prog W .any b0 63 v) (h : DataW.Trod enc Tryz.prog W 0 (fun _ => true) true 63 v d p) : ∃ xs, SlR (CI .u16) 1 (heapR W) v xs ∧ ∀ x ∈ xs, 0 ≤ x ∧ x ≤ 65535 := by
 obtain ⟨a, len, cap, rfl⟩ := okWide_slice Tryz.underlying63 hv
 obtain ⟨fuel, hf⟩ := h
 obtain ⟨_, x, v1, e, h1⟩ := read63.rd _ _ _ _ _ _ _ _ hf
 cases e
 refine ⟨x, h1.weak fun y es hy => hy.1, fun y hy => ?_⟩
 obtain ⟨_, _, h2⟩ := h1.each y hy
 exact h2
theorem arg5 (hv : Value.okWide Tryz.prog W .any b0 5 v) (h : DataW.Trod enc Tryz.prog W 0 (fun _ => true) true 5 v d p) : ∃ x : Nat, v = .int .u8 x ∧ x < 256 := by
 obtain ⟨x, rfl, _, _, hw⟩ := open_int Tryz.underlying5 hv h
 simp only [Lit.wf, Bool.and_eq_true, decide_eq_true_eq, IntKind.min, IntKind.max, IntKind.signed, IntKind.bits] at hw
 simp at hw
 exact ⟨x.toNat, by rw [Int.toNat_of_nonneg (by omega)], by omega⟩
end
theorem gChecks : Tryz.prog.globalNamed "lagan/hull.checks" = some 0 := by kernel_rfl
theorem tChecks : (Tryz.prog.globals[0]?).map (·.type) = some 164 := by kernel_rfl
abbrev laidL : List (String × DataW Unit) := [("lagan/hull.checks", Rows.laid_lagan_hull_checks)]
theorem door_met (os : Os) (args : Array Value) : laidMetH Tryz.prog laidL ((World.doorLaid Tryz.prog 14 os).forCall (fun _ _ => 0) ⟨#[], args, []⟩).memory :=
 laidMetH_of_parts3 (fuel := 8) (laidMet_of_run' 8 (by kernel_rfl) (by kernel_rfl)) (by kernel_rfl) (by kernel_rfl)
theorem of_laid {W : World} (h : laidMetH Tryz.prog laidL W) : GOk (heapR W) := by
 obtain ⟨g, t, cs, fuel, p, hg, ht, hv, hd⟩ := h.funcs (n := "lagan/hull.checks") (List.mem_cons_self ..)
 obtain rfl := Option.some.inj (gChecks.symm.trans hg)
 obtain rfl := Option.some.inj (tChecks.symm.trans ht)
 obtain ⟨xs, n, _, hx, hlen, hn, hel⟩ := DataW.trod_array Tryz.underlying164 (show DataW.trod (funcToken Tryz.prog) Tryz.prog W 0 (fun _ => true) true fuel 164 cs.toList = some (.agg [.held [40, 108, 97, 103, 97, 110, 47, 104, 117, 108, 108, 46, 98, 111, 111, 107, 41, 46, 104, 117, 108, 108], .held [40, 108, 97, 103, 97, 110, 47, 104, 117, 108, 108, 46, 98, 111, 111, 107, 41, 46, 112, 105, 101, 99, 101, 115], .held [40, 108, 97, 103, 97, 110, 47, 104, 117, 108, 108, 46, 98, 111, 111, 107, 41, 46, 111, 117, 116], .held [40, 108, 97, 103, 97, 110, 47, 104, 117, 108, 108, 46, 98, 111, 111, 107, 41, 46, 104, 101, 101, 108, 115]], p) from hd)
 rw [show Tryz.prog.cellsOf 109 = 1 by kernel_rfl] at hel
 have hl : cs.toList.length = 4 := hlen.trans (by kernel_rfl)
 obtain ⟨cs⟩ := cs
 simp only at hl hel
 match xs, hn, cs, hl with
 | [x0, x1, x2, x3], _, [c0, c1, c2, c3], _ =>
  simp only [Prod.mk.injEq, DataW.agg.injEq, List.map_cons, List.map_nil, List.cons.injEq, and_true] at hx
  obtain ⟨⟨e0, e1, e2, e3⟩, _⟩ := hx
  obtain ⟨x0, q0⟩ := x0
  obtain ⟨x1, q1⟩ := x1
  obtain ⟨x2, q2⟩ := x2
  obtain ⟨x3, q3⟩ := x3
  simp only at e0 e1 e2 e3
  subst e0 e1 e2 e3
  obtain rfl := func_of_trod (f0 := 211) Tryz.underlying109 (by kernel_rfl) (hel 0 (by decide))
  obtain rfl := func_of_trod (f0 := 212) Tryz.underlying109 (by kernel_rfl) (hel 1 (by decide))
  obtain rfl := func_of_trod (f0 := 213) Tryz.underlying109 (by kernel_rfl) (hel 2 (by decide))
  obtain rfl := func_of_trod (f0 := 214) Tryz.underlying109 (by kernel_rfl) (hel 3 (by decide))
  intro j v hj
  rw [Nat.zero_add]
  refine cell_heapR ?_
  rw [World.var?_cell hg hv j]
  simpa using hj
end Go.Proofs.YtabamagholjdcaaGreatDoor
