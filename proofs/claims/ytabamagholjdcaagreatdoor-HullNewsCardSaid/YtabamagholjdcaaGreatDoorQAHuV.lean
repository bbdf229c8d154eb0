/- What reckon does in company; the arguments of the statements. Conditions: none. -/
import Derived.Test.YtabamagholjdcaaGreatDoorQAHuW
import Derived.Test.YtabamagholjdcaaGreatDoorQAHuF
import Derived.Test.YtabamagholjdcaaGreatDoorQALgD
import Derived.Test.YtabamagholjdcaaGreatDoorTie
import Derived.Stop.Joined
import Derived.LaidOnce
import Derived.ProofKit
import Derived.OpenShut
namespace Go.Proofs.YtabamagholjdcaaGreatDoor
open Go.Lg Go.Proofs Go.Conc
set_option maxRecDepth 100000
set_option maxHeartbeats 4000000
section
variable {B : Base} {R : aI} {H : au}
abbrev pt (b : Nat) : Value := .pointer (some ⟨b, 0, none⟩)
theorem aBw {cf cd b0 b1 b2 : Nat} (k : Nat) (hk : k ≤ 1048576) (hc0 : aT R [] b0 0 [iv (k : Int)]) (cN : aT R [] b1 0 [.chan (some cd)]) (bz : aT R [] b2 0 [.chan (some cf)]) :
  Own Tryz.prog B false (CK Tryz.prog B cf cd k) R [] (br (Frame.enter Tryz.prog 148 #[pt b0, pt b1, pt b2] .deferred) [nM Tryz.prog]) := by
 refine abZ (args := [pt b0, pt b1, pt b2]) Tryz.func148 rfl (n := 10) rfl rfl ?_
 refine At.seq ?_
 refine At.seq ?_
 refine At.g9 (n := 2) (is := [0, 1]) rfl rfl ?_
 refine At.cF rfl rfl rfl (Ox.bV rfl rfl bg (hc0.any.one (j := 0) rfl) rfl (.put rfl) ?_)
 refine At.cF rfl rfl rfl (Ox.move rfl rfl rfl (.put rfl) ?_)
 refine At.dU ?_
 refine At.block ?_
 refine At.enterLoop ?_
 refine countdown (ι := Unit) (J := λ n _ => qU Tryz.prog B false (CK Tryz.prog B cf cd n)) (C := λ n _ R' H' st => R' = R ∧ H' = [] ∧ n ≤ k ∧ aK st [(1, pt b1), (2, pt b2), (3, iv (k : Int)), (4, iv ((k - n : Nat) : Int))]) ?_ ?_ k () _ _ _ ⟨rfl, rfl, Nat.le_refl _, aA.sub ⟨rfl, rfl, rfl, by simp, trivial⟩⟩
 ·rintro _ R' H' st ⟨rfl, rfl, _, hst⟩
  refine At.sub hst ?_
  refine At.seq ?_
  refine At.g9 (n := 1) (is := [0]) rfl rfl ?_
  refine At.cF rfl rfl rfl (Ox.cmp rfl rfl rfl rfl rfl (.put rfl) ?_)
  refine At.dU ?_
  refine At.seq ?_
  refine At.B3 rfl (by simp) ?_
  refine At.exit rfl ?_
  refine At.g9 (n := 2) (is := [0, 1]) rfl rfl ?_
  refine At.cF rfl rfl rfl (Ox.bV rfl rfl Lr (bz.any.one (j := 0) rfl) rfl (.put rfl) ?_)
  exact λ tmps ht => Own.stop _ _ _ _ (az7 rfl rfl rfl rfl rfl ht λ _ => ace Tryz.func148 rfl)
 ·rintro n ih _ R' H' st ⟨rfl, rfl, hn, hst⟩
  refine At.sub hst ?_
  refine At.seq ?_
  refine At.g9 (n := 1) (is := [0]) rfl rfl ?_
  refine At.cF rfl rfl rfl (Ox.cmp rfl rfl rfl rfl rfl (.put rfl) ?_)
  refine At.dU ?_
  refine At.seq ?_
  refine At.B4 rfl (by simp; omega) ?_
  refine At.skip ?_
  refine At.seq ?_
  refine At.block ?_
  refine At.g9 (n := 2) (is := [0, 1]) rfl rfl ?_
  refine At.cF rfl rfl rfl (Ox.bV rfl rfl Uu (cN.any.one (j := 0) rfl) rfl (.put rfl) ?_)
  refine λ tmps ht => Own.stop _ _ _ _ ⟨.bool false, UX rfl rfl rfl rfl Tryz.underlying168 (λ _ => ⟨by kernel_rfl, by kernel_rfl⟩) rfl ht (λ v tmps' ht' => ?_) (λ _ _ => trivial)⟩
  refine (?_ : At (qU Tryz.prog B false (CK Tryz.prog B cf cd n)) _ _ _ _ _) tmps' ht'
  refine At.dU ?_
  refine At.inBlock ?_
  refine At.g9 (n := 2) (is := [0, 1]) rfl rfl ?_
  refine At.cF rfl rfl rfl (Ox.ar rfl rfl rfl rfl rfl (.put rfl) ?_)
  refine At.cF rfl rfl rfl (Ox.move rfl rfl rfl (.put rfl) ?_)
  refine At.dU ?_
  have e : i64 (((k - (n + 1) : Nat) : Int) + 1) = ((k - n : Nat) : Int) := by rw [TM (by omega)]; omega
  refine At.inLoop ?_
  exact ih () _ _ _ ⟨rfl, rfl, by omega, aA.sub ⟨rfl, rfl, rfl, congrArg (λ z => some (iv z)) e, trivial⟩⟩
theorem abJ {α β : Type} {f : α → Option β} : ∀ {xs : List α} {ys : List β}, xs.mapM f = some ys → ys.length = xs.length ∧ ∀ (i : Nat) (x : α), xs[i]? = some x → ∃ y, ys[i]? = some y ∧ f x = some y
 | [], ys, h => by
  simp at h; subst h
  exact ⟨rfl, λ i x hx => by simp at hx⟩
 | a :: xs, ys, h => by
  rw [List.mapM_cons] at h
  cases ha : f a with
  | none => rw [ha] at h; simp at h
  | some b =>
   cases hr : xs.mapM f with
   | none => rw [ha, hr] at h; simp at h
   | some bs =>
    rw [ha, hr] at h
    simp at h
    subst h
    obtain ⟨h1, h2⟩ := abJ hr
    refine ⟨by simp [h1], λ i x hx => ?_⟩
    cases i with
    | zero => simp at hx; subst hx; exact ⟨b, rfl, ha⟩
    | succ i => exact h2 i x (by simpa using hx)
theorem axT {c : Ctx} {st st' : St} {o : Oper} {x y z : Operand} {v : Value} {m : fK} {k : List Bool} {w : Int} {Hs : au} {C : aI → au → St → Prop} (hop : o.op = .mapUpdate 104 x y z) (hx : bk st x = some v) (hy : bk st y = some (lu k)) (hz : bk st z = some (iv w)) (hm : lT v m Hs) (zM : m ≠ kT) (hk : k.length = 5) (hn : k ∉ m.map (·.1))
  (G : au → au) (hG : gh G) (hd : o.dst = none) (hst : aK st st') (h : ∀ cH, lT v (m ++ [(k, w)]) cH → C R (G cH) st') : aR Tryz.prog B c o R (G Hs) st C := by
 rcases hm with ⟨_, h2, _⟩ | ⟨b, es, cl, rfl, rfl, h3, h4⟩
 ·exact absurd h2 zM
 ·refine Ox.axS hop hx hy hz Up h3 hk hn hG.set hd hst (h _ (.inr ⟨b, _, _, rfl, rfl, ?_, ?_⟩))
  ·rw [Array.toList_push]; exact oZ.push rfl rfl hk h3
  ·rw [List.map_append, List.nodup_append]
   refine ⟨h4, by simp, λ a ha b hb => ?_⟩
   simp only [List.map_cons, List.map_nil, List.mem_singleton] at hb
   subst hb
   intro e; subst e; exact hn ha
def kK (l : List (List Bool × Int)) (n : Nat) : List Value := ((l.take (l.length - n)).map vp).reverse
theorem azA (l : List (List Bool × Int)) : kK l l.length = [] := by simp [kK]
theorem azC {l : List (List Bool × Int)} {n : Nat} {p : List Bool × Int} (hn : n + 1 ≤ l.length) (hp : l[l.length - (n + 1)]? = some p) : vp p :: kK l (n + 1) = kK l n := by
 have e : l.length - n = (l.length - (n + 1)) + 1 := by omega
 unfold kK
 rw [e, List.take_add_one, hp]
 simp
theorem azB {l : List (List Bool × Int)} : (kK l 0).length = l.length := by simp [kK]
theorem azD (l : List (List Bool × Int)) : (kK l 0).Perm (l.map vp) := by
 unfold kK
 simp only [Nat.sub_zero, List.take_length]
 exact List.reverse_perm _
theorem ay9 {Post : Value → World → Prop} : y6 (Hv Tryz.prog B Post) := by
 intro R H x0 v3 v4 v5 v6 v7 Hs h3 h4 h5 h6 h7 r hr
 unfold v8 at hr
 obtain ⟨many, aoA, hr⟩ := ao hr
 obtain ⟨l, hl, hr⟩ := ao hr
 split at hr
 case isFalse => cases hr
 rename_i hc
 obtain ⟨zM, cD, Rb, hm0, hm1⟩ := hc
 obtain rfl := af hr
 obtain ⟨N, rfl⟩ : ∃ N : Nat, many = (N : Int) := ⟨many.toNat, by omega⟩
 rw [Int.toNat_natCast] at hl
 obtain ⟨hlen, qx⟩ := abJ hl
 rw [List.length_range] at hlen
 have amX : ∀ i, i < N → ∃ p, l[i]? = some p ∧ yx x0 (i : Int) = some p := λ i hi => qx i i (by simp [hi])
 refine aJ.aX (args := [.agg #[iv x0.book.aE, iv x0.book.aa.an, iv x0.book.aa.ax, v3, v4, v5, v6, v7]]) Tryz.func91 rfl (n := 32) rfl rfl λ fr cs hk => ?_
 refine At.seq ?_
 refine At.g9 (n := 1) (is := [0]) rfl rfl ?_
 refine At.cF rfl rfl rfl (Ox.X1 rfl rfl rfl λ b1 _ _ => ⟨_, (.put rfl), ?_⟩)
 refine At.dU ?_
 refine At.seq ?_
 refine At.g9 (n := 3) (is := [0, 1, 2]) rfl rfl ?_
 refine At.cF rfl rfl rfl (Ox.makeChan rfl rfl Tryz.underlying167 (xD (by decide +kernel)) rfl λ cf _ _ => ⟨_, (.put rfl), ?_⟩)
 refine At.cF rfl rfl rfl (Ox.alloc (cs := #[.chan none]) rfl aBC rfl λ b2 _ _ => ⟨_, (.put rfl), ?_⟩)
 refine At.cF rfl rfl rfl (Ox.cM (cs' := #[_]) rfl rfl rfl Lr rfl .here rfl rfl rfl (.refl _) ?_)
 refine At.dU ?_
 refine At.seq ?_
 refine At.g9 (n := 3) (is := [0, 1, 2]) rfl rfl ?_
 refine At.cF rfl rfl rfl (Ox.makeChan rfl rfl Tryz.underlying168 (xD (by decide +kernel)) rfl λ cd _ _ => ⟨_, (.put rfl), ?_⟩)
 refine At.cF rfl rfl rfl (Ox.alloc (cs := #[.chan none]) rfl aBD rfl λ b3 _ _ => ⟨_, (.put rfl), ?_⟩)
 refine At.cF rfl rfl rfl (Ox.cM (cs' := #[_]) rfl rfl rfl Uu rfl .here rfl rfl rfl (.refl _) ?_)
 refine At.dU ?_
 refine At.seq ?_
 refine At.g9 (n := 8) (is := [0, 1, 2, 3, 4, 5, 6, 7]) rfl rfl ?_
 refine At.cF rfl rfl rfl (Ox.fieldAddr rfl rfl Y9 rfl (.put rfl) ?_)
 refine At.cF rfl rfl rfl (Ox.fieldAddr rfl rfl Y8 rfl (.put rfl) ?_)
 refine At.cF rfl rfl rfl (Ox.fieldAddr rfl rfl Zd rfl (.put rfl) ?_)
 refine At.cF rfl rfl rfl (Ox.bV rfl rfl cK ((aT.box (L := [iv x0.book.aE, iv x0.book.aa.an, iv x0.book.aa.ax, v3, v4, v5, v6, v7]) (.tail _ (.tail _ (.tail _ (.tail _ (.head _)))))).one (j := 3) rfl) rfl (.put rfl) ?_)
 refine At.cF rfl rfl rfl (Ox.tP (K := bm) (k := 5) (xs := x0.book.az) rfl rfl h3 Tryz.underlying24 rfl (.put rfl) ?_)
 refine At.cF rfl rfl rfl (Ox.shl rfl rfl rfl aoA rfl (.put rfl) ?_)
 refine At.cF rfl rfl rfl (Ox.alloc (cs := #[iv 0]) rfl vN rfl λ b4 _ _ => ⟨_, (.put rfl), ?_⟩)
 refine At.cF rfl rfl rfl (Ox.cM (cs' := #[_]) rfl rfl rfl bg rfl .here rfl rfl rfl (.refl _) ?_)
 refine At.dU ?_
 refine At.seq ?_
 refine At.seq ?_
 refine At.g9 (n := 2) (is := [0, 1]) rfl rfl ?_
 refine At.cF rfl rfl rfl (Ox.bV rfl rfl bg ((aT.box (L := [iv (N : Int)]) (.head _)).one (j := 0) rfl) rfl (.put rfl) ?_)
 refine At.cF rfl rfl rfl (Ox.move rfl rfl rfl (.put rfl) ?_)
 refine At.dU ?_
 refine At.block ?_
 refine At.nh (H2 := (b3, _) :: (cd, _) :: (b2, _) :: (cf, _) :: (b1, _) :: (Hs ++ H)) (λ X => X ++ ((b3, _) :: (cd, _) :: (b2, _) :: (cf, _) :: (b1, _) :: (Hs ++ H))) .id rfl (λ R4 hR4 cg => ?_)
 refine At.nh (H2 := (cd, _) :: (b2, _) :: (cf, _) :: (b1, _) :: (Hs ++ H)) (λ X => X ++ ((cd, _) :: (b2, _) :: (cf, _) :: (b1, _) :: (Hs ++ H))) .id rfl (λ R3 ZA bK => ?_)
 refine At.nh (H2 := (cd, _) :: (cf, _) :: (b1, _) :: (Hs ++ H)) (λ X => (cd, _) :: X ++ ((cf, _) :: (b1, _) :: (Hs ++ H))) (.cons .id) rfl (λ R2 wU bz => ?_)
 refine At.nh (H2 := (cd, _) :: (cf, _) :: (Hs ++ H)) (λ X => (cd, _) :: (cf, _) :: X ++ (Hs ++ H)) (.cons (.cons .id)) rfl (λ Rz Kv cN => ?_)
 replace cg := ((cg.up (H := []) ZA).up (H := []) wU).up (H := []) Kv
 replace bK := (bK.up (H := []) wU).up (H := []) Kv
 replace bz := bz.up (H := []) Kv
 have hR : aN R Rz := ((hR4.trans ZA).trans wU).trans Kv
 replace h3 := h3.mono hR
 replace h4 := h4.mono hR
 replace h5 := h5.mono hR
 replace h6 := h6.mono hR
 suffices hsw : At (qU Tryz.prog B true (o4 Tryz.prog B cf cd (MJ Tryz.prog B Post) N (kK l N))) _ _ _ _ _ from λ tmps ht => MJ.crowd (n := N) (by
  have e : kK l N = [] := by rw [← hlen]; exact azA l
  rw [← e]; exact hsw tmps ht)
 refine At.enterLoop ?_
 refine countdown (ι := Unit) (J := λ n _ => qU Tryz.prog B true (o4 Tryz.prog B cf cd (MJ Tryz.prog B Post) n (kK l n))) (C := λ n _ R' H' st => aN Rz R' ∧ H' = Hs ++ H ∧ n ≤ N ∧ aK st [(1, pt b1), (2, pt b2), (3, pt b3), (4, pt b4), (15, iv (N : Int)), (16, iv ((N - n : Nat) : Int))]) ?_ ?_ N () _ _ _ ⟨aN.refl _, rfl, Nat.le_refl _, aA.sub ⟨rfl, rfl, rfl, rfl, rfl, by simp, trivial⟩⟩
 ·rintro _ R' H' st ⟨qm, rfl, _, hst⟩
  replace cN := cN.up (H := []) qm
  replace bz := bz.up (H := []) qm
  replace bK := bK.up (H := []) qm
  replace cg := cg.up (H := []) qm
  refine At.sub hst ?_
  refine At.seq ?_
  refine At.g9 (n := 1) (is := [0]) rfl rfl ?_
  refine At.cF rfl rfl rfl (Ox.cmp rfl rfl rfl rfl rfl (.put rfl) ?_)
  refine At.dU ?_
  refine At.seq ?_
  refine At.B3 rfl (by simp) ?_
  refine At.exit rfl ?_
  refine At.seq ?_
  refine At.g9 (n := 2) (is := [0, 1]) rfl rfl ?_
  refine At.cF rfl rfl rfl (Ox.makeFunc (vs := #[]) (us := #[_, _, _]) rfl rfl rfl rfl (.put rfl) ?_)
  refine λ tmps ht => Own.stop _ _ _ _ ⟨rfl, λ w hw => ⟨_, _, acH (d := ⟨.fn (.func 148) #[pt b4, pt b3, pt b2], #[]⟩) rfl rfl rfl ht (ach rfl rfl rfl) rfl, ?_, ?_⟩⟩
  ·rw [azB, hlen]
   exact Own.child rfl (acQ aiu) (aBw N (by omega) cg bK bz)
  ·refine (?_ : At (qU Tryz.prog B true (kW Tryz.prog B cf (MJ Tryz.prog B Post) (kK l 0).length (kK l 0))) _ _ _ _ _) _ (ht.put undef rfl)
   refine At.dU ?_
   refine At.seq ?_
   refine At.g9 (n := 1) (is := [0]) rfl rfl ?_
   refine At.cF rfl rfl rfl (Ox.bV rfl rfl Lr (bz.any.one (j := 0) rfl) rfl (.put rfl) ?_)
   refine At.dU ?_
   refine At.block ?_
   refine At.enterLoop ?_
   refine countdown (ι := List Value) (J := λ n rem => qU Tryz.prog B true (kW Tryz.prog B cf (MJ Tryz.prog B Post) n rem)) (C := λ n rem R2 H2 st => ∃ (m td : fK) (cH : au), aN R' R2 ∧ rem.Perm (td.map vp) ∧ (m ++ td).Perm l ∧ lT v7 m cH ∧ H2 = cH ++ H ∧ n = rem.length ∧ aK st [(1, pt b1), (22, .chan (some cf))]) ?_ ?_ _ _ _ _ _ ⟨[], l, Hs, aN.refl _, azD l, by simp, zM ▸ h7, rfl, rfl, aA.sub ⟨rfl, rfl, trivial⟩⟩
   ·rintro rem R2 H2 st ⟨m, td, cH, wU, FZ, hml, hm, rfl, hn, hst⟩
    refine At.sub hst ?_
    refine At.seq ?_
    refine At.g9 (n := 2) (is := [0, 1]) rfl rfl ?_
    refine λ tmps ht => Own.stop _ _ _ _ ⟨.agg #[.bool false, .bool false, .bool false, .bool false, .bool false, .int .i64 0], UX rfl rfl rfl rfl Tryz.underlying167 (λ _ => ⟨by kernel_rfl, by kernel_rfl⟩) rfl ht (λ _ _ _ => trivial) λ tmps' ht' => ?_⟩
    refine (?_ : At (Hv Tryz.prog B Post) _ _ _ _ _) tmps' ht'
    refine At.cF rfl rfl rfl (Ox.extract rfl rfl rfl rfl (.put rfl) ?_)
    refine At.dU ?_
    refine At.seq ?_
    refine At.B3 rfl rfl ?_
    refine At.exit rfl ?_
    refine At.Fg (H2 := H) (λ X => X ++ H) .id rfl hm (λ R6 hR6 hm6 => ?_)
    refine At.wN Tryz.func91 .nil (hk _ _ _ ⟨[], ⟨((hR.trans qm).trans wU).trans hR6, ?_, rfl, rfl⟩, rfl⟩)
    have KG : td = [] := by
     have h1 := FZ.length_eq
     rw [← hn, List.length_map] at h1
     exact List.length_eq_zero_iff.1 h1.symm
    subst KG
    rw [List.append_nil] at hml
    rcases hm6 with ⟨e1, e2⟩ | ⟨b, es, cl, m', e1, e2, e3, e4, e5⟩
    ·exfalso
     rw [e2] at hml
     have := Rb ([], 0) (hml.mem_iff.1 (by simp [kT]))
     cases this
    ·exact .inr ⟨b, es, cl, m', e1, e2, e3, e4, e5.trans hml⟩
   ·rintro n ih rem R2 H2 st ⟨m, td, cH, wU, FZ, hml, hm, rfl, hn, hst⟩
    refine At.sub hst ?_
    refine At.seq ?_
    refine At.g9 (n := 2) (is := [0, 1]) rfl rfl ?_
    refine λ tmps ht => Own.stop _ _ _ _ ⟨.agg #[.bool false, .bool false, .bool false, .bool false, .bool false, .int .i64 0], UX rfl rfl rfl rfl Tryz.underlying167 (λ _ => ⟨by kernel_rfl, by kernel_rfl⟩) rfl ht (λ v tmps' ht' rest RE => ?_) λ _ _ => trivial⟩
    obtain ⟨p, hp, rfl⟩ := List.mem_map.1 (FZ.mem_iff.1 (RE.mem_iff.2 (List.mem_cons_self)))
    have KG : td.Perm (p :: td.erase p) := List.perm_cons_erase hp
    have apA : rest.Perm ((td.erase p).map vp) := by
     have := RE.symm.trans (FZ.trans (KG.map vp))
     simpa using this
    have hpl : p ∈ l := hml.mem_iff.1 (List.mem_append.2 (.inr hp))
    have aoC : ((m ++ [p]) ++ td.erase p).Perm l := by
     rw [List.append_assoc]
     exact (List.Perm.append_left m KG.symm).trans hml
    have hnew : p.1 ∉ m.map (·.1) := by
     have h1 : ((m ++ td).map (·.1)).Nodup := (hml.map _).nodup_iff.2 cD
     rw [List.map_append, List.nodup_append] at h1
     intro hx
     exact h1.2.2 _ hx _ (List.mem_map.2 ⟨p, hp, rfl⟩) rfl
    have hmn : m ≠ kT := by
     intro e
     have := Rb ([], 0) (hml.mem_iff.1 (by rw [e]; simp [kT]))
     cases this
    have Ru := Rb p hpl
    obtain ⟨g, Ij⟩ := p
    obtain ⟨a0, a1, a2, a3, a4, rfl⟩ := Ff Ru
    replace cN := cN.up (H := []) wU
    refine (?_ : At (qU Tryz.prog B true (kW Tryz.prog B cf (MJ Tryz.prog B Post) n rest)) _ _ _ _ _) tmps' ht'
    refine At.cF rfl rfl rfl (Ox.extract rfl rfl rfl rfl (.put rfl) ?_)
    refine At.dU ?_
    refine At.seq ?_
    refine At.B4 rfl rfl ?_
    refine At.skip ?_
    refine At.block ?_
    refine At.seq ?_
    refine At.g9 (n := 3) (is := [0, 1, 2]) rfl rfl ?_
    refine At.cF rfl rfl rfl (Ox.extract rfl rfl rfl rfl (.put rfl) ?_)
    refine At.cF rfl rfl rfl (Ox.alloc (cs := #[.bool false, .bool false, .bool false, .bool false, .bool false, .int .i64 0]) rfl aBE rfl λ b6 _ _ => ⟨_, (.put rfl), ?_⟩)
    refine At.cF rfl rfl rfl (Ox.bp (cs' := #[_, _, _, _, _, _]) rfl rfl rfl ahs rfl (ak rfl (ak rfl (ak rfl (ak rfl (ak rfl (ak rfl aW)))))) .here rfl rfl rfl (.refl _) ?_)
    refine At.dU ?_
    refine At.g9 (n := 7) (is := [0, 1, 2, 3, 4, 5, 6]) rfl rfl ?_
    refine At.cF rfl rfl rfl (Ox.fieldAddr rfl rfl Za rfl (.put rfl) ?_)
    refine At.cF rfl rfl rfl (Ox.bV rfl rfl Ut (cN.any.one (j := 7) rfl) rfl (.put rfl) ?_)
    refine At.cF rfl rfl rfl (Ox.fieldAddr rfl rfl Zb rfl (.put rfl) ?_)
    refine At.cF rfl rfl rfl (Ox.bP (vs := [_, _, _, _, _]) rfl rfl dc rfl ((aT.box (L := [.bool a0, .bool a1, .bool a2, .bool a3, .bool a4, iv Ij]) (.head _)).part (j := 0) (n := 5) rfl) rfl (.put rfl) ?_)
    refine At.cF rfl rfl rfl (Ox.fieldAddr rfl rfl Zc rfl (.put rfl) ?_)
    refine At.cF rfl rfl rfl (Ox.bV rfl rfl bg ((aT.box (L := [.bool a0, .bool a1, .bool a2, .bool a3, .bool a4, iv Ij]) (.head _)).one (j := 5) rfl) rfl (.put rfl) ?_)
    refine At.cF rfl rfl rfl (axT (k := [a0, a1, a2, a3, a4]) (w := Ij) rfl rfl rfl rfl hm hmn rfl hnew (λ X => (b6, _) :: X ++ H) (.cons .id) rfl (.refl _) λ Hs2 hm2 => ?_)
    refine At.dU ?_
    refine At.inBlock ?_
    refine At.inLoop ?_
    refine At.drop (List.Sublist.cons _ (List.Sublist.refl _)) ?_
    refine ih rest _ _ _ ⟨m ++ [([a0, a1, a2, a3, a4], Ij)], td.erase ([a0, a1, a2, a3, a4], Ij), Hs2, wU, apA, aoC, hm2, rfl, ?_, aA.sub ⟨rfl, rfl, trivial⟩⟩
    have := RE.length_eq
    simp only [List.length_cons] at this
    omega
 ·rintro n ih _ R' H' st ⟨qm, rfl, hn, hst⟩
  have hi : N - (n + 1) < N := by omega
  obtain ⟨p, hp, hmp⟩ := amX _ hi
  refine At.sub hst ?_
  refine At.seq ?_
  refine At.g9 (n := 1) (is := [0]) rfl rfl ?_
  refine At.cF rfl rfl rfl (Ox.cmp rfl rfl rfl rfl rfl (.put rfl) ?_)
  refine At.dU ?_
  refine At.seq ?_
  refine At.B4 rfl (by simp; omega) ?_
  refine At.skip ?_
  refine At.seq ?_
  refine At.block ?_
  refine At.seq ?_
  refine At.g9 (n := 3) (is := [0, 1, 2]) rfl rfl ?_
  refine At.cF rfl rfl rfl (Ox.move rfl rfl rfl (.put rfl) ?_)
  refine At.cF rfl rfl rfl (Ox.alloc (cs := #[iv 0]) rfl vN rfl λ b5 _ _ => ⟨_, (.put rfl), ?_⟩)
  refine At.cF rfl rfl rfl (Ox.cM (cs' := #[_]) rfl rfl rfl bg rfl .here rfl rfl rfl (.refl _) ?_)
  refine At.dU ?_
  refine At.nh (H2 := Hs ++ H) (λ X => X ++ (Hs ++ H)) .id rfl (λ R5 hR5 hc5 => ?_)
  have wX : aN Rz R5 := qm.trans hR5
  refine At.g9 (n := 2) (is := [0, 1]) rfl rfl ?_
  refine At.cF rfl rfl rfl (Ox.makeFunc (vs := #[]) (us := #[_, _, _, _]) rfl rfl rfl rfl (.put rfl) ?_)
  refine λ tmps ht => Own.stop _ _ _ _ ⟨rfl, λ w hw => ⟨_, _, vp p, acH (d := ⟨.fn (.func 147) #[pt b1, pt b5, pt b2, pt b3], #[]⟩) rfl rfl rfl ht (ach rfl rfl rfl) rfl, ?_, ?_⟩⟩
  ·exact Own.child rfl (acQ ait) (aBv x0 ((N - (n + 1) : Nat) : Int) (cN.up (H := []) wX) (h3.mono wX) (h4.mono wX) (h5.mono wX) (h6.mono wX) hc5 (bz.up (H := []) wX) (bK.up (H := []) wX) hmp)
  ·have hsp : vp p :: kK l (n + 1) = kK l n := azC (by omega) (by rw [hlen]; exact hp)
   rw [hsp]
   refine (?_ : At (qU Tryz.prog B true (o4 Tryz.prog B cf cd (MJ Tryz.prog B Post) n (kK l n))) _ _ _ _ _) _ (ht.put undef rfl)
   refine At.dU ?_
   refine At.inBlock ?_
   refine At.g9 (n := 2) (is := [0, 1]) rfl rfl ?_
   refine At.cF rfl rfl rfl (Ox.ar rfl rfl rfl rfl rfl (.put rfl) ?_)
   refine At.cF rfl rfl rfl (Ox.move rfl rfl rfl (.put rfl) ?_)
   refine At.dU ?_
   refine At.inLoop ?_
   have e : i64 (((N - (n + 1) : Nat) : Int) + 1) = ((N - n : Nat) : Int) := by rw [TM (by omega)]; omega
   exact ih () _ _ _ ⟨wX, rfl, by omega, aA.sub ⟨rfl, rfl, rfl, rfl, rfl, congrArg (λ z => some (iv z)) e, trivial⟩⟩
end
end Go.Proofs.YtabamagholjdcaaGreatDoor
namespace Go.Proofs.YtabamagholjdcaaGreatDoor
open Go.Lg Go.Proofs Go.ChangeShapes Go.WideShapes Go.ChangeAt Go.RowKit Go.Conc
set_option maxRecDepth 100000
theorem Di : eZ Tryz.prog 3 (CI .i64) 1 := eZ.int (by kernel_rfl) Tryz.underlying3
theorem ay5 : eZ Tryz.prog 45 (CI .i64) 1 := eZ.int (by kernel_rfl) Tryz.underlying45
theorem ay8 : eZ Tryz.prog 9 CS 1 := eZ.str (by kernel_rfl) Tryz.underlying9
theorem UJ : eZ Tryz.prog 25 (ef (CI .i64) 1) 1 := eZ.slice (by kernel_rfl) Tryz.underlying25 (by decide) Di
theorem UI : eZ Tryz.prog 23 Wz 2 := ⟨by kernel_rfl, λ W T enc sp held fuel cs x h => by
 obtain ⟨xs, n, _, _, hl, hx, hf⟩ := DataW.trod_struct Tryz.underlying23 h
 have hc : cs.length = 2 := hl.trans (by kernel_rfl)
 match cs, hc with
 | [c0, c1], _ =>
  obtain ⟨a0, h0⟩ := Di.field [c0] hx (hf 0 _ rfl)
  obtain ⟨a1, h1⟩ := Di.field [c1] hx (hf 1 _ rfl)
  cases h0; cases h1
  exact ⟨rfl, ⟨a0, a1⟩, rfl⟩⟩
theorem acg : eZ Tryz.prog 47 bh 2 := ⟨by kernel_rfl, λ W T enc sp held fuel cs x h => by
 obtain ⟨xs, n, _, _, hl, hx, hf⟩ := DataW.trod_struct Tryz.underlying47 h
 have hc : cs.length = 2 := hl.trans (by kernel_rfl)
 match cs, hc with
 | [c0, c1], _ =>
  obtain ⟨a0, h0⟩ := Di.field [c0] hx (hf 0 _ rfl)
  obtain ⟨a1, h1⟩ := ay5.field [c1] hx (hf 1 _ rfl)
  cases h0; cases h1
  exact ⟨rfl, ⟨a0, a1⟩, rfl⟩⟩
theorem ay6 : eZ Tryz.prog 58 bm 5 := ⟨by kernel_rfl, λ W T enc sp held fuel cs x h => by
 obtain ⟨xs, n, _, _, hl, hx, hf⟩ := DataW.trod_struct Tryz.underlying58 h
 have hc : cs.length = 5 := hl.trans (by kernel_rfl)
 match cs, hc with
 | [c0, c1, c2, c3, c4], _ =>
  obtain ⟨a0, h0⟩ := ay8.field [c0] hx (hf 0 _ rfl)
  obtain ⟨a1, h1⟩ := Di.field [c1] hx (hf 1 _ rfl)
  obtain ⟨a2, h2⟩ := UI.field [c2, c3] hx (hf 2 _ rfl)
  obtain ⟨a3, v3, h3, g3⟩ := UJ.field [c4] hx (hf 3 _ rfl)
  cases h0; cases h1; cases h2; cases h3
  exact ⟨rfl, ⟨a0, a1, a2, a3⟩, c4, g3, rfl⟩⟩
theorem ay2 : eZ Tryz.prog 24 (ef bm 5) 1 := eZ.slice (by kernel_rfl) Tryz.underlying24 (by decide) ay6
theorem ay3 : eZ Tryz.prog 26 (ef bh 2) 1 := eZ.slice (by kernel_rfl) Tryz.underlying26 (by decide) acg
theorem ay4 : eZ Tryz.prog 28 N5 6 := ⟨by kernel_rfl, λ W T enc sp held fuel cs x h => by
 obtain ⟨xs, n, _, _, hl, hx, hf⟩ := DataW.trod_struct Tryz.underlying28 h
 have hc : cs.length = 6 := hl.trans (by kernel_rfl)
 match cs, hc with
 | [c0, c1, c2, c3, c4, c5], _ =>
  obtain ⟨a0, h0⟩ := Di.field [c0] hx (hf 0 _ rfl)
  obtain ⟨a1, h1⟩ := UI.field [c1, c2] hx (hf 1 _ rfl)
  obtain ⟨a2, v2, h2, g2⟩ := ay2.field [c3] hx (hf 2 _ rfl)
  obtain ⟨a3, v3, h3, g3⟩ := UJ.field [c4] hx (hf 3 _ rfl)
  obtain ⟨a4, v4, h4, g4⟩ := ay3.field [c5] hx (hf 4 _ rfl)
  cases h0; cases h1; cases h2; cases h3; cases h4
  exact ⟨rfl, ⟨a0, a1, a2, a3, a4⟩, c3, c4, c5, g2, g3, g4, rfl⟩⟩
theorem ay1 : eZ Tryz.prog 157 (CW .u16) 1 := eZ.avR (by kernel_rfl) Tryz.underlying157
theorem ay7 : eZ Tryz.prog 63 (ef (CW .u16) 1) 1 := eZ.slice (by kernel_rfl) Tryz.underlying63 (by decide) ay1
section
variable {W : World} {T : Type} {enc : TypeId × Value → T} {b0 : Nat} {v : Value} {d : DataW T} {p : List MemPlace}
theorem ahz (hv : Value.okWide Tryz.prog W .any b0 28 v) (h : DataW.Trod enc Tryz.prog W 0 (λ _ => true) true 28 v d p) :
  ∃ (x : aq) (v3 v4 v5 : Value), v = .agg #[iv x.aE, iv x.aa.an, iv x.aa.ax, v3, v4, v5] ∧ aj bm 5 (oo W) v3 x.az ∧ aj (CI .i64) 1 (oo W) v4 x.Out ∧ aj bh 2 (oo W) v5 x.aO := by
 obtain ⟨cs, rfl, _⟩ := okWide_struct Tryz.underlying28 hv
 obtain ⟨fuel, hf⟩ := h
 obtain ⟨_, x, v3, v4, v5, h3, h4, h5, e⟩ := ay4.rd _ _ _ _ _ _ _ _ hf
 exact ⟨x, v3, v4, v5, by rw [← Array.toArray_toList (xs := cs), show cs.toList = _ from e], h3, h4, h5⟩
theorem aC7 (hv : Value.okWide Tryz.prog W .any b0 25 v) (h : DataW.Trod enc Tryz.prog W 0 (λ _ => true) true 25 v d p) : ∃ xs, aj (CI .i64) 1 (oo W) v xs := by
 obtain ⟨a, len, cap, rfl⟩ := okWide_slice Tryz.underlying25 hv
 obtain ⟨fuel, hf⟩ := h
 obtain ⟨_, x, v1, e, h1⟩ := UJ.rd _ _ _ _ _ _ _ _ hf
 cases e
 exact ⟨x, h1⟩
theorem aC9 (hv : Value.okWide Tryz.prog W .any b0 63 v) (h : DataW.Trod enc Tryz.prog W 0 (λ _ => true) true 63 v d p) : ∃ xs, aj (CI .u16) 1 (oo W) v xs ∧ ∀ x ∈ xs, 0 ≤ x ∧ x ≤ 65535 := by
 obtain ⟨a, len, cap, rfl⟩ := okWide_slice Tryz.underlying63 hv
 obtain ⟨fuel, hf⟩ := h
 obtain ⟨_, x, v1, e, h1⟩ := ay7.rd _ _ _ _ _ _ _ _ hf
 cases e
 refine ⟨x, h1.weak λ y es hy => hy.1, λ y hy => ?_⟩
 obtain ⟨_, _, h2⟩ := h1.each y hy
 exact h2
theorem aBJ (hv : Value.okWide Tryz.prog W .any b0 5 v) (h : DataW.Trod enc Tryz.prog W 0 (λ _ => true) true 5 v d p) : ∃ x : Nat, v = .int .u8 x ∧ x < 256 := by
 obtain ⟨x, rfl, _, _, hw⟩ := open_int Tryz.underlying5 hv h
 simp only [Lit.wf, Bool.and_eq_true, decide_eq_true_eq, IntKind.min, IntKind.max, IntKind.signed, IntKind.bits] at hw
 simp at hw
 exact ⟨x.toNat, by rw [Int.toNat_of_nonneg (by omega)], by omega⟩
theorem arg3 (hv : Value.okWide Tryz.prog W .any b0 3 v) (h : DataW.Trod enc Tryz.prog W 0 (λ _ => true) true 3 v d p) : ∃ x : Int, v = iv x ∧ -9223372036854775808 ≤ x ∧ x ≤ 9223372036854775807 := by
 obtain ⟨x, rfl, _, _, hw⟩ := open_int Tryz.underlying3 hv h
 simp only [Lit.wf, Bool.and_eq_true, decide_eq_true_eq] at hw
 exact ⟨x, rfl, hw⟩
theorem aC8 (hv : Value.okWide Tryz.prog W .any b0 47 v) (h : DataW.Trod enc Tryz.prog W 0 (λ _ => true) true 47 v d p) : ∃ x : bW, v = .agg #[iv x.dr, iv x.dQ] := by
 obtain ⟨cs, rfl, _⟩ := okWide_struct Tryz.underlying47 hv
 obtain ⟨fuel, hf⟩ := h
 obtain ⟨_, x, e⟩ := acg.rd _ _ _ _ _ _ _ _ hf
 exact ⟨x, by rw [← Array.toArray_toList (xs := cs), show cs.toList = _ from e]⟩
theorem aC6 (hv : Value.okWide Tryz.prog W .any b0 23 v) (h : DataW.Trod enc Tryz.prog W 0 (λ _ => true) true 23 v d p) : ∃ x : Reach, v = .agg #[iv x.an, iv x.ax] := by
 obtain ⟨cs, rfl, _⟩ := okWide_struct Tryz.underlying23 hv
 obtain ⟨fuel, hf⟩ := h
 obtain ⟨_, x, e⟩ := UI.rd _ _ _ _ _ _ _ _ hf
 exact ⟨x, by rw [← Array.toArray_toList (xs := cs), show cs.toList = _ from e]⟩
end
theorem aki : Tryz.prog.globalNamed "lagan/hull.checks" = some 0 := by kernel_rfl
theorem az3 : (Tryz.prog.globals[0]?).map (·.type) = some 164 := by kernel_rfl
abbrev G1 : List (String × DataW Unit) := [("lagan/hull.checks", Rows.laid_lagan_hull_checks)]
theorem ah4 (os : Os) (args : Array Value) : laidMetH Tryz.prog G1 ((World.doorLaid Tryz.prog 14 os).forCall (λ _ _ => 0) ⟨#[], args, []⟩).memory :=
 laidMetH_of_parts3 (fuel := 8) (laidMet_of_run' 8 (by kernel_rfl) (by kernel_rfl)) (by kernel_rfl) (by kernel_rfl)
theorem ayb {W : World} (h : laidMetH Tryz.prog G1 W) : fM (oo W) := by
 obtain ⟨g, t, cs, fuel, p, hg, ht, hv, hd⟩ := h.funcs (n := "lagan/hull.checks") (List.mem_cons_self ..)
 obtain rfl := Option.some.inj (aki.symm.trans hg)
 obtain rfl := Option.some.inj (az3.symm.trans ht)
 obtain ⟨xs, n, _, hx, hlen, hn, kC⟩ := DataW.trod_array Tryz.underlying164 (show DataW.trod (funcToken Tryz.prog) Tryz.prog W 0 (λ _ => true) true fuel 164 cs.toList = some (.agg [.held [40, 108, 97, 103, 97, 110, 47, 104, 117, 108, 108, 46, 98, 111, 111, 107, 41, 46, 104, 117, 108, 108], .held [40, 108, 97, 103, 97, 110, 47, 104, 117, 108, 108, 46, 98, 111, 111, 107, 41, 46, 112, 105, 101, 99, 101, 115], .held [40, 108, 97, 103, 97, 110, 47, 104, 117, 108, 108, 46, 98, 111, 111, 107, 41, 46, 111, 117, 116], .held [40, 108, 97, 103, 97, 110, 47, 104, 117, 108, 108, 46, 98, 111, 111, 107, 41, 46, 104, 101, 101, 108, 115]], p) from hd)
 rw [show Tryz.prog.cellsOf 109 = 1 by kernel_rfl] at kC
 have hl : cs.toList.length = 4 := hlen.trans (by kernel_rfl)
 obtain ⟨cs⟩ := cs
 simp only at hl kC
 match xs, hn, cs, hl with
 | [x0, x1, x2, x3], _, [c0, c1, c2, c3], _ =>
  simp only [Prod.mk.injEq, DataW.agg.injEq, List.map_cons, List.map_nil, List.cons.injEq, and_true] at hx
  obtain ⟨⟨e0, e1, e2, e3⟩, _⟩ := hx
  obtain ⟨x0, q0⟩ := x0
  obtain ⟨x1, q1⟩ := x1
  obtain ⟨x2, q2⟩ := x2
  obtain ⟨x3, q3⟩ := x3
  simp only at e0 e1 e2 e3
  subst e0 e1 e2 e3
  obtain rfl := func_of_trod (f0 := 211) Tryz.underlying109 (by kernel_rfl) (kC 0 (by decide))
  obtain rfl := func_of_trod (f0 := 212) Tryz.underlying109 (by kernel_rfl) (kC 1 (by decide))
  obtain rfl := func_of_trod (f0 := 213) Tryz.underlying109 (by kernel_rfl) (kC 2 (by decide))
  obtain rfl := func_of_trod (f0 := 214) Tryz.underlying109 (by kernel_rfl) (kC 3 (by decide))
  intro j v hj
  rw [Nat.zero_add]
  refine ah1 ?_
  rw [World.var?_cell hg hv j]
  simpa using hj
end Go.Proofs.YtabamagholjdcaaGreatDoor
