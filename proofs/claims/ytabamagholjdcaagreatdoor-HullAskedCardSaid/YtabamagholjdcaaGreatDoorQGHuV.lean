/- What reckon does in company; the arguments of the statements. Conditions: none. -/
import Derived.Test.YtabamagholjdcaaGreatDoorQGHuW
import Derived.Test.YtabamagholjdcaaGreatDoorQGHuF
import Derived.Test.YtabamagholjdcaaGreatDoorQGLgD
import Derived.Test.YtabamagholjdcaaGreatDoorTie
import Derived.Stop.Joined
import Derived.LaidOnce
import Derived.ProofKit
import Derived.OpenShut
namespace Go.Proofs.YtabamagholjdcaaGreatDoor
open Go.Lg Go.Proofs Go.Conc
set_option maxRecDepth 100000
set_option maxHeartbeats 4000000
section
variable {B : Base} {R : aA} {H : ak}
abbrev pt (b : Nat) : Value := .pointer (some ⟨b, 0, none⟩)
theorem aCM {cf cd b0 b1 b2 : Nat} (k : Nat) (hk : k ≤ 1048576) (hc0 : aS R [] b0 0 [iv (k : Int)]) (cK : aS R [] b1 0 [.chan (some cd)]) (bC : aS R [] b2 0 [.chan (some cf)]) :
  Own Tryz.prog B false (CK Tryz.prog B cf cd k) R [] (bt (Frame.enter Tryz.prog 148 #[pt b0, pt b1, pt b2] .deferred) [nS Tryz.prog]) := by
 refine abm (args := [pt b0, pt b1, pt b2]) Tryz.func148 rfl (n := 10) rfl rfl ?_
 refine At.seq ?_
 refine At.seq ?_
 refine At.iC (n := 2) (is := [0, 1]) rfl rfl ?_
 refine At.cP rfl rfl rfl (Ox.bu rfl rfl aV (hc0.any.one (j := 0) rfl) rfl (.put rfl) ?_)
 refine At.cP rfl rfl rfl (Ox.move rfl rfl rfl (.put rfl) ?_)
 refine At.dK ?_
 refine At.block ?_
 refine At.enterLoop ?_
 refine countdown (ι := Unit) (J := λ n _ => qN Tryz.prog B false (CK Tryz.prog B cf cd n)) (C := λ n _ R' H' st => R' = R ∧ H' = [] ∧ n ≤ k ∧ aF st [(1, pt b1), (2, pt b2), (3, iv (k : Int)), (4, iv ((k - n : Nat) : Int))]) ?_ ?_ k () _ _ _ ⟨rfl, rfl, Nat.le_refl _, ay.sub ⟨rfl, rfl, rfl, by simp, trivial⟩⟩
 ·rintro _ R' H' st ⟨rfl, rfl, _, hst⟩
  refine At.sub hst ?_
  refine At.seq ?_
  refine At.iC (n := 1) (is := [0]) rfl rfl ?_
  refine At.cP rfl rfl rfl (Ox.cmp rfl rfl rfl rfl rfl (.put rfl) ?_)
  refine At.dK ?_
  refine At.seq ?_
  refine At.BP rfl (by simp) ?_
  refine At.exit rfl ?_
  refine At.iC (n := 2) (is := [0, 1]) rfl rfl ?_
  refine At.cP rfl rfl rfl (Ox.bu rfl rfl KG (bC.any.one (j := 0) rfl) rfl (.put rfl) ?_)
  exact λ tmps ht => Own.stop _ _ _ _ (aBJ rfl rfl rfl rfl rfl ht λ _ => abE Tryz.func148 rfl)
 ·rintro n ih _ R' H' st ⟨rfl, rfl, hn, hst⟩
  refine At.sub hst ?_
  refine At.seq ?_
  refine At.iC (n := 1) (is := [0]) rfl rfl ?_
  refine At.cP rfl rfl rfl (Ox.cmp rfl rfl rfl rfl rfl (.put rfl) ?_)
  refine At.dK ?_
  refine At.seq ?_
  refine At.BQ rfl (by simp; omega) ?_
  refine At.skip ?_
  refine At.seq ?_
  refine At.block ?_
  refine At.iC (n := 2) (is := [0, 1]) rfl rfl ?_
  refine At.cP rfl rfl rfl (Ox.bu rfl rfl TL (cK.any.one (j := 0) rfl) rfl (.put rfl) ?_)
  refine λ tmps ht => Own.stop _ _ _ _ ⟨.bool false, Uk rfl rfl rfl rfl Tryz.underlying168 (λ _ => ⟨by kernel_rfl, by kernel_rfl⟩) rfl ht (λ v tmps' ht' => ?_) (λ _ _ => trivial)⟩
  refine (?_ : At (qN Tryz.prog B false (CK Tryz.prog B cf cd n)) _ _ _ _ _) tmps' ht'
  refine At.dK ?_
  refine At.inBlock ?_
  refine At.iC (n := 2) (is := [0, 1]) rfl rfl ?_
  refine At.cP rfl rfl rfl (Ox.ar rfl rfl rfl rfl rfl (.put rfl) ?_)
  refine At.cP rfl rfl rfl (Ox.move rfl rfl rfl (.put rfl) ?_)
  refine At.dK ?_
  have e : i64 (((k - (n + 1) : Nat) : Int) + 1) = ((k - n : Nat) : Int) := by rw [SU (by omega)]; omega
  refine At.inLoop ?_
  exact ih () _ _ _ ⟨rfl, rfl, by omega, ay.sub ⟨rfl, rfl, rfl, congrArg (λ z => some (iv z)) e, trivial⟩⟩
theorem aa4 {α β : Type} {f : α → Option β} : ∀ {xs : List α} {ys : List β}, xs.mapM f = some ys → ys.length = xs.length ∧ ∀ (i : Nat) (x : α), xs[i]? = some x → ∃ y, ys[i]? = some y ∧ f x = some y
 | [], ys, h => by
  simp at h; subst h
  exact ⟨rfl, λ i x hx => by simp at hx⟩
 | a :: xs, ys, h => by
  rw [List.mapM_cons] at h
  cases ha : f a with
  | none => rw [ha] at h; simp at h
  | some b =>
   cases hr : xs.mapM f with
   | none => rw [ha, hr] at h; simp at h
   | some bs =>
    rw [ha, hr] at h
    simp at h
    subst h
    obtain ⟨h1, h2⟩ := aa4 hr
    refine ⟨by simp [h1], λ i x hx => ?_⟩
    cases i with
    | zero => simp at hx; subst hx; exact ⟨b, rfl, ha⟩
    | succ i => exact h2 i x (by simpa using hx)
theorem azk {c : Ctx} {st st' : St} {o : Oper} {x y z : Operand} {v : Value} {m : fO} {k : List Bool} {w : Int} {Hs : ak} {C : aA → ak → St → Prop} (hop : o.op = .mapUpdate 104 x y z) (hx : bh st x = some v) (hy : bh st y = some (lJ k)) (hz : bh st z = some (iv w)) (hm : l8 v m Hs) (zf : m ≠ kS) (hk : k.length = 5) (hn : k ∉ m.map (·.1))
  (G : ak → ak) (hG : fN G) (hd : o.dst = none) (hst : aF st st') (h : ∀ bF, l8 v (m ++ [(k, w)]) bF → C R (G bF) st') : aP Tryz.prog B c o R (G Hs) st C := by
 rcases hm with ⟨_, h2, _⟩ | ⟨b, es, cl, rfl, rfl, h3, h4⟩
 ·exact absurd h2 zf
 ·refine Ox.azj hop hx hy hz TD h3 hk hn hG.set hd hst (h _ (.inr ⟨b, _, _, rfl, rfl, ?_, ?_⟩))
  ·rw [Array.toList_push]; exact oV.push rfl rfl hk h3
  ·rw [List.map_append, List.nodup_append]
   refine ⟨h4, by simp, λ a ha b hb => ?_⟩
   simp only [List.map_cons, List.map_nil, List.mem_singleton] at hb
   subst hb
   intro e; subst e; exact hn ha
def kX (l : List (List Bool × Int)) (n : Nat) : List Value := ((l.take (l.length - n)).map u7).reverse
theorem aA9 (l : List (List Bool × Int)) : kX l l.length = [] := by simp [kX]
theorem aBb {l : List (List Bool × Int)} {n : Nat} {p : List Bool × Int} (hn : n + 1 ≤ l.length) (hp : l[l.length - (n + 1)]? = some p) : u7 p :: kX l (n + 1) = kX l n := by
 have e : l.length - n = (l.length - (n + 1)) + 1 := by omega
 unfold kX
 rw [e, List.take_add_one, hp]
 simp
theorem aBa {l : List (List Bool × Int)} : (kX l 0).length = l.length := by simp [kX]
theorem aBc (l : List (List Bool × Int)) : (kX l 0).Perm (l.map u7) := by
 unfold kX
 simp only [Nat.sub_zero, List.take_length]
 exact List.reverse_perm _
theorem aAC {Post : Value → World → Prop} : yF (GY Tryz.prog B Post) := by
 intro R H x0 v3 v4 v5 v6 v7 Hs h3 h4 h5 h6 h7 r hr
 unfold xG at hr
 obtain ⟨many, anI, hr⟩ := aj hr
 obtain ⟨l, hl, hr⟩ := aj hr
 split at hr
 case isFalse => cases hr
 rename_i hc
 obtain ⟨zf, cE, PM, hm0, JR⟩ := hc
 obtain rfl := aa hr
 obtain ⟨N, rfl⟩ : ∃ N : Nat, many = (N : Int) := ⟨many.toNat, by omega⟩
 rw [Int.toNat_natCast] at hl
 obtain ⟨hlen, qo⟩ := aa4 hl
 rw [List.length_range] at hlen
 have ak7 : ∀ i, i < N → ∃ p, l[i]? = some p ∧ Ah x0 (i : Int) = some p := λ i hi => qo i i (by simp [hi])
 refine aB.bk (args := [.agg #[iv x0.book.aD, iv x0.book.af.ao, iv x0.book.af.ax, v3, v4, v5, v6, v7]]) Tryz.func91 rfl (n := 32) rfl rfl λ fr cs hk => ?_
 refine At.seq ?_
 refine At.iC (n := 1) (is := [0]) rfl rfl ?_
 refine At.cP rfl rfl rfl (Ox.WH rfl rfl rfl λ b1 _ _ => ⟨_, (.put rfl), ?_⟩)
 refine At.dK ?_
 refine At.seq ?_
 refine At.iC (n := 3) (is := [0, 1, 2]) rfl rfl ?_
 refine At.cP rfl rfl rfl (Ox.makeChan rfl rfl Tryz.underlying167 (zW (by decide +kernel)) rfl λ cf _ _ => ⟨_, (.put rfl), ?_⟩)
 refine At.cP rfl rfl rfl (Ox.alloc (cs := #[.chan none]) rfl aCR rfl λ b2 _ _ => ⟨_, (.put rfl), ?_⟩)
 refine At.cP rfl rfl rfl (Ox.cI (cs' := #[_]) rfl rfl rfl KG rfl .here rfl rfl rfl (.refl _) ?_)
 refine At.dK ?_
 refine At.seq ?_
 refine At.iC (n := 3) (is := [0, 1, 2]) rfl rfl ?_
 refine At.cP rfl rfl rfl (Ox.makeChan rfl rfl Tryz.underlying168 (zW (by decide +kernel)) rfl λ cd _ _ => ⟨_, (.put rfl), ?_⟩)
 refine At.cP rfl rfl rfl (Ox.alloc (cs := #[.chan none]) rfl aCS rfl λ b3 _ _ => ⟨_, (.put rfl), ?_⟩)
 refine At.cP rfl rfl rfl (Ox.cI (cs' := #[_]) rfl rfl rfl TL rfl .here rfl rfl rfl (.refl _) ?_)
 refine At.dK ?_
 refine At.seq ?_
 refine At.iC (n := 8) (is := [0, 1, 2, 3, 4, 5, 6, 7]) rfl rfl ?_
 refine At.cP rfl rfl rfl (Ox.fieldAddr rfl rfl Yh rfl (.put rfl) ?_)
 refine At.cP rfl rfl rfl (Ox.fieldAddr rfl rfl Yg rfl (.put rfl) ?_)
 refine At.cP rfl rfl rfl (Ox.fieldAddr rfl rfl Yl rfl (.put rfl) ?_)
 refine At.cP rfl rfl rfl (Ox.bu rfl rfl dc ((aS.box (L := [iv x0.book.aD, iv x0.book.af.ao, iv x0.book.af.ax, v3, v4, v5, v6, v7]) (.tail _ (.tail _ (.tail _ (.tail _ (.head _)))))).one (j := 3) rfl) rfl (.put rfl) ?_)
 refine At.cP rfl rfl rfl (Ox.wW (K := bI) (k := 5) (xs := x0.book.au) rfl rfl h3 Tryz.underlying24 rfl (.put rfl) ?_)
 refine At.cP rfl rfl rfl (Ox.shl rfl rfl rfl anI rfl (.put rfl) ?_)
 refine At.cP rfl rfl rfl (Ox.alloc (cs := #[iv 0]) rfl rC rfl λ b4 _ _ => ⟨_, (.put rfl), ?_⟩)
 refine At.cP rfl rfl rfl (Ox.cI (cs' := #[_]) rfl rfl rfl aV rfl .here rfl rfl rfl (.refl _) ?_)
 refine At.dK ?_
 refine At.seq ?_
 refine At.seq ?_
 refine At.iC (n := 2) (is := [0, 1]) rfl rfl ?_
 refine At.cP rfl rfl rfl (Ox.bu rfl rfl aV ((aS.box (L := [iv (N : Int)]) (.head _)).one (j := 0) rfl) rfl (.put rfl) ?_)
 refine At.cP rfl rfl rfl (Ox.move rfl rfl rfl (.put rfl) ?_)
 refine At.dK ?_
 refine At.block ?_
 refine At.nv (H2 := (b3, _) :: (cd, _) :: (b2, _) :: (cf, _) :: (b1, _) :: (Hs ++ H)) (λ X => X ++ ((b3, _) :: (cd, _) :: (b2, _) :: (cf, _) :: (b1, _) :: (Hs ++ H))) .id rfl (λ R4 hR4 cj => ?_)
 refine At.nv (H2 := (cd, _) :: (b2, _) :: (cf, _) :: (b1, _) :: (Hs ++ H)) (λ X => X ++ ((cd, _) :: (b2, _) :: (cf, _) :: (b1, _) :: (Hs ++ H))) .id rfl (λ R3 YM bO => ?_)
 refine At.nv (H2 := (cd, _) :: (cf, _) :: (b1, _) :: (Hs ++ H)) (λ X => (cd, _) :: X ++ ((cf, _) :: (b1, _) :: (Hs ++ H))) (.cons .id) rfl (λ R2 wh bC => ?_)
 refine At.nv (H2 := (cd, _) :: (cf, _) :: (Hs ++ H)) (λ X => (cd, _) :: (cf, _) :: X ++ (Hs ++ H)) (.cons (.cons .id)) rfl (λ Rz JM cK => ?_)
 replace cj := ((cj.up (H := []) YM).up (H := []) wh).up (H := []) JM
 replace bO := (bO.up (H := []) wh).up (H := []) JM
 replace bC := bC.up (H := []) JM
 have hR : aO R Rz := ((hR4.trans YM).trans wh).trans JM
 replace h3 := h3.mono hR
 replace h4 := h4.mono hR
 replace h5 := h5.mono hR
 replace h6 := h6.mono hR
 suffices hsw : At (qN Tryz.prog B true (oW Tryz.prog B cf cd (MJ Tryz.prog B Post) N (kX l N))) _ _ _ _ _ from λ tmps ht => MJ.crowd (n := N) (by
  have e : kX l N = [] := by rw [← hlen]; exact aA9 l
  rw [← e]; exact hsw tmps ht)
 refine At.enterLoop ?_
 refine countdown (ι := Unit) (J := λ n _ => qN Tryz.prog B true (oW Tryz.prog B cf cd (MJ Tryz.prog B Post) n (kX l n))) (C := λ n _ R' H' st => aO Rz R' ∧ H' = Hs ++ H ∧ n ≤ N ∧ aF st [(1, pt b1), (2, pt b2), (3, pt b3), (4, pt b4), (15, iv (N : Int)), (16, iv ((N - n : Nat) : Int))]) ?_ ?_ N () _ _ _ ⟨aO.refl _, rfl, Nat.le_refl _, ay.sub ⟨rfl, rfl, rfl, rfl, rfl, by simp, trivial⟩⟩
 ·rintro _ R' H' st ⟨qe, rfl, _, hst⟩
  replace cK := cK.up (H := []) qe
  replace bC := bC.up (H := []) qe
  replace bO := bO.up (H := []) qe
  replace cj := cj.up (H := []) qe
  refine At.sub hst ?_
  refine At.seq ?_
  refine At.iC (n := 1) (is := [0]) rfl rfl ?_
  refine At.cP rfl rfl rfl (Ox.cmp rfl rfl rfl rfl rfl (.put rfl) ?_)
  refine At.dK ?_
  refine At.seq ?_
  refine At.BP rfl (by simp) ?_
  refine At.exit rfl ?_
  refine At.seq ?_
  refine At.iC (n := 2) (is := [0, 1]) rfl rfl ?_
  refine At.cP rfl rfl rfl (Ox.makeFunc (vs := #[]) (us := #[_, _, _]) rfl rfl rfl rfl (.put rfl) ?_)
  refine λ tmps ht => Own.stop _ _ _ _ ⟨rfl, λ w hw => ⟨_, _, ab9 (d := ⟨.fn (.func 148) #[pt b4, pt b3, pt b2], #[]⟩) rfl rfl rfl ht (abI rfl rfl rfl) rfl, ?_, ?_⟩⟩
  ·rw [aBa, hlen]
   exact Own.child rfl (ack agK) (aCM N (by omega) cj bO bC)
  ·refine (?_ : At (qN Tryz.prog B true (lg Tryz.prog B cf (MJ Tryz.prog B Post) (kX l 0).length (kX l 0))) _ _ _ _ _) _ (ht.put undef rfl)
   refine At.dK ?_
   refine At.seq ?_
   refine At.iC (n := 1) (is := [0]) rfl rfl ?_
   refine At.cP rfl rfl rfl (Ox.bu rfl rfl KG (bC.any.one (j := 0) rfl) rfl (.put rfl) ?_)
   refine At.dK ?_
   refine At.block ?_
   refine At.enterLoop ?_
   refine countdown (ι := List Value) (J := λ n rem => qN Tryz.prog B true (lg Tryz.prog B cf (MJ Tryz.prog B Post) n rem)) (C := λ n rem R2 H2 st => ∃ (m td : fO) (bF : ak), aO R' R2 ∧ rem.Perm (td.map u7) ∧ (m ++ td).Perm l ∧ l8 v7 m bF ∧ H2 = bF ++ H ∧ n = rem.length ∧ aF st [(1, pt b1), (22, .chan (some cf))]) ?_ ?_ _ _ _ _ _ ⟨[], l, Hs, aO.refl _, aBc l, by simp, zf ▸ h7, rfl, rfl, ay.sub ⟨rfl, rfl, trivial⟩⟩
   ·rintro rem R2 H2 st ⟨m, td, bF, wh, Fl, hml, hm, rfl, hn, hst⟩
    refine At.sub hst ?_
    refine At.seq ?_
    refine At.iC (n := 2) (is := [0, 1]) rfl rfl ?_
    refine λ tmps ht => Own.stop _ _ _ _ ⟨.agg #[.bool false, .bool false, .bool false, .bool false, .bool false, .int .i64 0], Uk rfl rfl rfl rfl Tryz.underlying167 (λ _ => ⟨by kernel_rfl, by kernel_rfl⟩) rfl ht (λ _ _ _ => trivial) λ tmps' ht' => ?_⟩
    refine (?_ : At (GY Tryz.prog B Post) _ _ _ _ _) tmps' ht'
    refine At.cP rfl rfl rfl (Ox.extract rfl rfl rfl rfl (.put rfl) ?_)
    refine At.dK ?_
    refine At.seq ?_
    refine At.BP rfl rfl ?_
    refine At.exit rfl ?_
    refine At.EM (H2 := H) (λ X => X ++ H) .id rfl hm (λ R6 hR6 hm6 => ?_)
    refine At.oc Tryz.func91 .nil (hk _ _ _ ⟨[], ⟨((hR.trans qe).trans wh).trans hR6, ?_, rfl, rfl⟩, rfl⟩)
    have J7 : td = [] := by
     have h1 := Fl.length_eq
     rw [← hn, List.length_map] at h1
     exact List.length_eq_zero_iff.1 h1.symm
    subst J7
    rw [List.append_nil] at hml
    rcases hm6 with ⟨e1, e2⟩ | ⟨b, es, cl, m', e1, e2, e3, e4, e5⟩
    ·exfalso
     rw [e2] at hml
     have := PM ([], 0) (hml.mem_iff.1 (by simp [kS]))
     cases this
    ·exact .inr ⟨b, es, cl, m', e1, e2, e3, e4, e5.trans hml⟩
   ·rintro n ih rem R2 H2 st ⟨m, td, bF, wh, Fl, hml, hm, rfl, hn, hst⟩
    refine At.sub hst ?_
    refine At.seq ?_
    refine At.iC (n := 2) (is := [0, 1]) rfl rfl ?_
    refine λ tmps ht => Own.stop _ _ _ _ ⟨.agg #[.bool false, .bool false, .bool false, .bool false, .bool false, .int .i64 0], Uk rfl rfl rfl rfl Tryz.underlying167 (λ _ => ⟨by kernel_rfl, by kernel_rfl⟩) rfl ht (λ v tmps' ht' rest Qf => ?_) λ _ _ => trivial⟩
    obtain ⟨p, hp, rfl⟩ := List.mem_map.1 (Fl.mem_iff.1 (Qf.mem_iff.2 (List.mem_cons_self)))
    have J7 : td.Perm (p :: td.erase p) := List.perm_cons_erase hp
    have aoV : rest.Perm ((td.erase p).map u7) := by
     have := Qf.symm.trans (Fl.trans (J7.map u7))
     simpa using this
    have hpl : p ∈ l := hml.mem_iff.1 (List.mem_append.2 (.inr hp))
    have anK : ((m ++ [p]) ++ td.erase p).Perm l := by
     rw [List.append_assoc]
     exact (List.Perm.append_left m J7.symm).trans hml
    have hnew : p.1 ∉ m.map (·.1) := by
     have h1 : ((m ++ td).map (·.1)).Nodup := (hml.map _).nodup_iff.2 cE
     rw [List.map_append, List.nodup_append] at h1
     intro hx
     exact h1.2.2 _ hx _ (List.mem_map.2 ⟨p, hp, rfl⟩) rfl
    have hmn : m ≠ kS := by
     intro e
     have := PM ([], 0) (hml.mem_iff.1 (by rw [e]; simp [kS]))
     cases this
    have P7 := PM p hpl
    obtain ⟨g, Hz⟩ := p
    obtain ⟨a0, a1, a2, a3, a4, rfl⟩ := EL P7
    replace cK := cK.up (H := []) wh
    refine (?_ : At (qN Tryz.prog B true (lg Tryz.prog B cf (MJ Tryz.prog B Post) n rest)) _ _ _ _ _) tmps' ht'
    refine At.cP rfl rfl rfl (Ox.extract rfl rfl rfl rfl (.put rfl) ?_)
    refine At.dK ?_
    refine At.seq ?_
    refine At.BQ rfl rfl ?_
    refine At.skip ?_
    refine At.block ?_
    refine At.seq ?_
    refine At.iC (n := 3) (is := [0, 1, 2]) rfl rfl ?_
    refine At.cP rfl rfl rfl (Ox.extract rfl rfl rfl rfl (.put rfl) ?_)
    refine At.cP rfl rfl rfl (Ox.alloc (cs := #[.bool false, .bool false, .bool false, .bool false, .bool false, .int .i64 0]) rfl aCT rfl λ b6 _ _ => ⟨_, (.put rfl), ?_⟩)
    refine At.cP rfl rfl rfl (Ox.bG (cs' := #[_, _, _, _, _, _]) rfl rfl rfl afy rfl (aq rfl (aq rfl (aq rfl (aq rfl (aq rfl (aq rfl aW)))))) .here rfl rfl rfl (.refl _) ?_)
    refine At.dK ?_
    refine At.iC (n := 7) (is := [0, 1, 2, 3, 4, 5, 6]) rfl rfl ?_
    refine At.cP rfl rfl rfl (Ox.fieldAddr rfl rfl Yi rfl (.put rfl) ?_)
    refine At.cP rfl rfl rfl (Ox.bu rfl rfl TK (cK.any.one (j := 7) rfl) rfl (.put rfl) ?_)
    refine At.cP rfl rfl rfl (Ox.fieldAddr rfl rfl Yj rfl (.put rfl) ?_)
    refine At.cP rfl rfl rfl (Ox.ck (vs := [_, _, _, _, _]) rfl rfl c8 rfl ((aS.box (L := [.bool a0, .bool a1, .bool a2, .bool a3, .bool a4, iv Hz]) (.head _)).part (j := 0) (n := 5) rfl) rfl (.put rfl) ?_)
    refine At.cP rfl rfl rfl (Ox.fieldAddr rfl rfl Yk rfl (.put rfl) ?_)
    refine At.cP rfl rfl rfl (Ox.bu rfl rfl aV ((aS.box (L := [.bool a0, .bool a1, .bool a2, .bool a3, .bool a4, iv Hz]) (.head _)).one (j := 5) rfl) rfl (.put rfl) ?_)
    refine At.cP rfl rfl rfl (azk (k := [a0, a1, a2, a3, a4]) (w := Hz) rfl rfl rfl rfl hm hmn rfl hnew (λ X => (b6, _) :: X ++ H) (.cons .id) rfl (.refl _) λ Hs2 hm2 => ?_)
    refine At.dK ?_
    refine At.inBlock ?_
    refine At.inLoop ?_
    refine At.drop (List.Sublist.cons _ (List.Sublist.refl _)) ?_
    refine ih rest _ _ _ ⟨m ++ [([a0, a1, a2, a3, a4], Hz)], td.erase ([a0, a1, a2, a3, a4], Hz), Hs2, wh, aoV, anK, hm2, rfl, ?_, ay.sub ⟨rfl, rfl, trivial⟩⟩
    have := Qf.length_eq
    simp only [List.length_cons] at this
    omega
 ·rintro n ih _ R' H' st ⟨qe, rfl, hn, hst⟩
  have hi : N - (n + 1) < N := by omega
  obtain ⟨p, hp, hmp⟩ := ak7 _ hi
  refine At.sub hst ?_
  refine At.seq ?_
  refine At.iC (n := 1) (is := [0]) rfl rfl ?_
  refine At.cP rfl rfl rfl (Ox.cmp rfl rfl rfl rfl rfl (.put rfl) ?_)
  refine At.dK ?_
  refine At.seq ?_
  refine At.BQ rfl (by simp; omega) ?_
  refine At.skip ?_
  refine At.seq ?_
  refine At.block ?_
  refine At.seq ?_
  refine At.iC (n := 3) (is := [0, 1, 2]) rfl rfl ?_
  refine At.cP rfl rfl rfl (Ox.move rfl rfl rfl (.put rfl) ?_)
  refine At.cP rfl rfl rfl (Ox.alloc (cs := #[iv 0]) rfl rC rfl λ b5 _ _ => ⟨_, (.put rfl), ?_⟩)
  refine At.cP rfl rfl rfl (Ox.cI (cs' := #[_]) rfl rfl rfl aV rfl .here rfl rfl rfl (.refl _) ?_)
  refine At.dK ?_
  refine At.nv (H2 := Hs ++ H) (λ X => X ++ (Hs ++ H)) .id rfl (λ R5 hR5 hc5 => ?_)
  have wo : aO Rz R5 := qe.trans hR5
  refine At.iC (n := 2) (is := [0, 1]) rfl rfl ?_
  refine At.cP rfl rfl rfl (Ox.makeFunc (vs := #[]) (us := #[_, _, _, _]) rfl rfl rfl rfl (.put rfl) ?_)
  refine λ tmps ht => Own.stop _ _ _ _ ⟨rfl, λ w hw => ⟨_, _, u7 p, ab9 (d := ⟨.fn (.func 147) #[pt b1, pt b5, pt b2, pt b3], #[]⟩) rfl rfl rfl ht (abI rfl rfl rfl) rfl, ?_, ?_⟩⟩
  ·exact Own.child rfl (ack agJ) (aCL x0 ((N - (n + 1) : Nat) : Int) (cK.up (H := []) wo) (h3.mono wo) (h4.mono wo) (h5.mono wo) (h6.mono wo) hc5 (bC.up (H := []) wo) (bO.up (H := []) wo) hmp)
  ·have hsp : u7 p :: kX l (n + 1) = kX l n := aBb (by omega) (by rw [hlen]; exact hp)
   rw [hsp]
   refine (?_ : At (qN Tryz.prog B true (oW Tryz.prog B cf cd (MJ Tryz.prog B Post) n (kX l n))) _ _ _ _ _) _ (ht.put undef rfl)
   refine At.dK ?_
   refine At.inBlock ?_
   refine At.iC (n := 2) (is := [0, 1]) rfl rfl ?_
   refine At.cP rfl rfl rfl (Ox.ar rfl rfl rfl rfl rfl (.put rfl) ?_)
   refine At.cP rfl rfl rfl (Ox.move rfl rfl rfl (.put rfl) ?_)
   refine At.dK ?_
   refine At.inLoop ?_
   have e : i64 (((N - (n + 1) : Nat) : Int) + 1) = ((N - n : Nat) : Int) := by rw [SU (by omega)]; omega
   exact ih () _ _ _ ⟨wo, rfl, by omega, ay.sub ⟨rfl, rfl, rfl, rfl, rfl, congrArg (λ z => some (iv z)) e, trivial⟩⟩
end
end Go.Proofs.YtabamagholjdcaaGreatDoor
namespace Go.Proofs.YtabamagholjdcaaGreatDoor
open Go.Lg Go.Proofs Go.ChangeShapes Go.WideShapes Go.ChangeAt Go.RowKit Go.Conc
set_option maxRecDepth 100000
theorem Dc : gu Tryz.prog 3 (CI .i64) 1 := gu.int (by kernel_rfl) Tryz.underlying3
theorem aAy : gu Tryz.prog 45 (CI .i64) 1 := gu.int (by kernel_rfl) Tryz.underlying45
theorem aAB : gu Tryz.prog 9 CS 1 := gu.str (by kernel_rfl) Tryz.underlying9
theorem abH : gu Tryz.prog 25 (vH (CI .i64) 1) 1 := gu.slice (by kernel_rfl) Tryz.underlying25 (by decide) Dc
theorem abG : gu Tryz.prog 23 VA 2 := ⟨by kernel_rfl, λ W T enc sp held fuel cs x h => by
 obtain ⟨xs, n, _, _, hl, hx, hf⟩ := DataW.trod_struct Tryz.underlying23 h
 have hc : cs.length = 2 := hl.trans (by kernel_rfl)
 match cs, hc with
 | [c0, c1], _ =>
  obtain ⟨a0, h0⟩ := Dc.field [c0] hx (hf 0 _ rfl)
  obtain ⟨a1, h1⟩ := Dc.field [c1] hx (hf 1 _ rfl)
  cases h0; cases h1
  exact ⟨rfl, ⟨a0, a1⟩, rfl⟩⟩
theorem aAz : gu Tryz.prog 47 bB 2 := ⟨by kernel_rfl, λ W T enc sp held fuel cs x h => by
 obtain ⟨xs, n, _, _, hl, hx, hf⟩ := DataW.trod_struct Tryz.underlying47 h
 have hc : cs.length = 2 := hl.trans (by kernel_rfl)
 match cs, hc with
 | [c0, c1], _ =>
  obtain ⟨a0, h0⟩ := Dc.field [c0] hx (hf 0 _ rfl)
  obtain ⟨a1, h1⟩ := aAy.field [c1] hx (hf 1 _ rfl)
  cases h0; cases h1
  exact ⟨rfl, ⟨a0, a1⟩, rfl⟩⟩
theorem aAA : gu Tryz.prog 58 bI 5 := ⟨by kernel_rfl, λ W T enc sp held fuel cs x h => by
 obtain ⟨xs, n, _, _, hl, hx, hf⟩ := DataW.trod_struct Tryz.underlying58 h
 have hc : cs.length = 5 := hl.trans (by kernel_rfl)
 match cs, hc with
 | [c0, c1, c2, c3, c4], _ =>
  obtain ⟨a0, h0⟩ := aAB.field [c0] hx (hf 0 _ rfl)
  obtain ⟨a1, h1⟩ := Dc.field [c1] hx (hf 1 _ rfl)
  obtain ⟨a2, h2⟩ := abG.field [c2, c3] hx (hf 2 _ rfl)
  obtain ⟨a3, v3, h3, g3⟩ := abH.field [c4] hx (hf 3 _ rfl)
  cases h0; cases h1; cases h2; cases h3
  exact ⟨rfl, ⟨a0, a1, a2, a3⟩, c4, g3, rfl⟩⟩
theorem aAv : gu Tryz.prog 24 (vH bI 5) 1 := gu.slice (by kernel_rfl) Tryz.underlying24 (by decide) aAA
theorem aAw : gu Tryz.prog 26 (vH bB 2) 1 := gu.slice (by kernel_rfl) Tryz.underlying26 (by decide) aAz
theorem aAx : gu Tryz.prog 28 Mq 6 := ⟨by kernel_rfl, λ W T enc sp held fuel cs x h => by
 obtain ⟨xs, n, _, _, hl, hx, hf⟩ := DataW.trod_struct Tryz.underlying28 h
 have hc : cs.length = 6 := hl.trans (by kernel_rfl)
 match cs, hc with
 | [c0, c1, c2, c3, c4, c5], _ =>
  obtain ⟨a0, h0⟩ := Dc.field [c0] hx (hf 0 _ rfl)
  obtain ⟨a1, h1⟩ := abG.field [c1, c2] hx (hf 1 _ rfl)
  obtain ⟨a2, v2, h2, g2⟩ := aAv.field [c3] hx (hf 2 _ rfl)
  obtain ⟨a3, v3, h3, g3⟩ := abH.field [c4] hx (hf 3 _ rfl)
  obtain ⟨a4, v4, h4, g4⟩ := aAw.field [c5] hx (hf 4 _ rfl)
  cases h0; cases h1; cases h2; cases h3; cases h4
  exact ⟨rfl, ⟨a0, a1, a2, a3, a4⟩, c3, c4, c5, g2, g3, g4, rfl⟩⟩
section
variable {W : World} {T : Type} {enc : TypeId × Value → T} {b0 : Nat} {v : Value} {d : DataW T} {p : List MemPlace}
theorem afI (hv : Value.okWide Tryz.prog W .any b0 28 v) (h : DataW.Trod enc Tryz.prog W 0 (λ _ => true) true 28 v d p) :
  ∃ (x : av) (v3 v4 v5 : Value), v = .agg #[iv x.aD, iv x.af.ao, iv x.af.ax, v3, v4, v5] ∧ az bI 5 (qm W) v3 x.au ∧ az (CI .i64) 1 (qm W) v4 x.Out ∧ az bB 2 (qm W) v5 x.aU := by
 obtain ⟨cs, rfl, _⟩ := okWide_struct Tryz.underlying28 hv
 obtain ⟨fuel, hf⟩ := h
 obtain ⟨_, x, v3, v4, v5, h3, h4, h5, e⟩ := aAx.rd _ _ _ _ _ _ _ _ hf
 exact ⟨x, v3, v4, v5, by rw [← Array.toArray_toList (xs := cs), show cs.toList = _ from e], h3, h4, h5⟩
theorem afJ (hv : Value.okWide Tryz.prog W .any b0 5 v) (h : DataW.Trod enc Tryz.prog W 0 (λ _ => true) true 5 v d p) : ∃ x : Nat, v = .int .u8 x ∧ x < 256 := by
 obtain ⟨x, rfl, _, _, hw⟩ := open_int Tryz.underlying5 hv h
 simp only [Lit.wf, Bool.and_eq_true, IntKind.min, IntKind.max, IntKind.signed, IntKind.bits] at hw
 simp at hw
 exact ⟨x.toNat, by rw [Int.toNat_of_nonneg (by omega)], by omega⟩
end
theorem aiE : Tryz.prog.globalNamed "lagan/hull.checks" = some 0 := by kernel_rfl
theorem aBF : (Tryz.prog.globals[0]?).map (·.type) = some 164 := by kernel_rfl
abbrev Gu : List (String × DataW Unit) := [("lagan/hull.checks", Rows.laid_lagan_hull_checks)]
theorem agq (os : Os) (args : Array Value) : laidMetH Tryz.prog Gu ((World.doorLaid Tryz.prog 14 os).forCall (λ _ _ => 0) ⟨#[], args, []⟩).memory :=
 laidMetH_of_parts3 (fuel := 8) (laidMet_of_run' 8 (by kernel_rfl) (by kernel_rfl)) (by kernel_rfl) (by kernel_rfl)
theorem azE {W : World} (h : laidMetH Tryz.prog Gu W) : fG (qm W) := by
 obtain ⟨g, t, cs, fuel, p, hg, ht, hv, hd⟩ := h.funcs (n := "lagan/hull.checks") (List.mem_cons_self ..)
 obtain rfl := Option.some.inj (aiE.symm.trans hg)
 obtain rfl := Option.some.inj (aBF.symm.trans ht)
 obtain ⟨xs, n, _, hx, hlen, hn, jT⟩ := DataW.trod_array Tryz.underlying164 (show DataW.trod (funcToken Tryz.prog) Tryz.prog W 0 (λ _ => true) true fuel 164 cs.toList = some (.agg [.held [40, 108, 97, 103, 97, 110, 47, 104, 117, 108, 108, 46, 98, 111, 111, 107, 41, 46, 104, 117, 108, 108], .held [40, 108, 97, 103, 97, 110, 47, 104, 117, 108, 108, 46, 98, 111, 111, 107, 41, 46, 112, 105, 101, 99, 101, 115], .held [40, 108, 97, 103, 97, 110, 47, 104, 117, 108, 108, 46, 98, 111, 111, 107, 41, 46, 111, 117, 116], .held [40, 108, 97, 103, 97, 110, 47, 104, 117, 108, 108, 46, 98, 111, 111, 107, 41, 46, 104, 101, 101, 108, 115]], p) from hd)
 rw [show Tryz.prog.cellsOf 109 = 1 by kernel_rfl] at jT
 have hl : cs.toList.length = 4 := hlen.trans (by kernel_rfl)
 obtain ⟨cs⟩ := cs
 simp only at hl jT
 match xs, hn, cs, hl with
 | [x0, x1, x2, x3], _, [c0, c1, c2, c3], _ =>
  simp only [Prod.mk.injEq, DataW.agg.injEq, List.map_cons, List.map_nil, List.cons.injEq, and_true] at hx
  obtain ⟨⟨e0, e1, e2, e3⟩, _⟩ := hx
  obtain ⟨x0, q0⟩ := x0
  obtain ⟨x1, q1⟩ := x1
  obtain ⟨x2, q2⟩ := x2
  obtain ⟨x3, q3⟩ := x3
  simp only at e0 e1 e2 e3
  subst e0 e1 e2 e3
  obtain rfl := func_of_trod (f0 := 211) Tryz.underlying109 (by kernel_rfl) (jT 0 (by decide))
  obtain rfl := func_of_trod (f0 := 212) Tryz.underlying109 (by kernel_rfl) (jT 1 (by decide))
  obtain rfl := func_of_trod (f0 := 213) Tryz.underlying109 (by kernel_rfl) (jT 2 (by decide))
  obtain rfl := func_of_trod (f0 := 214) Tryz.underlying109 (by kernel_rfl) (jT 3 (by decide))
  intro j v hj
  rw [Nat.zero_add]
  refine agf ?_
  rw [World.var?_cell hg hv j]
  simpa using hj
end Go.Proofs.YtabamagholjdcaaGreatDoor
