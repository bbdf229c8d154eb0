/- Walks, part 8: each function computes its model. -/
import Derived.Test.YtihapemckcdicaaGreatDoorQFStW7
import Derived.Test.YtihapemckcdicaaGreatDoorQFLgC
namespace Go.Proofs.YtihapemckcdicaaGreatDoor
open Go.Lg Go.Proofs Tryz
set_option maxRecDepth 100000
set_option maxHeartbeats 4000000
section
variable {B:Base} {main:Bool} {ae:Jd prog B main} {R:ax} {H:an}
theorem azC(x0:Int)(x1:Int)  {r:(List (List Int))} (hM:B8 x0 x1=some r):aB ae 135 #[iv x0,iv x1] R H (λ v R' H'=>aS R R'∧H=H'∧∃ dE,aa (eU CZ 1) 1 R' dE r∧v=dE):=by
 unfold B8 at hM
 refine aB.bn func135 rfl (n:=42) rfl rfl λ fr cs hk=>?_;refine sg aK (vs 1 ?_);refine nx aU (fv (#[_]) wy DS λ GX=>?_);refine vs 1 (es ?_);refine sg aK (vs 1 (er (U.block ?_)));refine U.gF hM (λ (fO:((List (List Int)) × Int)) R' H' st'=>aS R R'∧∃ Kc Gn,bB (eU CZ 1) 1 36 R' Kc fO.1 Gn∧H'=Gn++(H)∧aF st' [(0,iv x0),(1,iv x1),(5,Kc),(6,iv fO.2)]) (λ (qT:(List (List Int))) R' H' st'=>aS R R'∧∃ Ot Py,bB (eU CZ 1) 1 36 R' Ot qT Py∧H'=Py++(H)∧aF st' [(5,Ot)]) 0 rfl ⟨rr,.slice (some ⟨GX,0,none⟩) 1 1,[(GX,_)],(bB.lit (aX.le (aX.cons (x:=[]) ⟨_,rfl,aa.nil⟩ rfl aX.nil) rfl) rfl),rfl,av cU⟩ ?_ ?_;rotate_right
 ·rintro fO PM agO aDM ⟨rL,Kc,Gn,SN,rfl,Tc⟩ aFM hM K3 Rh;refine U.sub Tc (sq (sg bc (vs 3 (er ?_))));refine sc hM (λ Bu hM=>?_) (λ Bu hM=>?_)
  ·refine sp (sq (U.block (sg bc (vs 1 ?_))));refine U.s rfl rfl (Ox.BV rfl rfl SN underlying29 rfl (.put rfl) ?_);refine vs 1 ?_;refine nx aK (vs 1 (er (U.block ?_)));refine U.gF hM (λ (p5:((List (List Int)) × Int)) R' H' st'=>aS PM R'∧∃ Ke wc,bB (eU CZ 1) 1 36 R' Ke p5.1 wc∧H'=wc++(H)∧aF st' [(0,iv x0),(1,iv x1),(5,Ke),(6,iv fO.2),(7,iv (fO.1.length:Int)),(8,iv p5.2)]) (λ (NR:(List (List Int))) R' H' st'=>aS PM R'∧∃ Ov KL,bB (eU CZ 1) 1 36 R' Ov NR KL∧H'=KL++(H)∧aF st' [(0,iv x0),(1,iv x1),(5,Ov),(6,iv fO.2)]) 2 rfl ⟨rr,Kc,Gn,SN,rfl,av ir⟩ ?_ ?_;rotate_right
   ·rintro p5 aIy aGP aOK ⟨RG,Ke,wc,Bl,rfl,asc⟩ Pf hM Y3 alP;refine U.sub asc (sq (sg bc (vs 3 (er ?_))));refine sc hM (λ Iz hM=>?_) (λ Iz hM=>?_)
    ·refine sp (sq (U.block (sg ey (vs 2 ?_))));obtain ⟨Ap,Vq,hM⟩:=aj hM;obtain ⟨aLn,aNn,_,⟨aQd,rfl,avY⟩,aou,apQ⟩:=(Bl.rd (λ _ h=>(List.mem_append_left _ h))).elem q6 Vq;refine cE apQ ?_;refine U.ld qQ ((aou.sub pp).one (j:=0) rfl) ?_;refine ls avY underlying36 ?_;refine vs 2 (er ?_);refine sc hM (λ IA hM=>?_) (λ IA hM=>?_)
     ·refine U.rg J4 (vs 1 ?_);refine fv (#[]) lp Zw λ aKK=>?_;refine vs 2 ?_;obtain ⟨ags,avZ,hM⟩:=aj hM;obtain ⟨agt,av1,hM⟩:=aj hM;obtain ⟨X9,av2,hM⟩:=aj hM;obtain ⟨agu,av4,hM⟩:=aj hM;obtain ⟨aLo,aNo,_,⟨aQe,rfl,av0⟩,Sb,apR⟩:=(Bl.rd (λ _ h=>(.tail _ (List.mem_append_left _ h)))).elem q6 avZ;refine cE apR ?_;refine U.ld qQ ((Sb.sub pp).one (j:=0) rfl) ?_;refine U.s rfl rfl (Ox.append (K:=CZ) (λ X=>X++(wc++(H))) rfl rfl rfl yK underlying36 (by simp) .id (bB.lit (aX.le aX.nil rfl) rfl) av0.arg av1 rfl λ aQf aHA aq0=>⟨_,(.put rfl),?_⟩);refine vs 1 ?_;refine fv (#[_]) lp pI λ Lh=>?_;refine U.s rfl rfl (Ox.append (K:=CZ) (λ X=>(Lh,_)::X++(wc++(H))) rfl rfl rfl yK underlying36 (by simp) (.cons .id) aq0 (gq.lit z0 (aX.le (aX.cons (x:=fO.2) rfl rfl aX.nil) rfl) rfl) av2 rfl λ aQg aHB acb=>⟨_,(.put rfl),?_⟩);refine U.k6 (H2:=(Lh,_)::wc++(H)) (λ X=>(Lh,_)::X++(wc++(H))) (.cons .id) rfl acb (λ aJp RL ao4=>?_);replace Sb:=Sb.le RL;replace Bl:=Bl.mono RL;refine U.s rfl rfl (Ox.buildSlice (cells:=#[_]) rfl wy rfl (by decide) DS (lu rfl acb.cells rfl rfl mr) rfl λ aiS _ _=>⟨_,(.put rfl),?_⟩);refine U.s rfl rfl (Ox.append (K:=(eU CZ 1)) (λ X=>(aiS,_)::(Lh,_)::X++(H)) rfl rfl rfl K7 underlying29 (by simp) (.cons (.cons .id)) Bl (gq.lit z0 (aX.le (aX.cons (x:=X9) ⟨_,rfl,ao4⟩ rfl aX.nil) rfl) rfl) av4 rfl λ aEU ahe aq1=>⟨_,(.put rfl),?_⟩);refine vs 1 (er (U.inBlock (U.rg bc ?_)));refine vs 3 (er ?_);exact U.drop (so (so sr)) (Y3 _ (ab hM).symm _ _ _ ⟨(RG.trans RL),aEU,ahe,aq1,rfl,av ir⟩)
     refine sp (U.inBlock (U.rg bc (vs 3 (er ?_))));exact Y3 _ (ab hM).symm _ _ _ ⟨RG,Ke,wc,Bl,rfl,av ir⟩
    exact U.exit rfl (alP _ (ab hM).symm _ _ _ ⟨RG,Ke,wc,Bl,rfl,av cU⟩)
   rintro NR aIz aGQ aOL ⟨anu,Ov,KL,aqF,rfl,asd⟩ hM;refine U.sub asd (U.inBlock (U.rg bc (vs 3 (er ?_))));exact K3 _ (ab hM).symm _ _ _ ⟨(rL.trans anu),Ov,KL,aqF,rfl,av cU⟩
  exact U.exit rfl (Rh _ (ab hM).symm _ _ _ ⟨rL,Kc,Gn,SN,rfl,av pY⟩)
 rintro qT ahx agP aDN ⟨RF,Ot,Py,aqB,rfl,Td⟩ hM;refine U.sub Td (sg aU (vs 2 (er ?_)));refine U.k6 (H2:=H) (λ X=>X++(H)) .id rfl aqB (λ aJq anI ao5=>?_);obtain rfl:=ab hM;exact rt func135 (.tmp rfl .nil) sr (hk _ _ _ ⟨(RF.trans anI),rfl,Ot,ao5,rfl⟩)
end
end Go.Proofs.YtihapemckcdicaaGreatDoor
