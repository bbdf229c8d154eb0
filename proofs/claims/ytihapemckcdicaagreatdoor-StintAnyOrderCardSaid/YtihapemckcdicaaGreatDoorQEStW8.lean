/- Walks, part 8: each function computes its model. -/
import Derived.Test.YtihapemckcdicaaGreatDoorQEStW7
import Derived.Test.YtihapemckcdicaaGreatDoorQELgC
namespace Go.Proofs.YtihapemckcdicaaGreatDoor
open Go.Lg Go.Proofs Tryz
set_option maxRecDepth 100000
set_option maxHeartbeats 4000000
section
variable {B:Base} {main:Bool} {af:Jd prog B main} {R:az} {H:an}
theorem Z3(x0:(List Int))(x1:Int){v0:Value}(h0:cK CZ 1 R H v0 x0){r:Bool}(hM:F1 x0 x1=some r):aC af 47 #[v0,iv x1] R H (λ v R' H'=>R=R'∧H=H'∧v = .bool r):=by
 unfold F1 at hM
 refine aC.bn func47 rfl (n:=18) rfl rfl λ fr cs hk=>?_;refine sg aJ ?_;refine vs 1 ?_;refine es ?_;refine sg aJ ?_;refine vs 1 ?_;refine er ?_;refine U.block ?_;refine U.fD hM (λ (Gr:Int) R' H' st'=>R=R'∧H=H'∧aI st' [(0,v0),(1,iv x1),(5,iv Gr)]) (λ (sX:Unit) R' H' st'=>R=R'∧H=H'∧aI st' []) 0 rfl ⟨rfl,rfl,ay dS⟩ ?_ ?_;rotate_right
 ·rintro Gr R36 H36 aQI ⟨rfl,rfl,auZ⟩ iZ hM alI M9 aB1;refine U.sub auZ ?_;refine sq ?_;refine sg cb ?_;refine vs 2 ?_;refine lr h0 underlying36 ?_;refine vs 1 ?_;refine er ?_;refine sc hM (λ yb hM=>?_) (λ yb hM=>?_)
  ·refine sp ?_;refine sq ?_;refine U.block ?_;refine sg gG ?_;refine vs 2 ?_;obtain ⟨lJ,yh,hM⟩:=aj hM;obtain ⟨amv,aCh,_,rfl,TT,Ui⟩:=h0.elem gj yh;refine cS Ui ?_;refine U.ld bt ((TT.sub pp).one (j:=0) rfl) ?_;refine vs 2 ?_;refine er ?_;refine sc hM (λ yc hM=>?_) (λ yc hM=>?_)
   ·refine sg aJ ?_;refine vs 1 ?_;refine er ?_;replace hM:=aB1 _ (ab hM).symm;obtain rfl:=ab hM;exact rt func47 (.tmp rfl .nil) sr (hk _ _ _ aA)
   refine sp ?_;refine U.inBlock ?_;refine U.rg bh ?_;refine vs 3 ?_;refine er ?_;exact alI _ (ab hM).symm _ _ _ ⟨rfl,rfl,ay dS⟩
  exact U.exit rfl (M9 _ (ab hM).symm _ _ _ ⟨rfl,rfl,bR.sub trivial⟩)
 rintro sX akX akl aDJ ⟨rfl,rfl,UQ⟩ hM;refine U.sub UQ ?_;refine sg aJ ?_;refine vs 1 ?_;refine er ?_;obtain rfl:=ab hM;exact rt func47 (.tmp rfl .nil) sr (hk _ _ _ aA)
theorem aAi(x0:ao)(x1:(List (List Int)))(x2:Int){aB aD aG aE aF v1:Value}(_:ae bE 2 R aB x0.Rows)(_:ae bN 2 R aD x0.aM)(_:ae bD 2 R aG x0.ax)(aK:ae bL 4 R aE x0.av)(_:ae bB 3 R aF x0.ba)(h1:cK (gw CZ 1) 1 R H v1 x1){r:Int}(hM:Q3 x0 x1 x2=some r):aC af 148 #[.agg #[iv x0.Rest,aB,aD,aG,aE,aF],v1,iv x2] R H (λ v R' H'=>R=R'∧H=H'∧v=iv r):=by
 unfold Q3 at hM
 refine aC.bn func148 rfl (n:=30) rfl rfl λ fr cs hk=>?_;refine sg aS ?_;refine bx λ Si=>?_;refine vs 1 ?_;refine nx aJ ?_;refine vs 1 ?_;refine es ?_;refine sg aJ ?_;refine vs 1 ?_;refine er ?_;refine U.block ?_;refine U.jA hM (λ (gO:(Int × Int)) R' H' st'=>R=R'∧H'=(Si,.cells #[iv x0.Rest,aB,aD,aG,aE,aF] 28)::H∧aI st' [(1,v1),(2,iv x2),(3,.pointer (some ⟨Si,0,none⟩)),(7,iv gO.1),(8,iv gO.2)]) (λ (u9:Int) R' H' st'=>R=R'∧H=H'∧aI st' [(7,iv u9)]) 0 rfl ⟨rfl,rfl,ay fj⟩ ?_ ?_;rotate_right
 ·rintro gO R44 H44 aDL ⟨rfl,rfl,US⟩ gY hM Ih Ta;refine U.sub US ?_;refine sq ?_;refine sg cb ?_;refine vs 2 ?_;refine lr h1 underlying29 ?_;refine vs 1 ?_;refine er ?_;refine sc hM (λ uF hM=>?_) (λ uF hM=>?_)
  ·refine sp ?_;refine sq ?_;refine U.block ?_;refine sg gG ?_;refine vs 2 ?_;obtain ⟨nV,Hb,hM⟩:=aj hM;obtain ⟨Ln,Wv,hM⟩:=aj hM;obtain ⟨abt,aeJ,_,⟨aGZ,rfl,ayn⟩,I8,Ji⟩:=h1.elem vG Hb;refine cS Ji ?_;refine U.ld vF ((I8.sub (su (so sr))).one (j:=0) rfl) ?_;refine vs 1 ?_;refine U.cv ZO (Z3 nV x2 ayn.rd Wv) ?_;rintro _ _ _ ⟨rfl,rfl,rfl⟩;refine er ?_;refine sc hM (λ awe hM=>?_) (λ awe hM=>?_)
   ·refine U.rg mh ?_;refine vs 2 ?_;refine ld 4 fx z0 ?_;refine vs 1 ?_;obtain ⟨Lo,Ww,hM⟩:=aj hM;obtain ⟨aNK,aPo,_,rfl,arp,asP⟩:=aK.elem ql Ww;refine cS asP ?_;refine vs 1 ?_;refine U.ld bt (arp.any.one (j:=2) rfl) ?_;refine vs 2 ?_;refine er ?_;refine U.inBlock ?_;refine U.rg bh ?_;refine vs 3 ?_;refine er ?_;exact Ih _ (ab hM).symm _ _ _ ⟨rfl,rfl,ay fj⟩
   refine sp ?_;refine U.inBlock ?_;refine U.rg bh ?_;refine vs 3 ?_;refine er ?_;exact Ih _ (ab hM).symm _ _ _ ⟨rfl,rfl,ay fj⟩
  exact U.exit rfl (U.drop (so sr) (Ta _ (ab hM).symm _ _ _ ⟨rfl,rfl,ay m9⟩))
 rintro u9 akZ akn aDM ⟨rfl,rfl,UT⟩ hM;refine U.sub UT ?_;refine sg aS ?_;refine vs 2 ?_;refine er ?_;obtain rfl:=ab hM;exact rt func148 (.tmp rfl .nil) sr (hk _ _ _ aA)
theorem aGM(x0:ao)(x1:(List (List Int))){aB aD aG aE aF v1:Value}(aP:ae bE 2 R aB x0.Rows)(aO:ae bN 2 R aD x0.aM)(aL:ae bD 2 R aG x0.ax)(aK:ae bL 4 R aE x0.av)(aN:ae bB 3 R aF x0.ba)(h1:cK (gw CZ 1) 1 R H v1 x1){r:Int}(hM:m64 x0 x1=some r):aC af 64 #[.agg #[iv x0.Rest,aB,aD,aG,aE,aF],v1] R H (λ v R' H'=>R=R'∧H=H'∧v=iv r):=by
 unfold m64 at hM
 refine aC.bn func64 rfl (n:=21) rfl rfl λ fr cs hk=>?_;refine sg aS ?_;refine bx λ jS=>?_;refine vs 1 ?_;refine nx aJ ?_;refine vs 1 ?_;refine es ?_;refine sg aJ ?_;refine vs 1 ?_;refine er ?_;refine U.block ?_;refine U.jA hM (λ (vi:(Int × Int)) R' H' st'=>R=R'∧H'=(jS,.cells #[iv x0.Rest,aB,aD,aG,aE,aF] 28)::H∧aI st' [(1,v1),(2,.pointer (some ⟨jS,0,none⟩)),(5,iv vi.1),(6,iv vi.2)]) (λ (OS:Int) R' H' st'=>R=R'∧H=H'∧aI st' [(5,iv OS)]) 0 rfl ⟨rfl,rfl,ay cz⟩ ?_ ?_;rotate_right
 ·rintro vi R35 H35 aQF ⟨rfl,rfl,auW⟩ iq hM alH aoO;refine U.sub auW ?_;refine sq ?_;refine sg bZ ?_;refine vs 2 ?_;refine ld 3 fI z0 ?_;refine ls aL underlying24 ?_;refine vs 1 ?_;refine er ?_;refine sc hM (λ JP hM=>?_) (λ JP hM=>?_)
  ·refine sp ?_;refine sq ?_;refine U.block ?_;refine U.rg eJ ?_;refine vs 1 ?_;refine lN [_,_,_,_,_,_] 0 6 bH z0 ?_;refine vs 2 ?_;obtain ⟨vz,Kd,hM⟩:=aj hM;refine U.cv anl (aAi x0 x1 vi.2 aP aO aL aK aN (h1.sub (su (so sr))) Kd) ?_;rintro _ _ _ ⟨rfl,rfl,rfl⟩;refine U.s rfl rfl (Ox.max (a:=vi.1) (l:=[vz]) rfl rfl rfl (.put rfl) ?_);refine vs 1 ?_;refine er ?_;refine U.inBlock ?_;refine U.rg bh ?_;refine vs 3 ?_;refine er ?_;exact alH _ (ab hM).symm _ _ _ ⟨rfl,rfl,ay cz⟩
  exact U.exit rfl (U.drop (so sr) (aoO _ (ab hM).symm _ _ _ ⟨rfl,rfl,ay m9⟩))
 rintro OS aLg aJP aQH ⟨rfl,rfl,auY⟩ hM;refine U.sub auY ?_;refine sg aS ?_;refine vs 2 ?_;refine er ?_;obtain rfl:=ab hM;exact rt func64 (.tmp rfl .nil) sr (hk _ _ _ aA)
end
end Go.Proofs.YtihapemckcdicaaGreatDoor
