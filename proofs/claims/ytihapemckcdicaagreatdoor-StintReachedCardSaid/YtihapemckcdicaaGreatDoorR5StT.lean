/- The row's own walk, as goroutine 0's own. Printed by strow.py. No conditions. -/
import Derived.Test.YtihapemckcdicaaGreatDoorQVStW13
import Derived.Test.YtihapemckcdicaaGreatDoorQVLgE
namespace Go.Proofs.YtihapemckcdicaaGreatDoor
open Go.Lg Go.Proofs Tryz
set_option maxRecDepth 100000
set_option maxHeartbeats 4000000
section
variable {B:Base} {R:ax} {H:aj}
theorem aTy{PW:Value→World→Prop}(x0:ay)(x1:Int){aI aN aM aJ aO:Value}(hG:jd R)(hK:wB (CQ prog B PW))(aY:ag b8 2 R aI x0.Rows)(aW:ag cb 2 R aN x0.aE)(aR:ag bW 2 R aM x0.aD)(aS:ag cc 4 R aJ x0.aT)(aX:ag bP 3 R aO x0.bj){r:Bool}(hM:m5 x0 x1=some r):LI prog B PW 5 #[.agg #[iv x0.Rest,aI,aN,aM,aJ,aO],.int .u8 x1] R H (λ v R' H'=>aQ R R'∧H=H'∧v = .bool r):=by
 unfold m5 at hM
 refine LI.bq (args:=[.agg #[iv x0.Rest,aI,aN,aM,aJ,aO],.int .u8 x1]) func5 rfl (n:=120) rfl rfl λ hk=>?_;refine sg aG (bx λ K4=>?_);refine vs 1 (es (sq ?_));refine At.fT hM (λ (Y1:Bool) R' H' st'=>R=R'∧H'=(K4,.cells #[iv x0.Rest,aI,aN,aM,aJ,aO] 28)::H∧aA st' [(1,.int .u8 x1),(2,.pointer (some ⟨K4,0,none⟩)),(24,.bool Y1)])  ?_ ?_;rotate_right
 ·intro KE hM aJg;refine At.rg k9 (lN [_,_,_,_,_,_] 0 6 cx z0 ?_);obtain ⟨qj,B2,hM⟩:=ah hM;refine At.cv ami (aE3 x0 aY aW aR aS aX B2) ?_;rintro _ _ _ ⟨rfl,rfl,rfl⟩;refine vs 2 ?_;refine bK hM (λ Uc hM=>?_) (λ Uc hM=>?_)
  ·refine At.kn 18 Uc (vs 6 (er ?_));exact aJg _ (aa hM).symm _ _ _ ⟨rfl,rfl,au fX⟩
  refine At.kn 18 Uc (vs 1 ?_);refine ld 5 m9 z0 ?_;refine ls aX underlying26 ?_;refine vs 3 (er ?_);exact aJg _ (aa hM).symm _ _ _ ⟨rfl,rfl,au fX⟩
 rintro Y1 aYB aYs aY1 ⟨rfl,rfl,aSP⟩ hM;refine At.sub aSP (sc hM (λ Na hM=>?_) (λ Na hM=>?_))
 ·refine sg aG ?_;obtain ⟨ib,zz,hM⟩:=ah hM;refine At.cv YW (YZ  hG hK zz) ?_;rintro _ yE _ ⟨n8,rfl,rfl⟩;refine vs 1 (er ?_);obtain rfl:=aa hM;exact At.C7 func5 (by kernel_rfl) (.tmp rfl .nil) (so sr) hk ⟨n8,bR⟩
 refine sp (sg fa (vs 1 ?_));refine vM underlying5 underlying3 ?_;refine vs 1 ?_;refine ld 2 mZ z0 ?_;refine ls aW underlying23 ?_;obtain ⟨iC,EO,hM⟩:=ah hM;refine At.s rfl rfl (Ox.rem rfl rfl rfl EO rfl (.put rfl) ?_);refine vs 1 ?_;refine nx gb (lN [_,_,_,_,_,_] 0 6 cx z0 ?_);refine vs 1 ?_;obtain ⟨uG,adp,hM⟩:=ah hM;refine At.cv abz (aes x0 iC hG aY aW aR aS aX adp) ?_;rintro _ aYL _ ⟨H3,rfl,ahK,B3,rfl⟩;replace aY:=aY.mono H3;replace aW:=aW.mono H3;replace aR:=aR.mono H3;replace aS:=aS.mono H3;replace aX:=aX.mono H3;replace hG:=hG.mono H3;refine vs 5 ?_;refine nx fa (lN [_,_,_,_,_,_] 0 6 cx z0 ?_);obtain ⟨wx,adq,hM⟩:=ah hM;refine At.cv abw (aer x0 hG aY aW aR aS aX adq) ?_;rintro _ ai0 _ ⟨GJ,rfl,rfl⟩;replace aY:=aY.mono GJ;replace aW:=aW.mono GJ;replace aR:=aR.mono GJ;replace aS:=aS.mono GJ;replace aX:=aX.mono GJ;replace hG:=hG.mono GJ;replace B3:=B3.mono GJ;refine vs 5 (es (sq ?_));refine At.fT hM (λ (AR:Bool) R' H' st'=>ai0=R'∧H'=(K4,.cells #[iv x0.Rest,aI,aN,aM,aJ,aO] 28)::H∧aA st' [(2,.pointer (some ⟨K4,0,none⟩)),(5,iv iC),(6,ahK),(8,iv wx.1),(64,.bool AR)])  ?_ ?_;rotate_right
 ·intro Dt hM Mv;refine At.rg aJv (vs 3 ?_);refine bK hM (λ awt hM=>?_) (λ awt hM=>?_)
  ·refine At.kn 45 awt (vs 19 (er ?_));exact Mv _ (aa hM).symm _ _ _ ⟨rfl,rfl,au dQ⟩
  refine At.kn 45 awt (vs 4 ?_);refine At.s rfl rfl (Ox.YV rfl rfl rfl underlying4 rfl rfl (.put rfl) ?_);refine vs 2 ?_;refine bK hM (λ tC hM=>?_) (λ tC hM=>?_)
  ·refine At.kn 52 tC (vs 12 (er ?_));exact Mv _ (aa hM).symm _ _ _ ⟨rfl,rfl,au dQ⟩
  refine At.kn 52 tC (vs 3 ?_);refine bK hM (λ Ue hM=>?_) (λ Ue hM=>?_)
  ·refine At.kn 55 Ue (vs 3 ?_);refine bK hM (λ BP hM=>?_) (λ BP hM=>?_)
   ·refine At.kn 58 BP (vs 6 (er ?_));exact Mv _ (aa hM).symm _ _ _ ⟨rfl,rfl,au dQ⟩
   refine At.kn 58 BP (vs 1 ?_);refine ls B3 underlying36 ?_;refine vs 4 (er ?_);exact Mv _ (aa hM).symm _ _ _ ⟨rfl,rfl,au dQ⟩
  refine At.kn 55 Ue (vs 9 (er ?_));exact Mv _ (aa hM).symm _ _ _ ⟨rfl,rfl,au dQ⟩
 rintro AR aI7 aI5 aJA ⟨rfl,rfl,adh⟩ hM;refine At.sub adh (sc hM (λ adi hM=>?_) (λ adi hM=>?_))
 ·refine sg aC (vs 1 (er ?_));obtain rfl:=aa hM;exact At.C7 func5 (by kernel_rfl) (.tmp rfl .nil) (so sr) hk ⟨(H3.trans GJ),bR⟩
 refine sp (sg aC (vs 1 (es ?_)));refine sg fa (vs 1 ?_);refine ld 2 mZ z0 ?_;refine vs 1 ?_;obtain ⟨Ld,ads,hM⟩:=ah hM;obtain ⟨aYW,aYZ,_,rfl,aRR,aSe⟩:=aW.elem Kr ads;refine dk aSe ?_;refine vs 1 ?_;refine At.ld ba (aRR.any.one (j:=0) rfl) ?_;refine vs 1 (er (At.block ?_));refine At.gp hM (λ (oJ:(Int × Int)) R' H' st'=>aQ ai0 R'∧H'=(K4,.cells #[iv x0.Rest,aI,aN,aM,aJ,aO] 28)::H∧aA st' [(2,.pointer (some ⟨K4,0,none⟩)),(5,iv iC),(6,ahK),(8,iv wx.1),(10,iv oJ.1),(11,iv oJ.2)]) (λ (Y3:Int) R' H' st'=>aQ ai0 R'∧H=H'∧aA st' [(6,ahK),(8,iv wx.1),(10,iv Y3)]) 0 rfl ⟨rr,rfl,au gL⟩ ?_ ?_;rotate_right
 ·rintro oJ aYE aYv aY4 ⟨K7,rfl,aSS⟩ Lf hM aOE aRz aTD;refine At.sub aSS ?_;replace aY:=aY.mono K7;replace aW:=aW.mono K7;replace aR:=aR.mono K7;replace aS:=aS.mono K7;replace aX:=aX.mono K7;replace hG:=hG.mono K7;replace B3:=B3.mono K7;refine sq (sg gb (vs 2 ?_));refine ld 2 mZ z0 ?_;refine vs 1 ?_;obtain ⟨GO,ayD,hM⟩:=ah hM;obtain ⟨aPj,aTW,_,rfl,acO,arb⟩:=aW.elem Kr ayD;refine dk arb ?_;refine vs 1 ?_;refine At.ld ba (acO.any.one (j:=1) rfl) ?_;refine vs 1 (er ?_);refine sc hM (λ adl hM=>?_) (λ adl hM=>?_)
  ·refine sp (sq (At.block (sg yG (lN [_,_,_,_,_,_] 0 6 cx z0 ?_))));refine vs 2 ?_;refine fc (#[_,_,_]) XT ?_;obtain ⟨rm,adv,hM⟩:=ah hM;refine At.cv RF (W4 x0 (⟨iC,oJ.2,true⟩:dD) aY aW aR aS aX adv) ?_;rintro _ aYQ _ ⟨ahv,rfl,aZa,aZb,aZc,aZd,aZe,aS8,aS9,aTa,aTb,aTc,rfl⟩;replace hG:=hG.mono ahv;replace B3:=B3.mono ahv;refine vs 3 ?_;refine fc (#[_,_,_]) XT ?_;obtain ⟨Ys,aTd,hM⟩:=ah hM;refine At.cv RF (W4 rm (⟨iC,i64 (oJ.2 - 1),false⟩:dD) aS8 aS9 aTa aTb aTc aTd) ?_;rintro _ aYR _ ⟨ahw,rfl,aZf,aZg,aZh,aZi,aZj,aTe,aTf,aTg,aTh,aTi,rfl⟩;replace hG:=hG.mono ahw;replace B3:=B3.mono ahw;refine cY (#[iv 0,av,av,av,av,av]) AU λ aYU=>?_;refine eO (#[_,_,_,_,_,_]) cx .here ?_;refine nx fa (lN [_,_,_,_,_,_] 0 6 cx z0 ?_);obtain ⟨sK,adx,hM⟩:=ah hM;refine At.cv abw (aer Ys hG aTe aTf aTg aTh aTi adx) ?_;rintro _ aNX _ ⟨aoB,rfl,rfl⟩;replace B3:=B3.mono aoB;refine vs 5 (es (sq ?_));refine At.fT hM (λ (PT:Bool) R' H' st'=>aNX=R'∧H'=(K4,.cells #[iv x0.Rest,aI,aN,aM,aJ,aO] 28)::H∧aA st' [(2,.pointer (some ⟨K4,0,none⟩)),(5,iv iC),(6,ahK),(8,iv wx.1),(10,iv oJ.1),(11,iv oJ.2),(13,iv sK.1),(105,.bool PT)])  ?_ ?_;rotate_right
   ·intro AF hM aJj;refine At.rg k9 (vs 3 ?_);refine bK hM (λ IL hM=>?_) (λ IL hM=>?_)
    ·refine At.kn 98 IL (vs 7 (er ?_));exact At.drop (so sr) (aJj _ (aa hM).symm _ _ _ ⟨rfl,rfl,au qW⟩)
    refine At.kn 98 IL (vs 4 ?_);obtain ⟨GQ,adz,hM⟩:=ah hM;refine At.cv aJf (aJq uG.1 oJ.2 B3.rd adz) ?_;rintro _ _ _ ⟨rfl,rfl,rfl⟩;refine At.s rfl rfl (Ox.YV rfl rfl rfl underlying4 rfl rfl (.put rfl) ?_);refine vs 1 (er ?_);exact At.drop (so sr) (aJj _ (aa hM).symm _ _ _ ⟨rfl,rfl,au qW⟩)
   rintro PT aYJ aYA aY9 ⟨rfl,rfl,aSX⟩ hM;refine At.sub aSX (sc hM (λ zw hM=>?_) (λ zw hM=>?_))
   ·refine sg aC (vs 1 (er ?_));replace hM:=aTD _ (aa hM).symm;obtain rfl:=aa hM;exact At.C7 func5 (by kernel_rfl) (.tmp rfl .nil) (so sr) hk ⟨(((((H3.trans GJ).trans K7).trans ahv).trans ahw).trans aoB),bR⟩
   refine sp (At.rg bN (vs 4 (er (At.inBlock (At.rg bg ?_)))));refine vs 3 (er ?_);exact aOE _ (aa hM).symm _ _ _ ⟨(((K7.trans ahv).trans ahw).trans aoB),rfl,au gL⟩
  exact At.exit rfl (At.drop (so sr) (aRz _ (aa hM).symm _ _ _ ⟨K7,rfl,au fX⟩))
 rintro Y3 aYF aYw aY5 ⟨acA,rfl,aST⟩ hM;refine At.sub aST ?_;replace hG:=hG.mono acA;replace B3:=B3.mono acA;refine sg yG (vs 4 ?_);refine bK hM (λ Uq hM=>?_) (λ Uq hM=>?_)
 ·refine At.kn 112 Uq (vs 1 ?_);refine ls B3 underlying36 ?_;refine vs 3 ?_;refine bK hM (λ BQ hM=>?_) (λ BQ hM=>?_)
  ·refine At.kn 117 BQ ?_;obtain ⟨Za,aTj,hM⟩:=ah hM;refine At.cv YW (YZ  hG hK aTj) ?_;rintro _ aYT _ ⟨aRD,rfl,rfl⟩;refine vs 2 (er ?_);obtain rfl:=aa hM;exact At.C7 func5 (by kernel_rfl) (.tmp rfl .nil) sr hk ⟨(((H3.trans GJ).trans acA).trans aRD),bR⟩
  refine At.kn 117 BQ (vs 3 (er ?_));obtain rfl:=aa hM;exact At.C7 func5 (by kernel_rfl) (.tmp rfl .nil) sr hk ⟨((H3.trans GJ).trans acA),bR⟩
 refine At.kn 112 Uq (vs 8 (er ?_));obtain rfl:=aa hM;exact At.C7 func5 (by kernel_rfl) (.tmp rfl .nil) sr hk ⟨((H3.trans GJ).trans acA),bR⟩
end
end Go.Proofs.YtihapemckcdicaaGreatDoor
