/- The least of the functions. Conditions: none. -/
import Derived.Test.YtihapemckcdicaaGreatDoorQELgC
import Derived.Test.YtihapemckcdicaaGreatDoorQEStG
import Derived.Test.YtihapemckcdicaaGreatDoorQEStM
namespace Go.Proofs.YtihapemckcdicaaGreatDoor
open Go.Lg Go.Proofs Tryz
set_option maxRecDepth 100000
set_option maxHeartbeats 4000000
section
variable {B:Base} {main:Bool} {af:Jd prog B main} {R:az} {H:an}
theorem m8(x0:Int)(x1:Int)(x2:Int)  {r:Bool} (hM:kM x0 x1 x2=some r):aC af 139 #[iv x0,iv x1,iv x2] R H (λ v R' H'=>R=R'∧H=H'∧v = .bool r):=by
 unfold kM at hM
 refine aC.bn (args:=[iv x0,iv x1,iv x2]) func139 rfl (n:=15) rfl rfl λ fr cs hk=>?_;refine U.seq ?_;refine U.rg aJ ?_;refine U.vs 1 rfl rfl ?_;refine U.aU ?_;refine U.seq ?_;refine bu hM (λ Cp hM=>?_) (λ Cp hM=>?_)
 ·refine U.rg mh ?_;refine U.vs 4 rfl rfl ?_;refine U.kn 10 Cp ?_;refine U.vs 5 rfl rfl ?_;refine U.aU ?_;obtain rfl:=ab hM;exact U.Dn func139 (.tmp rfl .nil) (J.drop (List.Sublist.refl _) (hk _ _ _ ⟨rfl,rfl,rfl⟩))
 refine U.rg mh ?_;refine U.vs 4 rfl rfl ?_;refine U.kn 10 Cp ?_;refine U.vs 5 rfl rfl ?_;refine U.aU ?_;obtain rfl:=ab hM;exact U.Dn func139 (.tmp rfl .nil) (J.drop (List.Sublist.refl _) (hk _ _ _ ⟨rfl,rfl,rfl⟩))
end
end Go.Proofs.YtihapemckcdicaaGreatDoor
namespace Go.Proofs.YtihapemckcdicaaGreatDoor
open Go.Lg Go.Proofs Tryz
set_option maxRecDepth 100000
set_option maxHeartbeats 4000000
section
variable {B:Base} {main:Bool} {af:Jd prog B main} {R:az} {H:an}
theorem amA{s:ByteArray}{p:Nat}(h:p < s.size):nth (im s) p=((s[p]'h).toNat:Int):=by
 have h1:=df (l:=im s) (i:=p) (by rw [O7]; exact h)
 have h2:s.data.toList[p]? = some (s[p]'h):=by
  have h3:p < s.data.toList.length:=by simpa using h
  rw [List.getElem?_eq_getElem h3]
  rfl
 simp only [im,List.getElem?_map,h2,Option.map_some,Option.some.injEq] at h1
 exact h1.symm
theorem amO{s:ByteArray}{p:Nat}(h:p < s.size):(nth (im s) p=((Utf8.decode s p).1:Int)∧(Utf8.decode s p).2=1)∨(128≤nth (im s) p∧(128:Int)≤((Utf8.decode s p).1:Int)):=by
 rw [amA h]
 rcases Nat.lt_or_ge (s[p]'h).toNat 128 with h1 | h1
 ·left
  rw [decode_ascii s p h h1]
  exact ⟨rfl,rfl⟩
 ·right
  have:=(decode_high s p h h1).1
  omega
theorem Fy{n:Int}(h:128≤n):isLet n=false∧yo n=false:=by
 simp only [isLet,yo,cL,Bool.and_eq_false_iff,decide_eq_false_iff_not]
 omega
theorem ags{s:ByteArray}{p:Nat}:IntKind.wrap .i64 ((Utf8.decode s p).1:Int)=((Utf8.decode s p).1:Int):=by
 have:=decode_le s p
 exact NY (by omega)
theorem apM{e:Nat→Option Bool}{p n:Nat}(h:p < n):eI e p (n - p)=match e p with | some o=>some o | none=>eI e (p+1) (n - (p+1)):=by
 obtain ⟨k,hk⟩:∃ k,n - p=k+1:=⟨n - p - 1,by omega⟩
 rw [hk,show n - (p+1)=k by omega,eI]
 cases e p <;> rfl
theorem Xb(n a c:Int):kM n a c=some (cL n a c):=by
 unfold kM cL;cases decide (a≤n) <;> rfl
theorem aA6(x0:ByteArray){r:Bool}(hM:KG x0=some r):aC af 274 #[.string x0] R H (λ v R' H'=>R=R'∧H=H'∧v = .bool r):=by
 obtain rfl:pY x0=r:=ab hM;clear hM
 refine aC.bn (args:=[.string x0]) func274 rfl (n:=28) rfl rfl λ fr cs hk=>?_;refine U.seq ?_;refine U.rg [0] ?_;refine U.lv 1 ?_;refine U.aU ?_;refine U.seq ?_;refine U.seq ?_;refine U.rg [0,1] ?_;refine U.lv 1 ?_;refine U.iX rfl rfl rfl (Ox.aCG rfl rfl underlying9 rfl λ b _ _=>⟨_,(.put rfl),?_⟩);refine U.aU ?_;refine U.block ?_;refine U.loop (λ m R' H' st=>R'=R∧∃ p,m=x0.size - p∧p≤x0.size∧H'=(b,.stringIter x0 p)::H∧aI st [(0,.string x0),(6,.pointer (some ⟨b,0,none⟩))]∧pY x0=(eI (ov x0) p (x0.size - p)).getD (cL (x0.size:Int) 1 12)) ?_ (n:=x0.size) ⟨rfl,0,rfl,Nat.zero_le _,rfl,bR.sub ⟨rfl,rfl,trivial⟩,rfl⟩;rintro m _ _ st ⟨rfl,p,rfl,hp,rfl,cG,hl⟩ again;refine U.sub cG ?_;refine U.seq ?_;refine U.rg [0,1] ?_;by_cases bK:p < x0.size
 ·refine U.iX rfl rfl rfl (Ox.aBA rfl rfl .here bK rfl (.put rfl) ?_);refine U.iX rfl rfl rfl (Ox.extract rfl rfl rfl rfl (.put rfl) ?_);refine U.aU ?_;refine U.seq ?_;refine U.fE rfl rfl ?_;refine U.skip ?_;refine U.block ?_;refine U.seq ?_;refine U.rg [0,1,2,3] ?_;refine U.iX rfl rfl rfl (Ox.extract rfl rfl rfl rfl (.put rfl) ?_);refine U.iX rfl rfl rfl (Ox.extract rfl rfl rfl rfl (.put rfl) ?_);refine U.lv 2 ?_;refine U.aU ?_;refine U.seq ?_;refine U.rg [0,1,2,3,4,5,6,7,8,9,10,11,12,13] ?_;refine U.lv 2 ?_;refine U.is 12 (v':=.int .i64 ((Utf8.decode x0 p).1:Int)) rfl (congrArg _ ags) ?_;refine U.cv mU (m8 ((Utf8.decode x0 p).1:Int) 97 122 (Xb _ _ _)) ?_;rintro _ _ _ ⟨rfl,rfl,rfl⟩;rw [apM bK] at hl
  have hd:=amO bK
  have ade:cL ((Utf8.decode x0 p).1:Int) 97 122=isLet (nth (im x0) p):=by
   rcases hd with ⟨h1,_⟩ | ⟨h1,h2⟩
   ·rw [h1]; rfl
   ·rw [(Fy h1).1]; exact (Fy h2).1
  have ada:cL ((Utf8.decode x0 p).1:Int) 48 57=yo (nth (im x0) p):=by
   rcases hd with ⟨h1,_⟩ | ⟨h1,h2⟩
   ·rw [h1]; rfl
   ·rw [(Fy h1).2]; exact (Fy h2).2
  have hw:isLet (nth (im x0) p)=true∨yo (nth (im x0) p)=true→p+(Utf8.decode x0 p).2=p+1:=λ h=>by
   rcases hd with ⟨_,h1⟩ | ⟨h1,_⟩
   ·rw [h1]
   ·rw [(Fy h1).1,(Fy h1).2] at h
    rcases h with h | h <;> cases h
  cases hL:isLet (nth (im x0) p) with
  | true =>
   refine U.kn 13 (ade.trans hL) ?_;refine U.lv 11 ?_;refine U.aU ?_;refine U.eF rfl rfl ?_;refine U.skip ?_;refine U.inBlock ?_;refine again (x0.size - (p+1)) _ _ _ (by omega) ⟨rfl,p+1,rfl,by omega,by rw [hw (.inl hL)],bR.sub ⟨rfl,rfl,trivial⟩,?_⟩;rw [hl]
   unfold ov;rw [hL]
   rfl
  | false =>
   refine U.kn 13 (ade.trans hL) ?_;refine U.lv 4 ?_;cases hz:(((p:Nat):Int) == 0) with
   | true =>
    have NG:p=0:=by simpa using hz
    refine U.lv 7 ?_;refine U.aU ?_;refine U.fE rfl rfl ?_;refine U.seq ?_;refine U.rg [0] ?_;refine U.lv 1 ?_;refine U.aU ?_
    have e:pY x0=false:=by
     rw [hl]
     unfold ov;rw [hL,if_pos rfl,if_pos NG]
     rfl
    exact U.Dn func274 (.tmp rfl .nil) (J.drop (List.Sublist.cons _ (List.Sublist.refl _)) (hk _ _ _ ⟨rfl,rfl,by rw [e]; rfl⟩))
   | false =>
    have NG:p≠0:=by simpa using hz
    refine U.lv 3 ?_;refine U.is 20 (v':=.int .i64 ((Utf8.decode x0 p).1:Int)) rfl (congrArg _ ags) ?_;refine U.cv mU (m8 ((Utf8.decode x0 p).1:Int) 48 57 (Xb _ _ _)) ?_;rintro _ _ _ ⟨rfl,rfl,rfl⟩;cases hD:yo (nth (im x0) p) with
    | true =>
     refine U.kn 21 (ada.trans hD) ?_;refine U.lv 3 ?_;refine U.aU ?_;refine U.eF rfl rfl ?_;refine U.skip ?_;refine U.inBlock ?_;refine again (x0.size - (p+1)) _ _ _ (by omega) ⟨rfl,p+1,rfl,by omega,by rw [hw (.inr hD)],bR.sub ⟨rfl,rfl,trivial⟩,?_⟩;rw [hl]
     unfold ov;rw [hL,hD,if_pos rfl,if_neg NG]
     rfl
    | false =>
     refine U.kn 21 (ada.trans hD) ?_;refine U.lv 3 ?_;refine U.aU ?_;refine U.fE rfl rfl ?_;refine U.seq ?_;refine U.rg [0] ?_;refine U.lv 1 ?_;refine U.aU ?_
     have e:pY x0=false:=by
      rw [hl]
      unfold ov;rw [hL,hD,if_pos rfl,if_neg NG]
      rfl
     exact U.Dn func274 (.tmp rfl .nil) (J.drop (List.Sublist.cons _ (List.Sublist.refl _)) (hk _ _ _ ⟨rfl,rfl,by rw [e]; rfl⟩))
 ·refine U.iX rfl rfl rfl (Ox.aBz rfl rfl (.head _) bK rfl (.put rfl) ?_);refine U.iX rfl rfl rfl (Ox.extract rfl rfl rfl rfl (.put rfl) ?_);refine U.aU ?_;refine U.seq ?_;refine U.eF rfl rfl ?_;refine U.exit rfl ?_;refine U.seq ?_;refine U.rg [0,1,2,3] ?_;refine U.lv 1 ?_;refine U.iX rfl rfl rfl (Ox.N8 rfl rfl underlying9 rfl (.put rfl) ?_);refine U.cv mU (m8 (x0.size:Int) 1 12 (Xb _ _ _)) ?_;rintro _ _ _ ⟨rfl,rfl,rfl⟩;refine U.lv 1 ?_;refine U.aU ?_
  have e:pY x0=cL (x0.size:Int) 1 12:=by
   rw [hl,show x0.size - p=0 by omega]
   rfl
  exact U.Dn func274 (.tmp rfl .nil) (J.drop (List.Sublist.cons _ (List.Sublist.refl _)) (hk _ _ _ ⟨rfl,rfl,by rw [e]; rfl⟩))
end
end Go.Proofs.YtihapemckcdicaaGreatDoor
