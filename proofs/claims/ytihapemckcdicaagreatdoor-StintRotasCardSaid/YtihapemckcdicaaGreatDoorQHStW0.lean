/- The least of the functions. Conditions: none. -/
import Derived.Test.YtihapemckcdicaaGreatDoorQHLgC
import Derived.Test.YtihapemckcdicaaGreatDoorQHStG
import Derived.Test.YtihapemckcdicaaGreatDoorQHStM
namespace Go.Proofs.YtihapemckcdicaaGreatDoor
open Go.Lg Go.Proofs Tryz
set_option maxRecDepth 100000
set_option maxHeartbeats 4000000
section
variable {B:Base} {main:Bool} {ab:Jd prog B main} {R:az} {H:ah}
theorem np(x0:Int)(x1:Int)(x2:Int)  {r:Bool} (hM:kL x0 x1 x2=some r):bg ab 139 #[iv x0,iv x1,iv x2] R H (λ v R' H'=>R=R'∧H=H'∧v = .bool r):=by
 unfold kL at hM
 refine bg.oC (args:=[iv x0,iv x1,iv x2]) func139 rfl (n:=15) rfl rfl λ fr cs hk=>?_;refine U.seq ?_;refine U.rg aN (U.vs 1 rfl rfl ?_);refine U.aT ?_;refine U.seq ?_;refine bQ hM (λ Dn hM=>?_) (λ Dn hM=>?_)
 ·refine U.rg mc (U.vs 4 rfl rfl ?_);refine U.kn 10 Dn (U.vs 5 rfl rfl ?_);refine U.aT ?_;obtain rfl:=aA hM;exact U.EH func139 (.tmp rfl .nil) (J.drop (List.Sublist.refl _) (hk _ _ _ ⟨rfl,rfl,rfl⟩))
 refine U.rg mc (U.vs 4 rfl rfl ?_);refine U.kn 10 Dn (U.vs 5 rfl rfl ?_);refine U.aT ?_;obtain rfl:=aA hM;exact U.EH func139 (.tmp rfl .nil) (J.drop (List.Sublist.refl _) (hk _ _ _ ⟨rfl,rfl,rfl⟩))
end
section
variable {B:Base} {main:Bool} {ab:Jd prog B main} {R:az} {H:ah}
theorem aof{s:ByteArray}{p:Nat}(h:p < s.size):nth (iB s) p=((s[p]'h).toNat:Int):=by
 have h1:=cw (l:=iB s) (i:=p) (by rw [RG]; exact h)
 have h2:s.data.toList[p]? = some (s[p]'h):=by
  have h3:p < s.data.toList.length:=by simpa using h
  rw [oa h3]
  rfl
 simp only [iB,List.getElem?_map,h2,Option.map_some,iS] at h1
 exact h1.symm
theorem aoB{s:ByteArray}{p:Nat}(h:p < s.size):(nth (iB s) p=((Utf8.decode s p).1:Int)∧(Utf8.decode s p).2=1)∨(128≤nth (iB s) p∧(128:Int)≤((Utf8.decode s p).1:Int)):=by
 rw [aof h]
 rcases Nat.lt_or_ge (s[p]'h).toNat 128 with h1 | h1
 ·left
  rw [decode_ascii s p h h1]
  exact ⟨rfl,rfl⟩
 ·right
  have:=(decode_high s p h h1).1
  omega
theorem Gq{n:Int}(h:128≤n):isLet n=false∧y8 n=false:=by
 simp only [isLet,y8,dg,Bool.and_eq_false_iff,decide_eq_false_iff_not]
 omega
theorem akq{s:ByteArray}{p:Nat}:IntKind.wrap .i64 ((Utf8.decode s p).1:Int)=((Utf8.decode s p).1:Int):=by
 have:=decode_le s p
 exact Qc (by omega)
theorem ar4{e:Nat→Option Bool}{p n:Nat}(h:p < n):ff e p (n - p)=match e p with | some o=>some o | none=>ff e (p+1) (n - (p+1)):=by
 obtain ⟨k,hk⟩:∃ k,n - p=k+1:=⟨n - p - 1,by omega⟩
 rw [hk,show n - (p+1)=k by omega,ff]
 cases e p <;> rfl
theorem aax(n a c:Int):kL n a c=some (dg n a c):=by
 unfold kL dg;cases decide (a≤n) <;> rfl
theorem aF2(x0:ByteArray){r:Bool}(hM:L7 x0=some r):bg ab 274 #[.string x0] R H (λ v R' H'=>R=R'∧H=H'∧v = .bool r):=by
 obtain rfl:se x0=r:=aA hM;clear hM
 refine bg.oC (args:=[.string x0]) func274 rfl (n:=28) rfl rfl λ fr cs hk=>?_;refine U.seq ?_;refine U.rg [0] (U.lv 1 ?_);refine U.aT ?_;refine U.seq ?_;refine U.seq ?_;refine U.rg [0,1] (U.lv 1 ?_);refine U.iY rfl rfl rfl (Ox.aIf rfl rfl underlying9 rfl λ b _ _=>⟨_,(.put rfl),?_⟩);refine U.aT ?_;refine U.aY ?_;refine U.loop (λ m R' H' st=>R'=R∧∃ p,m=x0.size - p∧p≤x0.size∧H'=(b,.stringIter x0 p)::H∧aI st [(0,.string x0),(6,.pointer (some ⟨b,0,none⟩))]∧se x0=(ff (pn x0) p (x0.size - p)).getD (dg (x0.size:Int) 1 12)) ?_ (n:=x0.size) ⟨rfl,0,rfl,Nat.zero_le _,rfl,cc.sub ⟨rfl,rfl,trivial⟩,rfl⟩;rintro m _ _ st ⟨rfl,p,rfl,hp,rfl,cU,hl⟩ again;refine U.sub cU (U.seq ?_);refine U.rg [0,1] ?_;by_cases bK:p < x0.size
 ·refine U.iY rfl rfl rfl (Ox.aGW rfl rfl .here bK rfl (.put rfl) ?_);refine U.iY rfl rfl rfl (Ox.extract rfl rfl rfl rfl (.put rfl) ?_);refine U.aT ?_;refine U.seq ?_;refine U.fI rfl rfl ?_;refine U.skip ?_;refine U.aY ?_;refine U.seq ?_;refine U.rg [0,1,2,3] (U.iY rfl rfl rfl (Ox.extract rfl rfl rfl rfl (.put rfl) ?_));refine U.iY rfl rfl rfl (Ox.extract rfl rfl rfl rfl (.put rfl) ?_);refine U.lv 2 ?_;refine U.aT ?_;refine U.seq ?_;refine U.rg [0,1,2,3,4,5,6,7,8,9,10,11,12,13] (U.lv 2 ?_);refine U.is 12 (v':=.int .i64 ((Utf8.decode x0 p).1:Int)) rfl (congrArg _ akq) ?_;refine U.cv m7 (np ((Utf8.decode x0 p).1:Int) 97 122 (aax _ _ _)) ?_;rintro _ _ _ ⟨rfl,rfl,rfl⟩;rw [ar4 bK] at hl
  have hd:=aoB bK
  have af1:dg ((Utf8.decode x0 p).1:Int) 97 122=isLet (nth (iB x0) p):=by
   rcases hd with ⟨h1,_⟩ | ⟨h1,h2⟩
   ·rw [h1]; rfl
   ·rw [(Gq h1).1]; exact (Gq h2).1
  have afZ:dg ((Utf8.decode x0 p).1:Int) 48 57=y8 (nth (iB x0) p):=by
   rcases hd with ⟨h1,_⟩ | ⟨h1,h2⟩
   ·rw [h1]; rfl
   ·rw [(Gq h1).2]; exact (Gq h2).2
  have hw:isLet (nth (iB x0) p)=true∨y8 (nth (iB x0) p)=true→p+(Utf8.decode x0 p).2=p+1:=λ h=>by
   rcases hd with ⟨_,h1⟩ | ⟨h1,_⟩
   ·rw [h1]
   ·rw [(Gq h1).1,(Gq h1).2] at h
    rcases h with h | h <;> cases h
  cases hL:isLet (nth (iB x0) p) with
  | true =>
   refine U.kn 13 (af1.trans hL) (U.lv 11 ?_);refine U.aT ?_;refine U.eF rfl rfl ?_;refine U.skip ?_;refine U.bC ?_;refine again (x0.size - (p+1)) _ _ _ (by omega) ⟨rfl,p+1,rfl,by omega,by rw [hw (.inl hL)],cc.sub ⟨rfl,rfl,trivial⟩,?_⟩;rw [hl]
   unfold pn;rw [hL]
   rfl
  | false =>
   refine U.kn 13 (af1.trans hL) (U.lv 4 ?_);cases hz:(((p:Nat):Int) == 0) with
   | true =>
    have Ps:p=0:=by simpa using hz
    refine U.lv 7 ?_;refine U.aT ?_;refine U.fI rfl rfl ?_;refine U.seq ?_;refine U.rg [0] (U.lv 1 ?_);refine U.aT ?_
    have e:se x0=false:=by
     rw [hl]
     unfold pn;rw [hL,if_pos rfl,if_pos Ps]
     rfl
    exact U.EH func274 (.tmp rfl .nil) (J.drop (List.Sublist.cons _ (List.Sublist.refl _)) (hk _ _ _ ⟨rfl,rfl,by rw [e]; rfl⟩))
   | false =>
    have Ps:p≠0:=by simpa using hz
    refine U.lv 3 ?_;refine U.is 20 (v':=.int .i64 ((Utf8.decode x0 p).1:Int)) rfl (congrArg _ akq) ?_;refine U.cv m7 (np ((Utf8.decode x0 p).1:Int) 48 57 (aax _ _ _)) ?_;rintro _ _ _ ⟨rfl,rfl,rfl⟩;cases hD:y8 (nth (iB x0) p) with
    | true =>
     refine U.kn 21 (afZ.trans hD) (U.lv 3 ?_);refine U.aT ?_;refine U.eF rfl rfl ?_;refine U.skip ?_;refine U.bC ?_;refine again (x0.size - (p+1)) _ _ _ (by omega) ⟨rfl,p+1,rfl,by omega,by rw [hw (.inr hD)],cc.sub ⟨rfl,rfl,trivial⟩,?_⟩;rw [hl]
     unfold pn;rw [hL,hD,if_pos rfl,if_neg Ps]
     rfl
    | false =>
     refine U.kn 21 (afZ.trans hD) (U.lv 3 ?_);refine U.aT ?_;refine U.fI rfl rfl ?_;refine U.seq ?_;refine U.rg [0] (U.lv 1 ?_);refine U.aT ?_
     have e:se x0=false:=by
      rw [hl]
      unfold pn;rw [hL,hD,if_pos rfl,if_neg Ps]
      rfl
     exact U.EH func274 (.tmp rfl .nil) (J.drop (List.Sublist.cons _ (List.Sublist.refl _)) (hk _ _ _ ⟨rfl,rfl,by rw [e]; rfl⟩))
 ·refine U.iY rfl rfl rfl (Ox.aGV rfl rfl (.head _) bK rfl (.put rfl) ?_);refine U.iY rfl rfl rfl (Ox.extract rfl rfl rfl rfl (.put rfl) ?_);refine U.aT ?_;refine U.seq ?_;refine U.eF rfl rfl ?_;refine U.cE rfl ?_;refine U.seq ?_;refine U.rg [0,1,2,3] (U.lv 1 ?_);refine U.iY rfl rfl rfl (Ox.Ql rfl rfl underlying9 rfl (.put rfl) ?_);refine U.cv m7 (np (x0.size:Int) 1 12 (aax _ _ _)) ?_;rintro _ _ _ ⟨rfl,rfl,rfl⟩;refine U.lv 1 ?_;refine U.aT ?_
  have e:se x0=dg (x0.size:Int) 1 12:=by
   rw [hl,show x0.size - p=0 by omega]
   rfl
  exact U.EH func274 (.tmp rfl .nil) (J.drop (List.Sublist.cons _ (List.Sublist.refl _)) (hk _ _ _ ⟨rfl,rfl,by rw [e]; rfl⟩))
end
end Go.Proofs.YtihapemckcdicaaGreatDoor
