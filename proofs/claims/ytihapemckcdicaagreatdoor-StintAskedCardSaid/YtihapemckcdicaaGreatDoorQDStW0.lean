/- The least of the functions. Conditions: none. -/
import Derived.Test.YtihapemckcdicaaGreatDoorQDLgC
import Derived.Test.YtihapemckcdicaaGreatDoorQDStG
import Derived.Test.YtihapemckcdicaaGreatDoorQDStM
namespace Go.Proofs.YtihapemckcdicaaGreatDoor
open Go.Lg Go.Proofs Tryz
set_option maxRecDepth 100000
set_option maxHeartbeats 4000000
section
variable {B:Base} {main:Bool} {ab:Jd prog B main} {R:av} {H:ai}
theorem lJ(x0:Int)(x1:Int)(x2:Int)  {r:Bool} (hM:jE x0 x1 x2=some r):ax ab 139 #[iv x0,iv x1,iv x2] R H (λ v R' H'=>R=R'∧H=H'∧v = .bool r):=by
 unfold jE at hM
 refine ax.bl (args:=[iv x0,iv x1,iv x2]) func139 rfl (n:=15) rfl rfl λ fr cs hk=>?_;refine U.seq ?_;refine U.rg aI ?_;refine U.vs 1 rfl rfl ?_;refine U.aU ?_;refine U.seq ?_;refine bC hM (λ Ah hM=>?_) (λ Ah hM=>?_)
 ·refine U.rg my ?_;refine U.vs 4 rfl rfl ?_;refine U.kn 10 Ah ?_;refine U.vs 5 rfl rfl ?_;refine U.aU ?_;obtain rfl:=aa hM;exact U.Bi func139 (.tmp rfl .nil) (J.drop (List.Sublist.refl _) (hk _ _ _ ⟨rfl,rfl,rfl⟩))
 refine U.rg my ?_;refine U.vs 4 rfl rfl ?_;refine U.kn 10 Ah ?_;refine U.vs 5 rfl rfl ?_;refine U.aU ?_;obtain rfl:=aa hM;exact U.Bi func139 (.tmp rfl .nil) (J.drop (List.Sublist.refl _) (hk _ _ _ ⟨rfl,rfl,rfl⟩))
end
end Go.Proofs.YtihapemckcdicaaGreatDoor
namespace Go.Proofs.YtihapemckcdicaaGreatDoor
open Go.Lg Go.Proofs Tryz
set_option maxRecDepth 100000
set_option maxHeartbeats 4000000
section
variable {B:Base} {main:Bool} {ab:Jd prog B main} {R:av} {H:ai}
theorem agi{s:ByteArray}{p:Nat}(h:p < s.size):nth (gx s) p=((s[p]'h).toNat:Int):=by
 have h1:=fh (l:=gx s) (i:=p) (by rw [L2]; exact h)
 have h2:s.data.toList[p]? = some (s[p]'h):=by
  have h3:p < s.data.toList.length:=by simpa using h
  rw [List.getElem?_eq_getElem h3]
  rfl
 simp only [gx,List.getElem?_map,h2,Option.map_some,Option.some.injEq] at h1
 exact h1.symm
theorem agz{s:ByteArray}{p:Nat}(h:p < s.size):(nth (gx s) p=((Utf8.decode s p).1:Int)∧(Utf8.decode s p).2=1)∨(128≤nth (gx s) p∧(128:Int)≤((Utf8.decode s p).1:Int)):=by
 rw [agi h]
 rcases Nat.lt_or_ge (s[p]'h).toNat 128 with h1 | h1
 ·left
  rw [decode_ascii s p h h1]
  exact ⟨rfl,rfl⟩
 ·right
  have:=(decode_high s p h h1).1
  omega
theorem CV{n:Int}(h:128≤n):isLet n=false∧v8 n=false:=by
 simp only [isLet,v8,cw,Bool.and_eq_false_iff,decide_eq_false_iff_not]
 omega
theorem acF{s:ByteArray}{p:Nat}:IntKind.wrap .i64 ((Utf8.decode s p).1:Int)=((Utf8.decode s p).1:Int):=by
 have:=decode_le s p
 exact KS (by omega)
theorem ajy{e:Nat→Option Bool}{p n:Nat}(h:p < n):eH e p (n - p)=match e p with | some o=>some o | none=>eH e (p+1) (n - (p+1)):=by
 obtain ⟨k,hk⟩:∃ k,n - p=k+1:=⟨n - p - 1,by omega⟩
 rw [hk,show n - (p+1)=k by omega,eH]
 cases e p <;> rfl
theorem Tf(n a c:Int):jE n a c=some (cw n a c):=by
 unfold jE cw;cases decide (a≤n) <;> rfl
theorem auR(x0:ByteArray){r:Bool}(hM:Lf x0=some r):ax ab 274 #[.string x0] R H (λ v R' H'=>R=R'∧H=H'∧v = .bool r):=by
 obtain rfl:pH x0=r:=aa hM;clear hM
 refine ax.bl (args:=[.string x0]) func274 rfl (n:=28) rfl rfl λ fr cs hk=>?_;refine U.seq ?_;refine U.rg [0] ?_;refine U.lv 1 ?_;refine U.aU ?_;refine U.seq ?_;refine U.seq ?_;refine U.rg [0,1] ?_;refine U.lv 1 ?_;refine U.gR rfl rfl rfl (Ox.awf rfl rfl underlying9 rfl λ b _ _=>⟨_,(.put rfl),?_⟩);refine U.aU ?_;refine U.block ?_;refine U.loop (λ m R' H' st=>R'=R∧∃ p,m=x0.size - p∧p≤x0.size∧H'=(b,.stringIter x0 p)::H∧aF st [(0,.string x0),(6,.pointer (some ⟨b,0,none⟩))]∧pH x0=(eH (np x0) p (x0.size - p)).getD (cw (x0.size:Int) 1 12)) ?_ (n:=x0.size) ⟨rfl,0,rfl,Nat.zero_le _,rfl,bS.sub ⟨rfl,rfl,trivial⟩,rfl⟩;rintro m _ _ st ⟨rfl,p,rfl,hp,rfl,cJ,hl⟩ again;refine U.sub cJ ?_;refine U.seq ?_;refine U.rg [0,1] ?_;by_cases bJ:p < x0.size
 ·refine U.gR rfl rfl rfl (Ox.avm rfl rfl .here bJ rfl (.put rfl) ?_);refine U.gR rfl rfl rfl (Ox.extract rfl rfl rfl rfl (.put rfl) ?_);refine U.aU ?_;refine U.seq ?_;refine U.fe rfl rfl ?_;refine U.skip ?_;refine U.block ?_;refine U.seq ?_;refine U.rg [0,1,2,3] ?_;refine U.gR rfl rfl rfl (Ox.extract rfl rfl rfl rfl (.put rfl) ?_);refine U.gR rfl rfl rfl (Ox.extract rfl rfl rfl rfl (.put rfl) ?_);refine U.lv 2 ?_;refine U.aU ?_;refine U.seq ?_;refine U.rg [0,1,2,3,4,5,6,7,8,9,10,11,12,13] ?_;refine U.lv 2 ?_;refine U.is 12 (v':=.int .i64 ((Utf8.decode x0 p).1:Int)) rfl (congrArg _ acF) ?_;refine U.cv lB (lJ ((Utf8.decode x0 p).1:Int) 97 122 (Tf _ _ _)) ?_;rintro _ _ _ ⟨rfl,rfl,rfl⟩;rw [ajy bJ] at hl
  have hd:=agz bJ
  have Y7:cw ((Utf8.decode x0 p).1:Int) 97 122=isLet (nth (gx x0) p):=by
   rcases hd with ⟨h1,_⟩ | ⟨h1,h2⟩
   ·rw [h1]; rfl
   ·rw [(CV h1).1]; exact (CV h2).1
  have Y4:cw ((Utf8.decode x0 p).1:Int) 48 57=v8 (nth (gx x0) p):=by
   rcases hd with ⟨h1,_⟩ | ⟨h1,h2⟩
   ·rw [h1]; rfl
   ·rw [(CV h1).2]; exact (CV h2).2
  have hw:isLet (nth (gx x0) p)=true∨v8 (nth (gx x0) p)=true→p+(Utf8.decode x0 p).2=p+1:=λ h=>by
   rcases hd with ⟨_,h1⟩ | ⟨h1,_⟩
   ·rw [h1]
   ·rw [(CV h1).1,(CV h1).2] at h
    rcases h with h | h <;> cases h
  cases hL:isLet (nth (gx x0) p) with
  | true =>
   refine U.kn 13 (Y7.trans hL) ?_;refine U.lv 11 ?_;refine U.aU ?_;refine U.dW rfl rfl ?_;refine U.skip ?_;refine U.inBlock ?_;refine again (x0.size - (p+1)) _ _ _ (by omega) ⟨rfl,p+1,rfl,by omega,by rw [hw (.inl hL)],bS.sub ⟨rfl,rfl,trivial⟩,?_⟩;rw [hl]
   unfold np;rw [hL]
   rfl
  | false =>
   refine U.kn 13 (Y7.trans hL) ?_;refine U.lv 4 ?_;cases hz:(((p:Nat):Int) == 0) with
   | true =>
    have Kx:p=0:=by simpa using hz
    refine U.lv 7 ?_;refine U.aU ?_;refine U.fe rfl rfl ?_;refine U.seq ?_;refine U.rg [0] ?_;refine U.lv 1 ?_;refine U.aU ?_
    have e:pH x0=false:=by
     rw [hl]
     unfold np;rw [hL,if_pos rfl,if_pos Kx]
     rfl
    exact U.Bi func274 (.tmp rfl .nil) (J.drop (List.Sublist.cons _ (List.Sublist.refl _)) (hk _ _ _ ⟨rfl,rfl,by rw [e]; rfl⟩))
   | false =>
    have Kx:p≠0:=by simpa using hz
    refine U.lv 3 ?_;refine U.is 20 (v':=.int .i64 ((Utf8.decode x0 p).1:Int)) rfl (congrArg _ acF) ?_;refine U.cv lB (lJ ((Utf8.decode x0 p).1:Int) 48 57 (Tf _ _ _)) ?_;rintro _ _ _ ⟨rfl,rfl,rfl⟩;cases hD:v8 (nth (gx x0) p) with
    | true =>
     refine U.kn 21 (Y4.trans hD) ?_;refine U.lv 3 ?_;refine U.aU ?_;refine U.dW rfl rfl ?_;refine U.skip ?_;refine U.inBlock ?_;refine again (x0.size - (p+1)) _ _ _ (by omega) ⟨rfl,p+1,rfl,by omega,by rw [hw (.inr hD)],bS.sub ⟨rfl,rfl,trivial⟩,?_⟩;rw [hl]
     unfold np;rw [hL,hD,if_pos rfl,if_neg Kx]
     rfl
    | false =>
     refine U.kn 21 (Y4.trans hD) ?_;refine U.lv 3 ?_;refine U.aU ?_;refine U.fe rfl rfl ?_;refine U.seq ?_;refine U.rg [0] ?_;refine U.lv 1 ?_;refine U.aU ?_
     have e:pH x0=false:=by
      rw [hl]
      unfold np;rw [hL,hD,if_pos rfl,if_neg Kx]
      rfl
     exact U.Bi func274 (.tmp rfl .nil) (J.drop (List.Sublist.cons _ (List.Sublist.refl _)) (hk _ _ _ ⟨rfl,rfl,by rw [e]; rfl⟩))
 ·refine U.gR rfl rfl rfl (Ox.avl rfl rfl (.head _) bJ rfl (.put rfl) ?_);refine U.gR rfl rfl rfl (Ox.extract rfl rfl rfl rfl (.put rfl) ?_);refine U.aU ?_;refine U.seq ?_;refine U.dW rfl rfl ?_;refine U.exit rfl ?_;refine U.seq ?_;refine U.rg [0,1,2,3] ?_;refine U.lv 1 ?_;refine U.gR rfl rfl rfl (Ox.K3 rfl rfl underlying9 rfl (.put rfl) ?_);refine U.cv lB (lJ (x0.size:Int) 1 12 (Tf _ _ _)) ?_;rintro _ _ _ ⟨rfl,rfl,rfl⟩;refine U.lv 1 ?_;refine U.aU ?_
  have e:pH x0=cw (x0.size:Int) 1 12:=by
   rw [hl,show x0.size - p=0 by omega]
   rfl
  exact U.Bi func274 (.tmp rfl .nil) (J.drop (List.Sublist.cons _ (List.Sublist.refl _)) (hk _ _ _ ⟨rfl,rfl,by rw [e]; rfl⟩))
end
end Go.Proofs.YtihapemckcdicaaGreatDoor
