/- The least of the functions. Conditions: none. -/
import Derived.Test.YtihapemckcdicaaGreatDoorQYLgC
import Derived.Test.YtihapemckcdicaaGreatDoorQYStG
import Derived.Test.YtihapemckcdicaaGreatDoorQYStM
namespace Go.Proofs.YtihapemckcdicaaGreatDoor
open Go.Lg Go.Proofs Tryz
set_option maxRecDepth 100000
set_option maxHeartbeats 4000000
section
variable {B:Base} {main:Bool} {ab:Jd prog B main} {R:ax} {H:ai}
theorem fG(x0:Int)(x1:Int)(x2:Int)  {r:Bool} (a:eP x0 x1 x2=some r):aP ab 139 #[iv x0,iv x1,iv x2] R H (λ v R' H'=>R=R'∧H=H'∧v = .bool r):=by
 unfold eP at a
 refine aP.gu (args:=[iv x0,iv x1,iv x2]) func139 rfl (n:=15) rfl rfl λ fr cs c=>?_;refine U.seq ?_;refine U.rg aC (U.vs 1 rfl rfl ?_);refine U.aK ?_;refine U.seq ?_;refine a7 a (λ b a=>?_) (λ b a=>?_)
 ·refine U.rg e0 (U.vs 4 rfl rfl ?_);refine U.kn 10 b (U.vs 5 rfl rfl ?_);refine U.aK ?_;obtain rfl:=ay a;exact U.n2 func139 (.tmp rfl .nil) (J.drop (List.Sublist.refl _) (c _ _ _ ⟨rfl,rfl,rfl⟩))
 refine U.rg e0 (U.vs 4 rfl rfl ?_);refine U.kn 10 b (U.vs 5 rfl rfl ?_);refine U.aK ?_;obtain rfl:=ay a;exact U.n2 func139 (.tmp rfl .nil) (J.drop (List.Sublist.refl _) (c _ _ _ ⟨rfl,rfl,rfl⟩))
end
section
variable {B:Base} {main:Bool} {ab:Jd prog B main} {R:ax} {H:ai}
theorem EI{s:ByteArray}{p:Nat}(h:p < s.size):nth (dT s) p=((s[p]'h).toNat:Int):=by
 have h1:=a5 (l:=dT s) (i:=p) (by rw [uf]; exact h)
 have h2:s.data.toList[p]? = some (s[p]'h):=by
  have h3:p < s.data.toList.length:=by simpa using h
  rw [ez h3]
  rfl
 simp only [dT,List.getElem?_map,h2,Option.map_some,eh] at h1
 exact h1.symm
theorem E5{s:ByteArray}{p:Nat}(h:p < s.size):(nth (dT s) p=((Utf8.decode s p).1:Int)∧(Utf8.decode s p).2=1)∨(128≤nth (dT s) p∧(128:Int)≤((Utf8.decode s p).1:Int)):=by
 rw [EI h]
 rcases Nat.lt_or_ge (s[p]'h).toNat 128 with h1 | h1
 ·left
  rw [decode_ascii s p h h1]
  exact ⟨rfl,rfl⟩
 ·right
  have:=(decode_high s p h h1).1
  omega
theorem oC{n:Int}(h:128≤n):isLet n=false∧kF n=false:=by
 simp only [isLet,kF,bL,Bool.and_eq_false_iff,decide_eq_false_iff_not]
 omega
theorem DQ{s:ByteArray}{p:Nat}:IntKind.wrap .i64 ((Utf8.decode s p).1:Int)=((Utf8.decode s p).1:Int):=by
 have:=decode_le s p
 exact sN (by omega)
theorem H4{e:Nat→Option Bool}{p n:Nat}(h:p < n):cE e p (n - p)=match e p with | some o=>some o | none=>cE e (p+1) (n - (p+1)):=by
 obtain ⟨k,a⟩:∃ k,n - p=k+1:=⟨n - p - 1,by omega⟩
 rw [a,show n - (p+1)=k by omega,cE]
 cases e p <;> rfl
theorem wP(n a c:Int):eP n a c=some (bL n a c):=by
 unfold eP bL;cases decide (a≤n) <;> rfl
theorem L7(x0:ByteArray){r:Bool}(i:qK x0=some r):aP ab 274 #[.string x0] R H (λ v R' H'=>R=R'∧H=H'∧v = .bool r):=by
 obtain rfl:gW x0=r:=ay i;clear i
 refine aP.gu (args:=[.string x0]) func274 rfl (n:=28) rfl rfl λ fr cs g=>?_;refine U.seq ?_;refine U.rg [0] (U.lv 1 ?_);refine U.aK ?_;refine U.seq ?_;refine U.seq ?_;refine U.rg [0,1] (U.lv 1 ?_);refine U.eg rfl rfl rfl (Ox.NQ rfl rfl underlying9 rfl λ b _ _=>⟨_,(.put rfl),?_⟩);refine U.aK ?_;refine U.aR ?_;refine U.loop (λ m R' H' st=>R'=R∧∃ p,m=x0.size - p∧p≤x0.size∧H'=(b,.stringIter x0 p)::H∧aA st [(0,.string x0),(6,.pointer (some ⟨b,0,none⟩))]∧gW x0=(cE (gq x0) p (x0.size - p)).getD (bL (x0.size:Int) 1 12)) ?_ (n:=x0.size) ⟨rfl,0,rfl,Nat.zero_le _,rfl,bz.sub ⟨rfl,rfl,trivial⟩,rfl⟩;rintro m _ _ st ⟨rfl,p,rfl,q,rfl,o,hl⟩ again;refine U.sub o (U.seq ?_);refine U.rg [0,1] ?_;by_cases d:p < x0.size
 ·refine U.eg rfl rfl rfl (Ox.M4 rfl rfl .here d rfl (.put rfl) ?_);refine U.eg rfl rfl rfl (Ox.extract rfl rfl rfl rfl (.put rfl) ?_);refine U.aK ?_;refine U.seq ?_;refine U.c5 rfl rfl ?_;refine U.skip ?_;refine U.aR ?_;refine U.seq ?_;refine U.rg [0,1,2,3] (U.eg rfl rfl rfl (Ox.extract rfl rfl rfl rfl (.put rfl) ?_));refine U.eg rfl rfl rfl (Ox.extract rfl rfl rfl rfl (.put rfl) ?_);refine U.lv 2 ?_;refine U.aK ?_;refine U.seq ?_;refine U.rg [0,1,2,3,4,5,6,7,8,9,10,11,12,13] (U.lv 2 ?_);refine U.is 12 (v':=.int .i64 ((Utf8.decode x0 p).1:Int)) rfl (congrArg _ DQ) ?_;refine U.cv fD (fG ((Utf8.decode x0 p).1:Int) 97 122 (wP _ _ _)) ?_;rintro _ _ _ ⟨rfl,rfl,rfl⟩;rw [H4 d] at hl
  have hd:=E5 d
  have k:bL ((Utf8.decode x0 p).1:Int) 97 122=isLet (nth (dT x0) p):=by
   rcases hd with ⟨h1,_⟩ | ⟨h1,h2⟩
   ·rw [h1]; rfl
   ·rw [(oC h1).1]; exact (oC h2).1
  have j:bL ((Utf8.decode x0 p).1:Int) 48 57=kF (nth (dT x0) p):=by
   rcases hd with ⟨h1,_⟩ | ⟨h1,h2⟩
   ·rw [h1]; rfl
   ·rw [(oC h1).2]; exact (oC h2).2
  have hw:isLet (nth (dT x0) p)=true∨kF (nth (dT x0) p)=true→p+(Utf8.decode x0 p).2=p+1:=λ h=>by
   rcases hd with ⟨_,h1⟩ | ⟨h1,_⟩
   ·rw [h1]
   ·rw [(oC h1).1,(oC h1).2] at h
    rcases h with h | h <;> cases h
  cases a:isLet (nth (dT x0) p) with
  | true =>
   refine U.kn 13 (k.trans a) (U.lv 11 ?_);refine U.aK ?_;refine U.cw rfl rfl ?_;refine U.skip ?_;refine U.a9 ?_;refine again (x0.size - (p+1)) _ _ _ (by omega) ⟨rfl,p+1,rfl,by omega,by rw [hw (.inl a)],bz.sub ⟨rfl,rfl,trivial⟩,?_⟩;rw [hl]
   unfold gq;rw [a]
   rfl
  | false =>
   refine U.kn 13 (k.trans a) (U.lv 4 ?_);cases l:(((p:Nat):Int) == 0) with
   | true =>
    have f:p=0:=by simpa using l
    refine U.lv 7 ?_;refine U.aK ?_;refine U.c5 rfl rfl ?_;refine U.seq ?_;refine U.rg [0] (U.lv 1 ?_);refine U.aK ?_
    have e:gW x0=false:=by
     rw [hl]
     unfold gq;rw [a,if_pos rfl,if_pos f]
     rfl
    exact U.n2 func274 (.tmp rfl .nil) (J.drop (List.Sublist.cons _ (List.Sublist.refl _)) (g _ _ _ ⟨rfl,rfl,by rw [e]; rfl⟩))
   | false =>
    have f:p≠0:=by simpa using l
    refine U.lv 3 ?_;refine U.is 20 (v':=.int .i64 ((Utf8.decode x0 p).1:Int)) rfl (congrArg _ DQ) ?_;refine U.cv fD (fG ((Utf8.decode x0 p).1:Int) 48 57 (wP _ _ _)) ?_;rintro _ _ _ ⟨rfl,rfl,rfl⟩;cases c:kF (nth (dT x0) p) with
    | true =>
     refine U.kn 21 (j.trans c) (U.lv 3 ?_);refine U.aK ?_;refine U.cw rfl rfl ?_;refine U.skip ?_;refine U.a9 ?_;refine again (x0.size - (p+1)) _ _ _ (by omega) ⟨rfl,p+1,rfl,by omega,by rw [hw (.inr c)],bz.sub ⟨rfl,rfl,trivial⟩,?_⟩;rw [hl]
     unfold gq;rw [a,c,if_pos rfl,if_neg f]
     rfl
    | false =>
     refine U.kn 21 (j.trans c) (U.lv 3 ?_);refine U.aK ?_;refine U.c5 rfl rfl ?_;refine U.seq ?_;refine U.rg [0] (U.lv 1 ?_);refine U.aK ?_
     have e:gW x0=false:=by
      rw [hl]
      unfold gq;rw [a,c,if_pos rfl,if_neg f]
      rfl
     exact U.n2 func274 (.tmp rfl .nil) (J.drop (List.Sublist.cons _ (List.Sublist.refl _)) (g _ _ _ ⟨rfl,rfl,by rw [e]; rfl⟩))
 ·refine U.eg rfl rfl rfl (Ox.M3 rfl rfl (.head _) d rfl (.put rfl) ?_);refine U.eg rfl rfl rfl (Ox.extract rfl rfl rfl rfl (.put rfl) ?_);refine U.aK ?_;refine U.seq ?_;refine U.cw rfl rfl ?_;refine U.bD rfl ?_;refine U.seq ?_;refine U.rg [0,1,2,3] (U.lv 1 ?_);refine U.eg rfl rfl rfl (Ox.s5 rfl rfl underlying9 rfl (.put rfl) ?_);refine U.cv fD (fG (x0.size:Int) 1 12 (wP _ _ _)) ?_;rintro _ _ _ ⟨rfl,rfl,rfl⟩;refine U.lv 1 ?_;refine U.aK ?_
  have e:gW x0=bL (x0.size:Int) 1 12:=by
   rw [hl,show x0.size - p=0 by omega]
   rfl
  exact U.n2 func274 (.tmp rfl .nil) (J.drop (List.Sublist.cons _ (List.Sublist.refl _)) (g _ _ _ ⟨rfl,rfl,by rw [e]; rfl⟩))
end
end Go.Proofs.YtihapemckcdicaaGreatDoor
