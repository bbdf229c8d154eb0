/- The least of the functions. Conditions: none. -/
import Derived.Test.YtihapemckcdicaaGreatDoorQFLgC
import Derived.Test.YtihapemckcdicaaGreatDoorQFStG
import Derived.Test.YtihapemckcdicaaGreatDoorQFStM
namespace Go.Proofs.YtihapemckcdicaaGreatDoor
open Go.Lg Go.Proofs Tryz
set_option maxRecDepth 100000
set_option maxHeartbeats 4000000
section
variable {B:Base} {main:Bool} {ae:Jd prog B main} {R:ax} {H:an}
theorem mI(x0:Int)(x1:Int)(x2:Int)  {r:Bool} (hM:ko x0 x1 x2=some r):aB ae 139 #[iv x0,iv x1,iv x2] R H (λ v R' H'=>R=R'∧H=H'∧v = .bool r):=by
 unfold ko at hM
 refine aB.bn (args:=[iv x0,iv x1,iv x2]) func139 rfl (n:=15) rfl rfl λ fr cs hk=>?_;refine U.seq ?_;refine U.rg aK (U.vs 1 rfl rfl ?_);refine U.aV ?_;refine U.seq ?_;refine bL hM (λ Bt hM=>?_) (λ Bt hM=>?_)
 ·refine U.rg lg (U.vs 4 rfl rfl ?_);refine U.kn 10 Bt (U.vs 5 rfl rfl ?_);refine U.aV ?_;obtain rfl:=ab hM;exact U.CK func139 (.tmp rfl .nil) (J.drop (List.Sublist.refl _) (hk _ _ _ ⟨rfl,rfl,rfl⟩))
 refine U.rg lg (U.vs 4 rfl rfl ?_);refine U.kn 10 Bt (U.vs 5 rfl rfl ?_);refine U.aV ?_;obtain rfl:=ab hM;exact U.CK func139 (.tmp rfl .nil) (J.drop (List.Sublist.refl _) (hk _ _ _ ⟨rfl,rfl,rfl⟩))
end
end Go.Proofs.YtihapemckcdicaaGreatDoor
namespace Go.Proofs.YtihapemckcdicaaGreatDoor
open Go.Lg Go.Proofs Tryz
set_option maxRecDepth 100000
set_option maxHeartbeats 4000000
section
variable {B:Base} {main:Bool} {ae:Jd prog B main} {R:ax} {H:an}
theorem ajk{s:ByteArray}{p:Nat}(h:p < s.size):nth (gP s) p=((s[p]'h).toNat:Int):=by
 have h1:=dQ (l:=gP s) (i:=p) (by rw [Og]; exact h)
 have h2:s.data.toList[p]? = some (s[p]'h):=by
  have h3:p < s.data.toList.length:=by simpa using h
  rw [List.getElem?_eq_getElem h3]
  rfl
 simp only [gP,List.getElem?_map,h2,Option.map_some,Option.some.injEq] at h1
 exact h1.symm
theorem ajD{s:ByteArray}{p:Nat}(h:p < s.size):(nth (gP s) p=((Utf8.decode s p).1:Int)∧(Utf8.decode s p).2=1)∨(128≤nth (gP s) p∧(128:Int)≤((Utf8.decode s p).1:Int)):=by
 rw [ajk h]
 rcases Nat.lt_or_ge (s[p]'h).toNat 128 with h1 | h1
 ·left
  rw [decode_ascii s p h h1]
  exact ⟨rfl,rfl⟩
 ·right
  have:=(decode_high s p h h1).1
  omega
theorem EA{n:Int}(h:128≤n):isLet n=false∧xp n=false:=by
 simp only [isLet,xp,cD,Bool.and_eq_false_iff,decide_eq_false_iff_not]
 omega
theorem afX{s:ByteArray}{p:Nat}:IntKind.wrap .i64 ((Utf8.decode s p).1:Int)=((Utf8.decode s p).1:Int):=by
 have:=decode_le s p
 exact MV (by omega)
theorem amU{e:Nat→Option Bool}{p n:Nat}(h:p < n):eL e p (n - p)=match e p with | some o=>some o | none=>eL e (p+1) (n - (p+1)):=by
 obtain ⟨k,hk⟩:∃ k,n - p=k+1:=⟨n - p - 1,by omega⟩
 rw [hk,show n - (p+1)=k by omega,eL]
 cases e p <;> rfl
theorem Wr(n a c:Int):ko n a c=some (cD n a c):=by
 unfold ko cD;cases decide (a≤n) <;> rfl
theorem aAK(x0:ByteArray){r:Bool}(hM:JC x0=some r):aB ae 274 #[.string x0] R H (λ v R' H'=>R=R'∧H=H'∧v = .bool r):=by
 obtain rfl:o6 x0=r:=ab hM;clear hM
 refine aB.bn (args:=[.string x0]) func274 rfl (n:=28) rfl rfl λ fr cs hk=>?_;refine U.seq ?_;refine U.rg [0] (U.lv 1 ?_);refine U.aV ?_;refine U.seq ?_;refine U.seq ?_;refine U.rg [0,1] (U.lv 1 ?_);refine U.ix rfl rfl rfl (Ox.aCH rfl rfl underlying9 rfl λ b _ _=>⟨_,(.put rfl),?_⟩);refine U.aV ?_;refine U.block (U.loop (λ m R' H' st=>R'=R∧∃ p,m=x0.size - p∧p≤x0.size∧H'=(b,.stringIter x0 p)::H∧aF st [(0,.string x0),(6,.pointer (some ⟨b,0,none⟩))]∧o6 x0=(eL (nK x0) p (x0.size - p)).getD (cD (x0.size:Int) 1 12)) ?_ (n:=x0.size) ⟨rfl,0,rfl,Nat.zero_le _,rfl,bU.sub ⟨rfl,rfl,trivial⟩,rfl⟩);rintro m _ _ st ⟨rfl,p,rfl,hp,rfl,cL,hl⟩ again;refine U.sub cL (U.seq ?_);refine U.rg [0,1] ?_;by_cases bE:p < x0.size
 ·refine U.ix rfl rfl rfl (Ox.aBC rfl rfl .here bE rfl (.put rfl) ?_);refine U.ix rfl rfl rfl (Ox.extract rfl rfl rfl rfl (.put rfl) ?_);refine U.aV ?_;refine U.seq ?_;refine U.fu rfl rfl ?_;refine U.skip ?_;refine U.block (U.seq ?_);refine U.rg [0,1,2,3] (U.ix rfl rfl rfl (Ox.extract rfl rfl rfl rfl (.put rfl) ?_));refine U.ix rfl rfl rfl (Ox.extract rfl rfl rfl rfl (.put rfl) ?_);refine U.lv 2 ?_;refine U.aV ?_;refine U.seq ?_;refine U.rg [0,1,2,3,4,5,6,7,8,9,10,11,12,13] (U.lv 2 ?_);refine U.is 12 (v':=.int .i64 ((Utf8.decode x0 p).1:Int)) rfl (congrArg _ afX) ?_;refine U.cv mi (mI ((Utf8.decode x0 p).1:Int) 97 122 (Wr _ _ _)) ?_;rintro _ _ _ ⟨rfl,rfl,rfl⟩;rw [amU bE] at hl
  have hd:=ajD bE
  have abY:cD ((Utf8.decode x0 p).1:Int) 97 122=isLet (nth (gP x0) p):=by
   rcases hd with ⟨h1,_⟩ | ⟨h1,h2⟩
   ·rw [h1]; rfl
   ·rw [(EA h1).1]; exact (EA h2).1
  have abW:cD ((Utf8.decode x0 p).1:Int) 48 57=xp (nth (gP x0) p):=by
   rcases hd with ⟨h1,_⟩ | ⟨h1,h2⟩
   ·rw [h1]; rfl
   ·rw [(EA h1).2]; exact (EA h2).2
  have hw:isLet (nth (gP x0) p)=true∨xp (nth (gP x0) p)=true→p+(Utf8.decode x0 p).2=p+1:=λ h=>by
   rcases hd with ⟨_,h1⟩ | ⟨h1,_⟩
   ·rw [h1]
   ·rw [(EA h1).1,(EA h1).2] at h
    rcases h with h | h <;> cases h
  cases hL:isLet (nth (gP x0) p) with
  | true =>
   refine U.kn 13 (abY.trans hL) (U.lv 11 ?_);refine U.aV ?_;refine U.eD rfl rfl ?_;refine U.skip ?_;refine U.inBlock ?_;refine again (x0.size - (p+1)) _ _ _ (by omega) ⟨rfl,p+1,rfl,by omega,by rw [hw (.inl hL)],bU.sub ⟨rfl,rfl,trivial⟩,?_⟩;rw [hl]
   unfold nK;rw [hL]
   rfl
  | false =>
   refine U.kn 13 (abY.trans hL) (U.lv 4 ?_);cases hz:(((p:Nat):Int) == 0) with
   | true =>
    have MB:p=0:=by simpa using hz
    refine U.lv 7 ?_;refine U.aV ?_;refine U.fu rfl rfl ?_;refine U.seq ?_;refine U.rg [0] (U.lv 1 ?_);refine U.aV ?_
    have e:o6 x0=false:=by
     rw [hl]
     unfold nK;rw [hL,if_pos rfl,if_pos MB]
     rfl
    exact U.CK func274 (.tmp rfl .nil) (J.drop (List.Sublist.cons _ (List.Sublist.refl _)) (hk _ _ _ ⟨rfl,rfl,by rw [e]; rfl⟩))
   | false =>
    have MB:p≠0:=by simpa using hz
    refine U.lv 3 ?_;refine U.is 20 (v':=.int .i64 ((Utf8.decode x0 p).1:Int)) rfl (congrArg _ afX) ?_;refine U.cv mi (mI ((Utf8.decode x0 p).1:Int) 48 57 (Wr _ _ _)) ?_;rintro _ _ _ ⟨rfl,rfl,rfl⟩;cases hD:xp (nth (gP x0) p) with
    | true =>
     refine U.kn 21 (abW.trans hD) (U.lv 3 ?_);refine U.aV ?_;refine U.eD rfl rfl ?_;refine U.skip ?_;refine U.inBlock ?_;refine again (x0.size - (p+1)) _ _ _ (by omega) ⟨rfl,p+1,rfl,by omega,by rw [hw (.inr hD)],bU.sub ⟨rfl,rfl,trivial⟩,?_⟩;rw [hl]
     unfold nK;rw [hL,hD,if_pos rfl,if_neg MB]
     rfl
    | false =>
     refine U.kn 21 (abW.trans hD) (U.lv 3 ?_);refine U.aV ?_;refine U.fu rfl rfl ?_;refine U.seq ?_;refine U.rg [0] (U.lv 1 ?_);refine U.aV ?_
     have e:o6 x0=false:=by
      rw [hl]
      unfold nK;rw [hL,hD,if_pos rfl,if_neg MB]
      rfl
     exact U.CK func274 (.tmp rfl .nil) (J.drop (List.Sublist.cons _ (List.Sublist.refl _)) (hk _ _ _ ⟨rfl,rfl,by rw [e]; rfl⟩))
 ·refine U.ix rfl rfl rfl (Ox.aBB rfl rfl (.head _) bE rfl (.put rfl) ?_);refine U.ix rfl rfl rfl (Ox.extract rfl rfl rfl rfl (.put rfl) ?_);refine U.aV ?_;refine U.seq ?_;refine U.eD rfl rfl ?_;refine U.exit rfl ?_;refine U.seq ?_;refine U.rg [0,1,2,3] (U.lv 1 ?_);refine U.ix rfl rfl rfl (Ox.M6 rfl rfl underlying9 rfl (.put rfl) ?_);refine U.cv mi (mI (x0.size:Int) 1 12 (Wr _ _ _)) ?_;rintro _ _ _ ⟨rfl,rfl,rfl⟩;refine U.lv 1 ?_;refine U.aV ?_
  have e:o6 x0=cD (x0.size:Int) 1 12:=by
   rw [hl,show x0.size - p=0 by omega]
   rfl
  exact U.CK func274 (.tmp rfl .nil) (J.drop (List.Sublist.cons _ (List.Sublist.refl _)) (hk _ _ _ ⟨rfl,rfl,by rw [e]; rfl⟩))
end
end Go.Proofs.YtihapemckcdicaaGreatDoor
