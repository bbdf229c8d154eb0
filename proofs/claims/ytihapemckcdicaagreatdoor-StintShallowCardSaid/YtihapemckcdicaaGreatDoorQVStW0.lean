/- The least of the functions. Conditions: none. -/
import Derived.Test.YtihapemckcdicaaGreatDoorQVLgC
import Derived.Test.YtihapemckcdicaaGreatDoorQVStG
import Derived.Test.YtihapemckcdicaaGreatDoorQVStM
namespace Go.Proofs.YtihapemckcdicaaGreatDoor
open Go.Lg Go.Proofs Tryz
set_option maxRecDepth 100000
set_option maxHeartbeats 4000000
section
variable {B:Base} {main:Bool} {ae:Jd prog B main} {R:ax} {H:aj}
theorem mK(x0:Int)(x1:Int)(x2:Int)  {r:Bool} (hM:j8 x0 x1 x2=some r):az ae 139 #[iv x0,iv x1,iv x2] R H (λ v R' H'=>R=R'∧H=H'∧v = .bool r):=by
 unfold j8 at hM
 refine az.bq (args:=[iv x0,iv x1,iv x2]) func139 rfl (n:=15) rfl rfl λ fr cs hk=>?_;refine At.seq ?_;refine At.rg aC (At.vs 1 rfl rfl ?_);refine At.aP ?_;refine At.seq ?_;refine bK hM (λ BS hM=>?_) (λ BS hM=>?_)
 ·refine At.rg mg (At.vs 4 rfl rfl ?_);refine At.kn 10 BS (At.vs 5 rfl rfl ?_);refine At.aP ?_;obtain rfl:=aa hM;exact At.C6 func139 (.tmp rfl .nil) (J.drop (List.Sublist.refl _) (hk _ _ _ ⟨rfl,rfl,rfl⟩))
 refine At.rg mg (At.vs 4 rfl rfl ?_);refine At.kn 10 BS (At.vs 5 rfl rfl ?_);refine At.aP ?_;obtain rfl:=aa hM;exact At.C6 func139 (.tmp rfl .nil) (J.drop (List.Sublist.refl _) (hk _ _ _ ⟨rfl,rfl,rfl⟩))
end
end Go.Proofs.YtihapemckcdicaaGreatDoor
namespace Go.Proofs.YtihapemckcdicaaGreatDoor
open Go.Lg Go.Proofs Tryz
set_option maxRecDepth 100000
set_option maxHeartbeats 4000000
section
variable {B:Base} {main:Bool} {ae:Jd prog B main} {R:ax} {H:aj}
theorem akz{s:ByteArray}{p:Nat}(h:p < s.size):nth (gN s) p=((s[p]'h).toNat:Int):=by
 have h1:=cp (l:=gN s) (i:=p) (by rw [OG]; exact h)
 have h2:s.data.toList[p]? = some (s[p]'h):=by
  have h3:p < s.data.toList.length:=by simpa using h
  rw [List.getElem?_eq_getElem h3]
  rfl
 simp only [gN,List.getElem?_map,h2,Option.map_some,Option.some.injEq] at h1
 exact h1.symm
theorem akN{s:ByteArray}{p:Nat}(h:p < s.size):(nth (gN s) p=((Utf8.decode s p).1:Int)∧(Utf8.decode s p).2=1)∨(128≤nth (gN s) p∧(128:Int)≤((Utf8.decode s p).1:Int)):=by
 rw [akz h]
 rcases Nat.lt_or_ge (s[p]'h).toNat 128 with h1 | h1
 ·left
  rw [decode_ascii s p h h1]
  exact ⟨rfl,rfl⟩
 ·right
  have:=(decode_high s p h h1).1
  omega
theorem EW{n:Int}(h:128≤n):isLet n=false∧xv n=false:=by
 simp only [isLet,xv,c7,Bool.and_eq_false_iff,decide_eq_false_iff_not]
 omega
theorem agN{s:ByteArray}{p:Nat}:IntKind.wrap .i64 ((Utf8.decode s p).1:Int)=((Utf8.decode s p).1:Int):=by
 have:=decode_le s p
 exact Nu (by omega)
theorem anV{e:Nat→Option Bool}{p n:Nat}(h:p < n):eZ e p (n - p)=match e p with | some o=>some o | none=>eZ e (p+1) (n - (p+1)):=by
 obtain ⟨k,hk⟩:∃ k,n - p=k+1:=⟨n - p - 1,by omega⟩
 rw [hk,show n - (p+1)=k by omega,eZ]
 cases e p <;> rfl
theorem WX(n a c:Int):j8 n a c=some (c7 n a c):=by
 unfold j8 c7;cases decide (a≤n) <;> rfl
theorem aES(x0:ByteArray){r:Bool}(hM:J2 x0=some r):az ae 274 #[.string x0] R H (λ v R' H'=>R=R'∧H=H'∧v = .bool r):=by
 obtain rfl:p5 x0=r:=aa hM;clear hM
 refine az.bq (args:=[.string x0]) func274 rfl (n:=28) rfl rfl λ fr cs hk=>?_;refine At.seq ?_;refine At.rg [0] (At.lv 1 ?_);refine At.aP ?_;refine At.seq ?_;refine At.seq ?_;refine At.rg [0,1] (At.lv 1 ?_);refine At.iq rfl rfl rfl (Ox.aGt rfl rfl underlying9 rfl λ b _ _=>⟨_,(.put rfl),?_⟩);refine At.aP ?_;refine At.block (At.loop (λ m R' H' st=>R'=R∧∃ p,m=x0.size - p∧p≤x0.size∧H'=(b,.stringIter x0 p)::H∧aA st [(0,.string x0),(6,.pointer (some ⟨b,0,none⟩))]∧p5 x0=(eZ (nS x0) p (x0.size - p)).getD (c7 (x0.size:Int) 1 12)) ?_ (n:=x0.size) ⟨rfl,0,rfl,Nat.zero_le _,rfl,cj.sub ⟨rfl,rfl,trivial⟩,rfl⟩);rintro m _ _ st ⟨rfl,p,rfl,hp,rfl,cQ,hl⟩ again;refine At.sub cQ (At.seq ?_);refine At.rg [0,1] ?_;by_cases bL:p < x0.size
 ·refine At.iq rfl rfl rfl (Ox.aFo rfl rfl .here bL rfl (.put rfl) ?_);refine At.iq rfl rfl rfl (Ox.extract rfl rfl rfl rfl (.put rfl) ?_);refine At.aP ?_;refine At.seq ?_;refine At.fA rfl rfl ?_;refine At.skip ?_;refine At.block (At.seq ?_);refine At.rg [0,1,2,3] (At.iq rfl rfl rfl (Ox.extract rfl rfl rfl rfl (.put rfl) ?_));refine At.iq rfl rfl rfl (Ox.extract rfl rfl rfl rfl (.put rfl) ?_);refine At.lv 2 ?_;refine At.aP ?_;refine At.seq ?_;refine At.rg [0,1,2,3,4,5,6,7,8,9,10,11,12,13] (At.lv 2 ?_);refine At.is 12 (v':=.int .i64 ((Utf8.decode x0 p).1:Int)) rfl (congrArg _ agN) ?_;refine At.cv my (mK ((Utf8.decode x0 p).1:Int) 97 122 (WX _ _ _)) ?_;rintro _ _ _ ⟨rfl,rfl,rfl⟩;rw [anV bL] at hl
  have hd:=akN bL
  have acU:c7 ((Utf8.decode x0 p).1:Int) 97 122=isLet (nth (gN x0) p):=by
   rcases hd with ⟨h1,_⟩ | ⟨h1,h2⟩
   ·rw [h1]; rfl
   ·rw [(EW h1).1]; exact (EW h2).1
  have acR:c7 ((Utf8.decode x0 p).1:Int) 48 57=xv (nth (gN x0) p):=by
   rcases hd with ⟨h1,_⟩ | ⟨h1,h2⟩
   ·rw [h1]; rfl
   ·rw [(EW h1).2]; exact (EW h2).2
  have hw:isLet (nth (gN x0) p)=true∨xv (nth (gN x0) p)=true→p+(Utf8.decode x0 p).2=p+1:=λ h=>by
   rcases hd with ⟨_,h1⟩ | ⟨h1,_⟩
   ·rw [h1]
   ·rw [(EW h1).1,(EW h1).2] at h
    rcases h with h | h <;> cases h
  cases hL:isLet (nth (gN x0) p) with
  | true =>
   refine At.kn 13 (acU.trans hL) (At.lv 11 ?_);refine At.aP ?_;refine At.eD rfl rfl ?_;refine At.skip ?_;refine At.inBlock ?_;refine again (x0.size - (p+1)) _ _ _ (by omega) ⟨rfl,p+1,rfl,by omega,by rw [hw (.inl hL)],cj.sub ⟨rfl,rfl,trivial⟩,?_⟩;rw [hl]
   unfold nS;rw [hL]
   rfl
  | false =>
   refine At.kn 13 (acU.trans hL) (At.lv 4 ?_);cases hz:(((p:Nat):Int) == 0) with
   | true =>
    have M4:p=0:=by simpa using hz
    refine At.lv 7 ?_;refine At.aP ?_;refine At.fA rfl rfl ?_;refine At.seq ?_;refine At.rg [0] (At.lv 1 ?_);refine At.aP ?_
    have e:p5 x0=false:=by
     rw [hl]
     unfold nS;rw [hL,if_pos rfl,if_pos M4]
     rfl
    exact At.C6 func274 (.tmp rfl .nil) (J.drop (List.Sublist.cons _ (List.Sublist.refl _)) (hk _ _ _ ⟨rfl,rfl,by rw [e]; rfl⟩))
   | false =>
    have M4:p≠0:=by simpa using hz
    refine At.lv 3 ?_;refine At.is 20 (v':=.int .i64 ((Utf8.decode x0 p).1:Int)) rfl (congrArg _ agN) ?_;refine At.cv my (mK ((Utf8.decode x0 p).1:Int) 48 57 (WX _ _ _)) ?_;rintro _ _ _ ⟨rfl,rfl,rfl⟩;cases hD:xv (nth (gN x0) p) with
    | true =>
     refine At.kn 21 (acR.trans hD) (At.lv 3 ?_);refine At.aP ?_;refine At.eD rfl rfl ?_;refine At.skip ?_;refine At.inBlock ?_;refine again (x0.size - (p+1)) _ _ _ (by omega) ⟨rfl,p+1,rfl,by omega,by rw [hw (.inr hD)],cj.sub ⟨rfl,rfl,trivial⟩,?_⟩;rw [hl]
     unfold nS;rw [hL,hD,if_pos rfl,if_neg M4]
     rfl
    | false =>
     refine At.kn 21 (acR.trans hD) (At.lv 3 ?_);refine At.aP ?_;refine At.fA rfl rfl ?_;refine At.seq ?_;refine At.rg [0] (At.lv 1 ?_);refine At.aP ?_
     have e:p5 x0=false:=by
      rw [hl]
      unfold nS;rw [hL,hD,if_pos rfl,if_neg M4]
      rfl
     exact At.C6 func274 (.tmp rfl .nil) (J.drop (List.Sublist.cons _ (List.Sublist.refl _)) (hk _ _ _ ⟨rfl,rfl,by rw [e]; rfl⟩))
 ·refine At.iq rfl rfl rfl (Ox.aFn rfl rfl (.head _) bL rfl (.put rfl) ?_);refine At.iq rfl rfl rfl (Ox.extract rfl rfl rfl rfl (.put rfl) ?_);refine At.aP ?_;refine At.seq ?_;refine At.eD rfl rfl ?_;refine At.exit rfl ?_;refine At.seq ?_;refine At.rg [0,1,2,3] (At.lv 1 ?_);refine At.iq rfl rfl rfl (Ox.ND rfl rfl underlying9 rfl (.put rfl) ?_);refine At.cv my (mK (x0.size:Int) 1 12 (WX _ _ _)) ?_;rintro _ _ _ ⟨rfl,rfl,rfl⟩;refine At.lv 1 ?_;refine At.aP ?_
  have e:p5 x0=c7 (x0.size:Int) 1 12:=by
   rw [hl,show x0.size - p=0 by omega]
   rfl
  exact At.C6 func274 (.tmp rfl .nil) (J.drop (List.Sublist.cons _ (List.Sublist.refl _)) (hk _ _ _ ⟨rfl,rfl,by rw [e]; rfl⟩))
end
end Go.Proofs.YtihapemckcdicaaGreatDoor
