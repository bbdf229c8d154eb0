/- The least of the functions. Conditions: none. -/
import Derived.Test.YtihapemckcdicaaGreatDoorQWLgC
import Derived.Test.YtihapemckcdicaaGreatDoorQWStG
import Derived.Test.YtihapemckcdicaaGreatDoorQWStM
namespace Go.Proofs.YtihapemckcdicaaGreatDoor
open Go.Lg Go.Proofs Tryz
set_option maxRecDepth 100000
set_option maxHeartbeats 4000000
section
variable {B:Base} {main:Bool} {ab:Jd prog B main} {R:az} {H:ah}
theorem nI(x0:Int)(x1:Int)(x2:Int)  {r:Bool} (hM:kZ x0 x1 x2=some r):bd ab 139 #[iv x0,iv x1,iv x2] R H (λ v R' H'=>R=R'∧H=H'∧v = .bool r):=by
 unfold kZ at hM
 refine bd.oZ (args:=[iv x0,iv x1,iv x2]) func139 rfl (n:=15) rfl rfl λ fr cs hk=>?_;refine At.seq ?_;refine At.rg aC (At.vs 1 rfl rfl ?_);refine At.aV ?_;refine At.seq ?_;refine bT hM (λ BY hM=>?_) (λ BY hM=>?_)
 ·refine At.rg lj (At.vs 4 rfl rfl ?_);refine At.kn 10 BY (At.vs 5 rfl rfl ?_);refine At.aV ?_;obtain rfl:=av hM;exact At.FJ func139 (.tmp rfl .nil) (J.drop (List.Sublist.refl _) (hk _ _ _ ⟨rfl,rfl,rfl⟩))
 refine At.rg lj (At.vs 4 rfl rfl ?_);refine At.kn 10 BY (At.vs 5 rfl rfl ?_);refine At.aV ?_;obtain rfl:=av hM;exact At.FJ func139 (.tmp rfl .nil) (J.drop (List.Sublist.refl _) (hk _ _ _ ⟨rfl,rfl,rfl⟩))
end
section
variable {B:Base} {main:Bool} {ab:Jd prog B main} {R:az} {H:ah}
theorem aqM{s:ByteArray}{p:Nat}(h:p < s.size):nth (iC s) p=((s[p]'h).toNat:Int):=by
 have h1:=bE (l:=iC s) (i:=p) (by rw [S9]; exact h)
 have h2:s.data.toList[p]? = some (s[p]'h):=by
  have h3:p < s.data.toList.length:=by simpa using h
  rw [lz h3]
  rfl
 simp only [iC,List.getElem?_map,h2,Option.map_some,jl] at h1
 exact h1.symm
theorem aq4{s:ByteArray}{p:Nat}(h:p < s.size):(nth (iC s) p=((Utf8.decode s p).1:Int)∧(Utf8.decode s p).2=1)∨(128≤nth (iC s) p∧(128:Int)≤((Utf8.decode s p).1:Int)):=by
 rw [aqM h]
 rcases Nat.lt_or_ge (s[p]'h).toNat 128 with h1 | h1
 ·left
  rw [decode_ascii s p h h1]
  exact ⟨rfl,rfl⟩
 ·right
  have:=(decode_high s p h h1).1
  omega
theorem HT{n:Int}(h:128≤n):isLet n=false∧zI n=false:=by
 simp only [isLet,zI,cS,Bool.and_eq_false_iff,decide_eq_false_iff_not]
 omega
theorem amG{s:ByteArray}{p:Nat}:IntKind.wrap .i64 ((Utf8.decode s p).1:Int)=((Utf8.decode s p).1:Int):=by
 have:=decode_le s p
 exact RB (by omega)
theorem auO{e:Nat→Option Bool}{p n:Nat}(h:p < n):eg e p (n - p)=match e p with | some o=>some o | none=>eg e (p+1) (n - (p+1)):=by
 obtain ⟨k,hk⟩:∃ k,n - p=k+1:=⟨n - p - 1,by omega⟩
 rw [hk,show n - (p+1)=k by omega,eg]
 cases e p <;> rfl
theorem abQ(n a c:Int):kZ n a c=some (cS n a c):=by
 unfold kZ cS;cases decide (a≤n) <;> rfl
theorem aM5(x0:ByteArray){r:Bool}(hM:Nw x0=some r):bd ab 274 #[.string x0] R H (λ v R' H'=>R=R'∧H=H'∧v = .bool r):=by
 obtain rfl:qs x0=r:=av hM;clear hM
 refine bd.oZ (args:=[.string x0]) func274 rfl (n:=28) rfl rfl λ fr cs hk=>?_;refine At.seq ?_;refine At.rg [0] (At.lv 1 ?_);refine At.aV ?_;refine At.seq ?_;refine At.seq ?_;refine At.rg [0,1] (At.lv 1 ?_);refine At.jb rfl rfl rfl (Ox.aO9 rfl rfl underlying9 rfl λ b _ _=>⟨_,(.put rfl),?_⟩);refine At.aV ?_;refine At.aZ ?_;refine At.loop (λ m R' H' st=>R'=R∧∃ p,m=x0.size - p∧p≤x0.size∧H'=(b,.stringIter x0 p)::H∧ay st [(0,.string x0),(6,.pointer (some ⟨b,0,none⟩))]∧qs x0=(eg (oX x0) p (x0.size - p)).getD (cS (x0.size:Int) 1 12)) ?_ (n:=x0.size) ⟨rfl,0,rfl,Nat.zero_le _,rfl,cx.sub ⟨rfl,rfl,trivial⟩,rfl⟩;rintro m _ _ st ⟨rfl,p,rfl,hp,rfl,dc,hl⟩ again;refine At.sub dc (At.seq ?_);refine At.rg [0,1] ?_;by_cases bS:p < x0.size
 ·refine At.jb rfl rfl rfl (Ox.aNQ rfl rfl .here bS rfl (.put rfl) ?_);refine At.jb rfl rfl rfl (Ox.extract rfl rfl rfl rfl (.put rfl) ?_);refine At.aV ?_;refine At.seq ?_;refine At.fX rfl rfl ?_;refine At.skip ?_;refine At.aZ ?_;refine At.seq ?_;refine At.rg [0,1,2,3] (At.jb rfl rfl rfl (Ox.extract rfl rfl rfl rfl (.put rfl) ?_));refine At.jb rfl rfl rfl (Ox.extract rfl rfl rfl rfl (.put rfl) ?_);refine At.lv 2 ?_;refine At.aV ?_;refine At.seq ?_;refine At.rg [0,1,2,3,4,5,6,7,8,9,10,11,12,13] (At.lv 2 ?_);refine At.is 12 (v':=.int .i64 ((Utf8.decode x0 p).1:Int)) rfl (congrArg _ amG) ?_;refine At.cv nv (nI ((Utf8.decode x0 p).1:Int) 97 122 (abQ _ _ _)) ?_;rintro _ _ _ ⟨rfl,rfl,rfl⟩;rw [auO bS] at hl
  have hd:=aq4 bS
  have ah2:cS ((Utf8.decode x0 p).1:Int) 97 122=isLet (nth (iC x0) p):=by
   rcases hd with ⟨h1,_⟩ | ⟨h1,h2⟩
   ·rw [h1]; rfl
   ·rw [(HT h1).1]; exact (HT h2).1
  have ah0:cS ((Utf8.decode x0 p).1:Int) 48 57=zI (nth (iC x0) p):=by
   rcases hd with ⟨h1,_⟩ | ⟨h1,h2⟩
   ·rw [h1]; rfl
   ·rw [(HT h1).2]; exact (HT h2).2
  have hw:isLet (nth (iC x0) p)=true∨zI (nth (iC x0) p)=true→p+(Utf8.decode x0 p).2=p+1:=λ h=>by
   rcases hd with ⟨_,h1⟩ | ⟨h1,_⟩
   ·rw [h1]
   ·rw [(HT h1).1,(HT h1).2] at h
    rcases h with h | h <;> cases h
  cases hL:isLet (nth (iC x0) p) with
  | true =>
   refine At.kn 13 (ah2.trans hL) (At.lv 11 ?_);refine At.aV ?_;refine At.eU rfl rfl ?_;refine At.skip ?_;refine At.bI ?_;refine again (x0.size - (p+1)) _ _ _ (by omega) ⟨rfl,p+1,rfl,by omega,by rw [hw (.inl hL)],cx.sub ⟨rfl,rfl,trivial⟩,?_⟩;rw [hl]
   unfold oX;rw [hL]
   rfl
  | false =>
   refine At.kn 13 (ah2.trans hL) (At.lv 4 ?_);cases hz:(((p:Nat):Int) == 0) with
   | true =>
    have QV:p=0:=by simpa using hz
    refine At.lv 7 ?_;refine At.aV ?_;refine At.fX rfl rfl ?_;refine At.seq ?_;refine At.rg [0] (At.lv 1 ?_);refine At.aV ?_
    have e:qs x0=false:=by
     rw [hl]
     unfold oX;rw [hL,if_pos rfl,if_pos QV]
     rfl
    exact At.FJ func274 (.tmp rfl .nil) (J.drop (List.Sublist.cons _ (List.Sublist.refl _)) (hk _ _ _ ⟨rfl,rfl,by rw [e]; rfl⟩))
   | false =>
    have QV:p≠0:=by simpa using hz
    refine At.lv 3 ?_;refine At.is 20 (v':=.int .i64 ((Utf8.decode x0 p).1:Int)) rfl (congrArg _ amG) ?_;refine At.cv nv (nI ((Utf8.decode x0 p).1:Int) 48 57 (abQ _ _ _)) ?_;rintro _ _ _ ⟨rfl,rfl,rfl⟩;cases hD:zI (nth (iC x0) p) with
    | true =>
     refine At.kn 21 (ah0.trans hD) (At.lv 3 ?_);refine At.aV ?_;refine At.eU rfl rfl ?_;refine At.skip ?_;refine At.bI ?_;refine again (x0.size - (p+1)) _ _ _ (by omega) ⟨rfl,p+1,rfl,by omega,by rw [hw (.inr hD)],cx.sub ⟨rfl,rfl,trivial⟩,?_⟩;rw [hl]
     unfold oX;rw [hL,hD,if_pos rfl,if_neg QV]
     rfl
    | false =>
     refine At.kn 21 (ah0.trans hD) (At.lv 3 ?_);refine At.aV ?_;refine At.fX rfl rfl ?_;refine At.seq ?_;refine At.rg [0] (At.lv 1 ?_);refine At.aV ?_
     have e:qs x0=false:=by
      rw [hl]
      unfold oX;rw [hL,hD,if_pos rfl,if_neg QV]
      rfl
     exact At.FJ func274 (.tmp rfl .nil) (J.drop (List.Sublist.cons _ (List.Sublist.refl _)) (hk _ _ _ ⟨rfl,rfl,by rw [e]; rfl⟩))
 ·refine At.jb rfl rfl rfl (Ox.aNP rfl rfl (.head _) bS rfl (.put rfl) ?_);refine At.jb rfl rfl rfl (Ox.extract rfl rfl rfl rfl (.put rfl) ?_);refine At.aV ?_;refine At.seq ?_;refine At.eU rfl rfl ?_;refine At.cu rfl ?_;refine At.seq ?_;refine At.rg [0,1,2,3] (At.lv 1 ?_);refine At.jb rfl rfl rfl (Ox.RL rfl rfl underlying9 rfl (.put rfl) ?_);refine At.cv nv (nI (x0.size:Int) 1 12 (abQ _ _ _)) ?_;rintro _ _ _ ⟨rfl,rfl,rfl⟩;refine At.lv 1 ?_;refine At.aV ?_
  have e:qs x0=cS (x0.size:Int) 1 12:=by
   rw [hl,show x0.size - p=0 by omega]
   rfl
  exact At.FJ func274 (.tmp rfl .nil) (J.drop (List.Sublist.cons _ (List.Sublist.refl _)) (hk _ _ _ ⟨rfl,rfl,by rw [e]; rfl⟩))
end
end Go.Proofs.YtihapemckcdicaaGreatDoor
