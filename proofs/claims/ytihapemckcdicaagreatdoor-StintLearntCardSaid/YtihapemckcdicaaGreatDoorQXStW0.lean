/- The least of the functions. Conditions: none. -/
import Derived.Test.YtihapemckcdicaaGreatDoorQXLgC
import Derived.Test.YtihapemckcdicaaGreatDoorQXStG
import Derived.Test.YtihapemckcdicaaGreatDoorQXStM
namespace Go.Proofs.YtihapemckcdicaaGreatDoor
open Go.Lg Go.Proofs Tryz
set_option maxRecDepth 100000
set_option maxHeartbeats 4000000
section
variable {B:Base} {main:Bool} {ab:Jd prog B main} {R:az} {H:ah}
theorem nI(x0:Int)(x1:Int)(x2:Int)  {r:Bool} (hM:lj x0 x1 x2=some r):ba ab 139 #[iv x0,iv x1,iv x2] R H (λ v R' H'=>R=R'∧H=H'∧v = .bool r):=by
 unfold lj at hM
 refine ba.oX (args:=[iv x0,iv x1,iv x2]) func139 rfl (n:=15) rfl rfl λ fr cs hk=>?_;refine At.seq ?_;refine At.rg aD (At.vs 1 rfl rfl ?_);refine At.aV ?_;refine At.seq ?_;refine bC hM (λ Ex hM=>?_) (λ Ex hM=>?_)
 ·refine At.rg lq (At.vs 4 rfl rfl ?_);refine At.kn 10 Ex (At.vs 5 rfl rfl ?_);refine At.aV ?_;obtain rfl:=aA hM;exact At.FU func139 (.tmp rfl .nil) (J.drop (List.Sublist.refl _) (hk _ _ _ ⟨rfl,rfl,rfl⟩))
 refine At.rg lq (At.vs 4 rfl rfl ?_);refine At.kn 10 Ex (At.vs 5 rfl rfl ?_);refine At.aV ?_;obtain rfl:=aA hM;exact At.FU func139 (.tmp rfl .nil) (J.drop (List.Sublist.refl _) (hk _ _ _ ⟨rfl,rfl,rfl⟩))
end
section
variable {B:Base} {main:Bool} {ab:Jd prog B main} {R:az} {H:ah}
theorem ao3{s:ByteArray}{p:Nat}(h:p < s.size):nth (iL s) p=((s[p]'h).toNat:Int):=by
 have h1:=bZ (l:=iL s) (i:=p) (by rw [SD]; exact h)
 have h2:s.data.toList[p]? = some (s[p]'h):=by
  have h3:p < s.data.toList.length:=by simpa using h
  rw [mN h3]
  rfl
 simp only [iL,List.getElem?_map,h2,Option.map_some,j8] at h1
 exact h1.symm
theorem apm{s:ByteArray}{p:Nat}(h:p < s.size):(nth (iL s) p=((Utf8.decode s p).1:Int)∧(Utf8.decode s p).2=1)∨(128≤nth (iL s) p∧(128:Int)≤((Utf8.decode s p).1:Int)):=by
 rw [ao3 h]
 rcases Nat.lt_or_ge (s[p]'h).toNat 128 with h1 | h1
 ·left
  rw [decode_ascii s p h h1]
  exact ⟨rfl,rfl⟩
 ·right
  have:=(decode_high s p h h1).1
  omega
theorem HU{n:Int}(h:128≤n):isLet n=false∧zC n=false:=by
 simp only [isLet,zC,dc,Bool.and_eq_false_iff,decide_eq_false_iff_not]
 omega
theorem alj{s:ByteArray}{p:Nat}:IntKind.wrap .i64 ((Utf8.decode s p).1:Int)=((Utf8.decode s p).1:Int):=by
 have:=decode_le s p
 exact Q4 (by omega)
theorem asI{e:Nat→Option Bool}{p n:Nat}(h:p < n):fJ e p (n - p)=match e p with | some o=>some o | none=>fJ e (p+1) (n - (p+1)):=by
 obtain ⟨k,hk⟩:∃ k,n - p=k+1:=⟨n - p - 1,by omega⟩
 rw [hk,show n - (p+1)=k by omega,fJ]
 cases e p <;> rfl
theorem aaO(n a c:Int):lj n a c=some (dc n a c):=by
 unfold lj dc;cases decide (a≤n) <;> rfl
theorem aJN(x0:ByteArray){r:Bool}(hM:MO x0=some r):ba ab 274 #[.string x0] R H (λ v R' H'=>R=R'∧H=H'∧v = .bool r):=by
 obtain rfl:qD x0=r:=aA hM;clear hM
 refine ba.oX (args:=[.string x0]) func274 rfl (n:=28) rfl rfl λ fr cs hk=>?_;refine At.seq ?_;refine At.rg [0] (At.lv 1 ?_);refine At.aV ?_;refine At.seq ?_;refine At.seq ?_;refine At.rg [0,1] (At.lv 1 ?_);refine At.jv rfl rfl rfl (Ox.aLT rfl rfl underlying9 rfl λ b _ _=>⟨_,(.put rfl),?_⟩);refine At.aV ?_;refine At.bf ?_;refine At.loop (λ m R' H' st=>R'=R∧∃ p,m=x0.size - p∧p≤x0.size∧H'=(b,.stringIter x0 p)::H∧aB st [(0,.string x0),(6,.pointer (some ⟨b,0,none⟩))]∧qD x0=(fJ (oT x0) p (x0.size - p)).getD (dc (x0.size:Int) 1 12)) ?_ (n:=x0.size) ⟨rfl,0,rfl,Nat.zero_le _,rfl,cz.sub ⟨rfl,rfl,trivial⟩,rfl⟩;rintro m _ _ st ⟨rfl,p,rfl,hp,rfl,de,hl⟩ again;refine At.sub de (At.seq ?_);refine At.rg [0,1] ?_;by_cases bV:p < x0.size
 ·refine At.jv rfl rfl rfl (Ox.aKz rfl rfl .here bV rfl (.put rfl) ?_);refine At.jv rfl rfl rfl (Ox.extract rfl rfl rfl rfl (.put rfl) ?_);refine At.aV ?_;refine At.seq ?_;refine At.gb rfl rfl ?_;refine At.skip ?_;refine At.bf ?_;refine At.seq ?_;refine At.rg [0,1,2,3] (At.jv rfl rfl rfl (Ox.extract rfl rfl rfl rfl (.put rfl) ?_));refine At.jv rfl rfl rfl (Ox.extract rfl rfl rfl rfl (.put rfl) ?_);refine At.lv 2 ?_;refine At.aV ?_;refine At.seq ?_;refine At.rg [0,1,2,3,4,5,6,7,8,9,10,11,12,13] (At.lv 2 ?_);refine At.is 12 (v':=.int .i64 ((Utf8.decode x0 p).1:Int)) rfl (congrArg _ alj) ?_;refine At.cv nA (nI ((Utf8.decode x0 p).1:Int) 97 122 (aaO _ _ _)) ?_;rintro _ _ _ ⟨rfl,rfl,rfl⟩;rw [asI bV] at hl
  have hd:=apm bV
  have agK:dc ((Utf8.decode x0 p).1:Int) 97 122=isLet (nth (iL x0) p):=by
   rcases hd with ⟨h1,_⟩ | ⟨h1,h2⟩
   ·rw [h1]; rfl
   ·rw [(HU h1).1]; exact (HU h2).1
  have agI:dc ((Utf8.decode x0 p).1:Int) 48 57=zC (nth (iL x0) p):=by
   rcases hd with ⟨h1,_⟩ | ⟨h1,h2⟩
   ·rw [h1]; rfl
   ·rw [(HU h1).2]; exact (HU h2).2
  have hw:isLet (nth (iL x0) p)=true∨zC (nth (iL x0) p)=true→p+(Utf8.decode x0 p).2=p+1:=λ h=>by
   rcases hd with ⟨_,h1⟩ | ⟨h1,_⟩
   ·rw [h1]
   ·rw [(HU h1).1,(HU h1).2] at h
    rcases h with h | h <;> cases h
  cases hL:isLet (nth (iL x0) p) with
  | true =>
   refine At.kn 13 (agK.trans hL) (At.lv 11 ?_);refine At.aV ?_;refine At.eX rfl rfl ?_;refine At.skip ?_;refine At.bQ ?_;refine again (x0.size - (p+1)) _ _ _ (by omega) ⟨rfl,p+1,rfl,by omega,by rw [hw (.inl hL)],cz.sub ⟨rfl,rfl,trivial⟩,?_⟩;rw [hl]
   unfold oT;rw [hL]
   rfl
  | false =>
   refine At.kn 13 (agK.trans hL) (At.lv 4 ?_);cases hz:(((p:Nat):Int) == 0) with
   | true =>
    have Qc:p=0:=by simpa using hz
    refine At.lv 7 ?_;refine At.aV ?_;refine At.gb rfl rfl ?_;refine At.seq ?_;refine At.rg [0] (At.lv 1 ?_);refine At.aV ?_
    have e:qD x0=false:=by
     rw [hl]
     unfold oT;rw [hL,if_pos rfl,if_pos Qc]
     rfl
    exact At.FU func274 (.tmp rfl .nil) (J.drop (List.Sublist.cons _ (List.Sublist.refl _)) (hk _ _ _ ⟨rfl,rfl,by rw [e]; rfl⟩))
   | false =>
    have Qc:p≠0:=by simpa using hz
    refine At.lv 3 ?_;refine At.is 20 (v':=.int .i64 ((Utf8.decode x0 p).1:Int)) rfl (congrArg _ alj) ?_;refine At.cv nA (nI ((Utf8.decode x0 p).1:Int) 48 57 (aaO _ _ _)) ?_;rintro _ _ _ ⟨rfl,rfl,rfl⟩;cases hD:zC (nth (iL x0) p) with
    | true =>
     refine At.kn 21 (agI.trans hD) (At.lv 3 ?_);refine At.aV ?_;refine At.eX rfl rfl ?_;refine At.skip ?_;refine At.bQ ?_;refine again (x0.size - (p+1)) _ _ _ (by omega) ⟨rfl,p+1,rfl,by omega,by rw [hw (.inr hD)],cz.sub ⟨rfl,rfl,trivial⟩,?_⟩;rw [hl]
     unfold oT;rw [hL,hD,if_pos rfl,if_neg Qc]
     rfl
    | false =>
     refine At.kn 21 (agI.trans hD) (At.lv 3 ?_);refine At.aV ?_;refine At.gb rfl rfl ?_;refine At.seq ?_;refine At.rg [0] (At.lv 1 ?_);refine At.aV ?_
     have e:qD x0=false:=by
      rw [hl]
      unfold oT;rw [hL,hD,if_pos rfl,if_neg Qc]
      rfl
     exact At.FU func274 (.tmp rfl .nil) (J.drop (List.Sublist.cons _ (List.Sublist.refl _)) (hk _ _ _ ⟨rfl,rfl,by rw [e]; rfl⟩))
 ·refine At.jv rfl rfl rfl (Ox.aKy rfl rfl (.head _) bV rfl (.put rfl) ?_);refine At.jv rfl rfl rfl (Ox.extract rfl rfl rfl rfl (.put rfl) ?_);refine At.aV ?_;refine At.seq ?_;refine At.eX rfl rfl ?_;refine At.cF rfl ?_;refine At.seq ?_;refine At.rg [0,1,2,3] (At.lv 1 ?_);refine At.jv rfl rfl rfl (Ox.Re rfl rfl underlying9 rfl (.put rfl) ?_);refine At.cv nA (nI (x0.size:Int) 1 12 (aaO _ _ _)) ?_;rintro _ _ _ ⟨rfl,rfl,rfl⟩;refine At.lv 1 ?_;refine At.aV ?_
  have e:qD x0=dc (x0.size:Int) 1 12:=by
   rw [hl,show x0.size - p=0 by omega]
   rfl
  exact At.FU func274 (.tmp rfl .nil) (J.drop (List.Sublist.cons _ (List.Sublist.refl _)) (hk _ _ _ ⟨rfl,rfl,by rw [e]; rfl⟩))
end
end Go.Proofs.YtihapemckcdicaaGreatDoor
