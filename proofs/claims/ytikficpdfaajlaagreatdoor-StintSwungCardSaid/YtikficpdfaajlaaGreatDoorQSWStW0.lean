/- The least of the functions. Conditions: none. -/
import Derived.Test.YtikficpdfaajlaaGreatDoorQSWLgC
import Derived.Test.YtikficpdfaajlaaGreatDoorQSWStG
import Derived.Test.YtikficpdfaajlaaGreatDoorQSWStM
namespace Go.Proofs.YtikficpdfaajlaaGreatDoor
open Go.Lg Go.Proofs Tryz
set_option maxRecDepth 100000
set_option maxHeartbeats 4000000
section
variable {B:Base} {main:Bool} {ae:Jd prog B main} {R:aA} {H:ai}
theorem gJ(x0:Int)(x1:Int)(x2:Int)  {r:Bool} (b:fC x0 x1 x2=some r):aO ae 54 #[iv x0,iv x1,iv x2] R H (λ v R' H'=>R=R'∧H=H'∧v = .bool r):=by
 unfold fC at b
 refine aO.ha (args:=[iv x0,iv x1,iv x2]) func54 rfl (n:=15) rfl rfl λ fr cs d=>?_;refine U.seq ?_;refine U.rg aC (U.vs 1 rfl rfl ?_);refine U.aP ?_;refine U.seq ?_;refine a4 b (λ c b=>?_) (λ c b=>?_)
 ·refine U.rg eF (U.vs 4 rfl rfl ?_);refine U.kn 10 c (U.vs 5 rfl rfl ?_);refine U.aP ?_;obtain rfl:=ax b;exact U.pq func54 (.tmp rfl .nil) (J.drop (List.Sublist.refl _) (d _ _ _ ⟨rfl,rfl,rfl⟩))
 refine U.rg eF (U.vs 4 rfl rfl ?_);refine U.kn 10 c (U.vs 5 rfl rfl ?_);refine U.aP ?_;obtain rfl:=ax b;exact U.pq func54 (.tmp rfl .nil) (J.drop (List.Sublist.refl _) (d _ _ _ ⟨rfl,rfl,rfl⟩))
end
section
variable {B:Base} {main:Bool} {ae:Jd prog B main} {R:aA} {H:ai}
theorem H3{s:ByteArray}{p:Nat}(h:p < s.size):nth (eK s) p=((s[p]'h).toNat:Int):=by
 have h1:=bl (l:=eK s) (i:=p) (by rw [wu]; exact h)
 have h2:s.data.toList[p]? = some (s[p]'h):=by
  have h3:p < s.data.toList.length:=by simpa using h
  rw [fy h3]
  rfl
 simp only [eK,List.getElem?_map,h2,Option.map_some,ey] at h1
 exact h1.symm
theorem Io{s:ByteArray}{p:Nat}(h:p < s.size):(nth (eK s) p=((Utf8.decode s p).1:Int)∧(Utf8.decode s p).2=1)∨(128≤nth (eK s) p∧(128:Int)≤((Utf8.decode s p).1:Int)):=by
 rw [H3 h]
 rcases Nat.lt_or_ge (s[p]'h).toNat 128 with h1 | h1
 ·left
  rw [decode_ascii s p h h1]
  exact ⟨rfl,rfl⟩
 ·right
  have:=(decode_high s p h h1).1
  omega
theorem pU{n:Int}(h:128≤n):isLet n=false∧lU n=false:=by
 simp only [isLet,lU,bX,Bool.and_eq_false_iff,decide_eq_false_iff_not]
 omega
theorem GM{s:ByteArray}{p:Nat}:IntKind.wrap .i64 ((Utf8.decode s p).1:Int)=((Utf8.decode s p).1:Int):=by
 have:=decode_le s p
 exact uM (by omega)
theorem LS{e:Nat→a5}{p n:Nat}(h:p < n):de e p (n - p)=match e p with | some o=>some o | none=>de e (p+1) (n - (p+1)):=by
 obtain ⟨k,b⟩:∃ k,n - p=k+1:=⟨n - p - 1,by omega⟩
 rw [b,show n - (p+1)=k by omega,de]
 cases e p <;> rfl
theorem y4(n a c:Int):fC n a c=some (bX n a c):=by
 unfold fC bX;cases decide (a≤n) <;> rfl
theorem Pb(x0:ByteArray){r:Bool}(j:sC x0=some r):aO ae 223 #[.string x0] R H (λ v R' H'=>R=R'∧H=H'∧v = .bool r):=by
 obtain rfl:hO x0=r:=ax j;clear j
 refine aO.ha (args:=[.string x0]) func223 rfl (n:=28) rfl rfl λ fr cs i=>?_;refine U.seq ?_;refine U.rg [0] (U.lv 1 ?_);refine U.aP ?_;refine U.seq ?_;refine U.seq ?_;refine U.rg [0,1] (U.lv 1 ?_);refine U.e2 rfl rfl rfl (Ox.Rs rfl rfl underlying9 rfl λ b _ _=>⟨_,(.put rfl),?_⟩);refine U.aP ?_;refine U.aT (U.loop (λ m R' H' st=>R'=R∧∃ p,m=x0.size - p∧p≤x0.size∧H'=(b,.stringIter x0 p)::H∧aB st [(0,.string x0),(6,.pointer (some ⟨b,0,none⟩))]∧hO x0=(de (g9 x0) p (x0.size - p)).getD (bX (x0.size:Int) 1 12)) ?_ (n:=x0.size) ⟨rfl,0,rfl,Nat.zero_le _,rfl,bN.sub ⟨rfl,rfl,trivial⟩,rfl⟩);rintro m _ _ st ⟨rfl,p,rfl,y,rfl,w,hl⟩ again;refine U.sub w (U.seq ?_);refine U.rg [0,1] ?_;by_cases f:p < x0.size
 ·refine U.e2 rfl rfl rfl (Ox.QA rfl rfl .here f rfl (.put rfl) ?_);refine U.e2 rfl rfl rfl (Ox.extract rfl rfl rfl rfl (.put rfl) ?_);refine U.aP ?_;refine U.seq ?_;refine U.dF rfl rfl ?_;refine U.skip ?_;refine U.aT (U.seq ?_);refine U.rg [0,1,2,3] (U.e2 rfl rfl rfl (Ox.extract rfl rfl rfl rfl (.put rfl) ?_));refine U.e2 rfl rfl rfl (Ox.extract rfl rfl rfl rfl (.put rfl) ?_);refine U.lv 2 ?_;refine U.aP ?_;refine U.seq ?_;refine U.rg [0,1,2,3,4,5,6,7,8,9,10,11,12,13] (U.lv 2 ?_);refine U.is 12 (v':=.int .i64 ((Utf8.decode x0 p).1:Int)) rfl (congrArg _ GM) ?_;refine U.cv gE (gJ ((Utf8.decode x0 p).1:Int) 97 122 (y4 _ _ _)) ?_;rintro _ _ _ ⟨rfl,rfl,rfl⟩;rw [LS f] at hl
  have hd:=Io f
  have o:bX ((Utf8.decode x0 p).1:Int) 97 122=isLet (nth (eK x0) p):=by
   rcases hd with ⟨h1,_⟩ | ⟨h1,h2⟩
   ·rw [h1]; rfl
   ·rw [(pU h1).1]; exact (pU h2).1
  have k:bX ((Utf8.decode x0 p).1:Int) 48 57=lU (nth (eK x0) p):=by
   rcases hd with ⟨h1,_⟩ | ⟨h1,h2⟩
   ·rw [h1]; rfl
   ·rw [(pU h1).2]; exact (pU h2).2
  have hw:isLet (nth (eK x0) p)=true∨lU (nth (eK x0) p)=true→p+(Utf8.decode x0 p).2=p+1:=λ h=>by
   rcases hd with ⟨_,h1⟩ | ⟨h1,_⟩
   ·rw [h1]
   ·rw [(pU h1).1,(pU h1).2] at h
    rcases h with h | h <;> cases h
  cases c:isLet (nth (eK x0) p) with
  | true =>
   refine U.kn 13 (o.trans c) (U.lv 11 ?_);refine U.aP ?_;refine U.cU rfl rfl ?_;refine U.skip ?_;refine U.bg ?_;refine again (x0.size - (p+1)) _ _ _ (by omega) ⟨rfl,p+1,rfl,by omega,by rw [hw (.inl c)],bN.sub ⟨rfl,rfl,trivial⟩,?_⟩;rw [hl]
   unfold g9;rw [c]
   rfl
  | false =>
   refine U.kn 13 (o.trans c) (U.lv 4 ?_);cases s:(((p:Nat):Int) == 0) with
   | true =>
    have g:p=0:=by simpa using s
    refine U.lv 7 ?_;refine U.aP ?_;refine U.dF rfl rfl ?_;refine U.seq ?_;refine U.rg [0] (U.lv 1 ?_);refine U.aP ?_
    have e:hO x0=false:=by
     rw [hl]
     unfold g9;rw [c,if_pos rfl,if_pos g]
     rfl
    exact U.pq func223 (.tmp rfl .nil) (J.drop (List.Sublist.cons _ (List.Sublist.refl _)) (i _ _ _ ⟨rfl,rfl,by rw [e]; rfl⟩))
   | false =>
    have g:p≠0:=by simpa using s
    refine U.lv 3 ?_;refine U.is 20 (v':=.int .i64 ((Utf8.decode x0 p).1:Int)) rfl (congrArg _ GM) ?_;refine U.cv gE (gJ ((Utf8.decode x0 p).1:Int) 48 57 (y4 _ _ _)) ?_;rintro _ _ _ ⟨rfl,rfl,rfl⟩;cases d:lU (nth (eK x0) p) with
    | true =>
     refine U.kn 21 (k.trans d) (U.lv 3 ?_);refine U.aP ?_;refine U.cU rfl rfl ?_;refine U.skip ?_;refine U.bg ?_;refine again (x0.size - (p+1)) _ _ _ (by omega) ⟨rfl,p+1,rfl,by omega,by rw [hw (.inr d)],bN.sub ⟨rfl,rfl,trivial⟩,?_⟩;rw [hl]
     unfold g9;rw [c,d,if_pos rfl,if_neg g]
     rfl
    | false =>
     refine U.kn 21 (k.trans d) (U.lv 3 ?_);refine U.aP ?_;refine U.dF rfl rfl ?_;refine U.seq ?_;refine U.rg [0] (U.lv 1 ?_);refine U.aP ?_
     have e:hO x0=false:=by
      rw [hl]
      unfold g9;rw [c,d,if_pos rfl,if_neg g]
      rfl
     exact U.pq func223 (.tmp rfl .nil) (J.drop (List.Sublist.cons _ (List.Sublist.refl _)) (i _ _ _ ⟨rfl,rfl,by rw [e]; rfl⟩))
 ·refine U.e2 rfl rfl rfl (Ox.Qz rfl rfl (.head _) f rfl (.put rfl) ?_);refine U.e2 rfl rfl rfl (Ox.extract rfl rfl rfl rfl (.put rfl) ?_);refine U.aP ?_;refine U.seq ?_;refine U.cU rfl rfl ?_;refine U.bM rfl ?_;refine U.seq ?_;refine U.rg [0,1,2,3] (U.lv 1 ?_);refine U.e2 rfl rfl rfl (Ox.uV rfl rfl underlying9 rfl (.put rfl) ?_);refine U.cv gE (gJ (x0.size:Int) 1 12 (y4 _ _ _)) ?_;rintro _ _ _ ⟨rfl,rfl,rfl⟩;refine U.lv 1 ?_;refine U.aP ?_
  have e:hO x0=bX (x0.size:Int) 1 12:=by
   rw [hl,show x0.size - p=0 by omega]
   rfl
  exact U.pq func223 (.tmp rfl .nil) (J.drop (List.Sublist.cons _ (List.Sublist.refl _)) (i _ _ _ ⟨rfl,rfl,by rw [e]; rfl⟩))
end
end Go.Proofs.YtikficpdfaajlaaGreatDoor
