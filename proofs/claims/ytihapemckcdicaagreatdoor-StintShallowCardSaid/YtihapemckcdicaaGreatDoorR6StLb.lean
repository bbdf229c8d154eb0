/- Plain laws of chapter 5, the rest. Conditions: none. -/
import Derived.Test.YtihapemckcdicaaGreatDoorR6StL
import Derived.Test.YtihapemckcdicaaGreatDoorQVStP
namespace Go.Proofs.YtihapemckcdicaaGreatDoor
open Go.Lg Go.Proofs
set_option maxRecDepth 10000
theorem abI{b:ay}(hv:Valid b):sN b 0=if fi b=[] then 9 else 0:=by unfold sN; simp [GM.2 hv]
end Go.Proofs.YtihapemckcdicaaGreatDoor
namespace Go.Proofs.YtihapemckcdicaaGreatDoor
open Go.Lg Go.Proofs
set_option maxRecDepth 10000
theorem ad4{S O:Type}{body:S→Option (S ⊕ O)}(n:Nat)(I:Nat→S→Prop)(Q:O→Prop)(h:∀ i s,i < n→I i s→(∃ s',body s=some (.inl s')∧I (i+1) s')∨∃ o,body s=some (.inr o)∧Q o)(hn:∀ s,I n s→∃ o,body s=some (.inr o)∧Q o) :
  ∀ (k i:Nat) (s:S),i+k=n→I i s→∃ o,bH body s=some o∧Q o
 | 0,i,s,hi,hI=>by
  obtain rfl:i=n:=by omega
  obtain ⟨o,h1,h2⟩:=hn s hI
  exact ⟨o,lR h1,h2⟩
 | k+1,i,s,hi,hI=>by
  rcases h i s (by omega) hI with ⟨s',h1,h2⟩ | ⟨o,h1,h2⟩
  ·obtain ⟨o,h3,h4⟩:=ad4 n I Q h hn k (i+1) s' (by omega) h2
   exact ⟨o,by rw [vF h1,h3],h4⟩
  ·exact ⟨o,lR h1,h2⟩
end Go.Proofs.YtihapemckcdicaaGreatDoor
namespace Go.Proofs.YtihapemckcdicaaGreatDoor
open Go.Lg Go.Proofs
set_option maxRecDepth 10000
def OE(l:List fh)(n:Int):Int:=match l.find? (λ r=>decide (n≤r.dU)) with | some r=>r.eQ | none=>0
theorem aJC(r:fh)(l:List fh)(n:Int):OE (r::l) n=if n≤r.dU then r.eQ else OE l n:=by
 unfold OE
 by_cases h:n≤r.dU
 ·rw [if_pos h,List.find?_cons_of_pos (by simpa using h)]
 ·rw [if_neg h,List.find?_cons_of_neg (by simpa using h)]
def Zw(r q:fh):Prop:=r.dU < q.dU∧q.eQ≤r.eQ
theorem aJe{l:List fh}:(∀ i,0 < i→i < l.length→(nth l (i - 1)).dU < (nth l i).dU∧(nth l i).eQ≤(nth l (i - 1)).eQ)↔l.Pairwise Zw:=by
 constructor
 ·intro h
  have key:∀ d i,i+d+1 < l.length→Zw (nth l i) (nth l (i+d+1)):=by
   intro d
   induction d with
   | zero=>intro i hi; have:=h (i+1) (by omega) hi; exact this
   | succ d ih =>
    intro i hi
    have h1:=ih i (by omega)
    have h2:=h (i+(d+1)+1) (by omega) hi
    rw [show i+(d+1)+1 - 1=i+d+1 by omega] at h2
    unfold Zw at h1 ⊢
    omega
  rw [List.pairwise_iff_getElem]
  intro i j hi hj fC
  have e:∀ k (hk:k < l.length),l[k]=nth l k:=λ k hk=>by
   have:=cp hk
   rw [List.getElem?_eq_getElem hk] at this
   exact Option.some.inj this
  rw [e i hi,e j hj]
  have:=key (j - i - 1) i (by omega)
  rwa [show i+(j - i - 1)+1=j by omega] at this
 ·intro h i h0 hi
  rw [List.pairwise_iff_getElem] at h
  have:=h (i - 1) i (by omega) hi (by omega)
  have e:∀ k (hk:k < l.length),l[k]=nth l k:=λ k hk=>by
   have:=cp hk
   rw [List.getElem?_eq_getElem hk] at this
   exact Option.some.inj this
  rwa [e,e] at this
end Go.Proofs.YtihapemckcdicaaGreatDoor
namespace Go.Proofs.YtihapemckcdicaaGreatDoor
open Go.Lg Go.Proofs
set_option maxRecDepth 10000
theorem aW3(b:ay)(n:Int):wu b n=OE b.Rows n:=rfl
end Go.Proofs.YtihapemckcdicaaGreatDoor
