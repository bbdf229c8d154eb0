/- Plain laws of chapter 5, the rest. Conditions: none. -/
import Derived.Test.YtihapemckcdicaaGreatDoorR5StL
import Derived.Test.YtihapemckcdicaaGreatDoorQVStP
namespace Go.Proofs.YtihapemckcdicaaGreatDoor
open Go.Lg Go.Proofs
set_option maxRecDepth 10000
theorem abI{b:ay}(hv:Valid b):sN b 0=if fi b=[] then 9 else 0:=by unfold sN; simp [GM.2 hv]
end Go.Proofs.YtihapemckcdicaaGreatDoor
namespace Go.Proofs.YtihapemckcdicaaGreatDoor
open Go.Lg Go.Proofs
set_option maxRecDepth 10000
theorem ad4{S O:Type}{body:S→Option (S ⊕ O)}(n:Nat)(I:Nat→S→Prop)(Q:O→Prop)(h:∀ i s,i < n→I i s→(∃ s',body s=some (.inl s')∧I (i+1) s')∨∃ o,body s=some (.inr o)∧Q o)(hn:∀ s,I n s→∃ o,body s=some (.inr o)∧Q o) :
  ∀ (k i:Nat) (s:S),i+k=n→I i s→∃ o,bH body s=some o∧Q o
 | 0,i,s,hi,hI=>by
  obtain rfl:i=n:=by omega
  obtain ⟨o,h1,h2⟩:=hn s hI
  exact ⟨o,lR h1,h2⟩
 | k+1,i,s,hi,hI=>by
  rcases h i s (by omega) hI with ⟨s',h1,h2⟩ | ⟨o,h1,h2⟩
  ·obtain ⟨o,h3,h4⟩:=ad4 n I Q h hn k (i+1) s' (by omega) h2
   exact ⟨o,by rw [vF h1,h3],h4⟩
  ·exact ⟨o,lR h1,h2⟩
end Go.Proofs.YtihapemckcdicaaGreatDoor
