/- Plain laws of chapter 6, the rest. Conditions: none. -/
import Derived.Test.YtabamagholjdcaaGreatDoorR15HuL
namespace Go.Proofs.YtabamagholjdcaaGreatDoor
open Go.Lg Go.Proofs
set_option maxRecDepth 10000
set_option maxRecDepth 1000000 in
theorem ab6{n:Nat}:(((n:Nat):Int) == 0)=(n == 0):=by
 rw [Bool.eq_iff_iff,beq_iff_eq,beq_iff_eq]
 omega
end Go.Proofs.YtabamagholjdcaaGreatDoor
namespace Go.Proofs.YtabamagholjdcaaGreatDoor
open Go.Lg Go.Proofs
set_option maxRecDepth 10000
def eF(b:aj)(c:cR)(out:List Int):Int:=oE b c.aa c.eU out
theorem akj{b:aj}{c:cR}(h:c∈bJ b):c.eU∈oL b∧b.aa.ai≤c.aa∧c.aa≤b.aa.ak∧lh b c.aa c.eU=true:=by
 simp only [bJ,List.mem_flatMap,List.mem_map,List.mem_filter] at h
 obtain ⟨n,hn,w,⟨hw,hs⟩,rfl⟩:=h
 exact ⟨hw,(L5.1 hn).1,(L5.1 hn).2,hs⟩
theorem Q8{b:aj}(hv:Valid b){c:cR}(h:c∈bJ b):c.eU.length=b.ao.length∧uI b c.aa c.eU:=by
 obtain ⟨h1,h2,h3,_⟩:=akj h
 have hm:=ajd h1
 have hb:=hv.df
 exact ⟨hm.1,⟨by omega,by omega,λ k hk=>by
  have g1:=hm.2 k hk
  have g2:=(hv.each k hk).weight
  omega⟩⟩
theorem abB{b:aj}(hv:Valid b){c:cR}(h:c∈bJ b)(out:List Int) : -6000≤eF b c out∧eF b c out≤6000:=abR hv (Q8 hv h).2
theorem abO{b:aj}(hv:Valid b){c:cR}(h:c∈bJ b)(out:List Int):pM b (mS c) (c7 out)=some (eF b c out):=by
 obtain ⟨hl,hf⟩:=Q8 hv h
 unfold mS eF
 rw [acn hv (abY hv hl hf),acs hv hl]
set_option maxRecDepth 1000000 in
abbrev RB(b:aj):di:=⟨b,(bJ b).map mS,[]⟩
end Go.Proofs.YtabamagholjdcaaGreatDoor
namespace Go.Proofs.YtabamagholjdcaaGreatDoor
open Go.Lg Go.Proofs
set_option maxRecDepth 10000
def yC(n all:Nat):Int:=if n=0 then 2 else if n=all then 1 else 0
theorem aNA{b:aj}(hv:Valid b){f:bt→Option Bool}{p:cR→Bool}(hf:∀ c∈bJ b,f (mS c)=some (p c)):A4 (RB b) f=some (yC ((bJ b).filter p).length (bJ b).length):=by
 unfold A4
 have ga:=A7 hv
 refine (gp (o:=(((bJ b).filter p).length:Int)) ?_).trans ?_
 ·have e0:((0:Int),(0:Int))=(λ k:Nat=>(((((bJ b).take k).filter p).length:Int),(k:Int))) 0:=rfl
  rw [e0]
  refine tv (λ k:Nat=>(((((bJ b).take k).filter p).length:Int),(k:Int))) (bJ b).length (λ k hk=>?_) (by simp only [List.length_map,fh,bm,List.take_length])
  have hc:(bJ b)[k]∈bJ b:=List.getElem_mem hk
  have hfl:(((bJ b).take k).filter p).length≤k:=Nat.le_trans (List.length_filter_le _ _) (by simp; omega)
  simp only [List.length_map,dec_lt hk,bw,cj,List.getElem?_map,List.getElem?_eq_getElem hk,Option.map_some,Option.bind_some,hf _ hc,cK (i:=k) (by omega),cK (i:=(((bJ b).take k).filter p).length) (by omega)]
  rw [List.take_succ_eq_append_getElem hk,List.filter_append,List.length_append]
  cases hp:p (bJ b)[k] with
  | true=>simp [hp,bw]
  | false=>simp [hp,bm]
 ·simp only [List.length_map]
  unfold yC
  by_cases h1:((bJ b).filter p).length=0
  ·rw [if_pos h1,h1]; rfl
  ·rw [if_neg h1,ab6,show (((bJ b).filter p).length == 0)=false by simpa using h1,bm]
   by_cases h2:((bJ b).filter p).length=(bJ b).length
   ·rw [if_pos h2,h2,beq_self_eq_true,bw]
   ·rw [if_neg h2,show ((((bJ b).filter p).length:Int) == ((bJ b).length:Int))=false by simp; omega,bm]
theorem ak5(b:aj):mC b=some 0:=rfl
end Go.Proofs.YtabamagholjdcaaGreatDoor
namespace Go.Proofs.YtabamagholjdcaaGreatDoor
open Go.Lg Go.Proofs
set_option maxRecDepth 10000
set_option maxRecDepth 1000000 in
def aK1(b:aj)(out:List Int):Int × Int :=
 if cY b≠0 then (0,cY b) else if kQ out (b.ao.length:Int)≠0 then (0,kQ out (b.ao.length:Int)) else if bJ b=[] then (0,9) else (yC ((bJ b).filter λ c=>lY b (eF b c out)).length (bJ b).length,0)
theorem a6V{b:aj}(hs:Small b){out:List Int}(ho:out.length≤100):we b out=some (aK1 b out):=by
 have hp:=hs.pieces
 unfold we aK1 Bj
 rw [Option.bind_some,My hs (own:=kQ out (b.ao.length:Int)) (λ _=>by unfold pQ; rw [abQ (by omega) (by omega) (by omega)]; rfl),Option.bind_some]
 unfold EZ
 by_cases h1:cY b=0
 ·have hv:=r7 hs h1
  have h5:=hv.n5
  simp only [h1,ne_eq,not_true_eq_false,if_false]
  by_cases h2:kQ out (b.ao.length:Int)=0
  ·simp only [h2,not_true_eq_false,if_false]
   by_cases h3:bJ b=[]
   ·rw [if_pos h3,if_pos h3]; rfl
   ·rw [if_neg h3,if_neg h3]
    simp only [bne_self_eq_false,bm]
    have v9:qU out:=λ x hx=>by have:=abX h2 x hx; omega
    rw [aNA hv (p:=λ c=>lY b (eF b c out)) λ c hc=>?_]
    ·rfl
    ·have hb:=abB hv hc out
     unfold EU
     rw [Mc v9 (by omega),Option.bind_some]
     dsimp only
     rw [abO hv hc,Option.bind_some,agG (b:=b) (m:=eF b c out) (by omega) (by omega)]
     rfl
  ·simp only [h2,not_false_eq_true,if_true,ly h2,bw]
 ·simp only [h1,ne_eq,not_false_eq_true,if_true,ly h1,bw]
end Go.Proofs.YtabamagholjdcaaGreatDoor
namespace Go.Proofs.YtabamagholjdcaaGreatDoor
open Go.Lg Go.Proofs
set_option maxRecDepth 10000
theorem aOs(x:Reach):yM x x=true:=by simp [yM]
end Go.Proofs.YtabamagholjdcaaGreatDoor
namespace Go.Proofs.YtabamagholjdcaaGreatDoor
open Go.Lg Go.Proofs
set_option maxRecDepth 10000
theorem aPA{w x:Int}:fH w [x]=max w x:=by
 show (if x > w then x else w)=_
 rw [Int.max_def]
 split <;> split <;> omega
theorem bar(n m:Nat):RZ (n:Int) (m:Int)=some (yC n m):=by
 unfold RZ yC
 rw [ab6]
 by_cases h1:n=0
 ·simp [h1,bw]
 ·rw [show (n == 0)=false by simpa using h1,bm,if_neg h1]
  by_cases h2:n=m
  ·simp [h2,bw]
  ·rw [show ((n:Int) == (m:Int))=false by simp; omega,bm,if_neg h2]
end Go.Proofs.YtabamagholjdcaaGreatDoor
