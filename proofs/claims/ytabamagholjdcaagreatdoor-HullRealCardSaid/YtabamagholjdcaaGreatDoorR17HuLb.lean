/- Plain laws of chapter 6, the rest. Conditions: none. -/
import Derived.Test.YtabamagholjdcaaGreatDoorR17HuL
import Derived.Test.YtabamagholjdcaaGreatDoorQHHuC
namespace Go.Proofs.YtabamagholjdcaaGreatDoor
open Go.Lg Go.Proofs
set_option maxRecDepth 10000
def Ib(b:aj)(hs:List bV):aj:=⟨b.aB,⟨b.aa.ai,b.aa.ak⟩,b.ao,b.Out,hs⟩
theorem aPj(b:aj)(hs:List bV):∀ (l out:List Int),gx (Ib b hs) out l=gx b out l
 | [],_=>rfl
 | p::r,out=>by
  unfold gx
  rw [show EH (Ib b hs) out p=EH b out p from rfl]
  cases EH b out p with
  | some h=>rfl
  | none=>exact aPj b hs r _
theorem a63{b:aj}(h:Small b){hs:List bV}(hl:hs.length≤20):Small (Ib b hs):=⟨h.pieces,h.out,hl,h.each⟩
theorem a8O{b:aj}(hs:Small b)(h:cY b=0){hl:List bV}(h4:hl.length≤4)(hm:∀ x∈hl,x∈b.aT):cY (Ib b hl)=0:=by
 have hv:=r7 hs h
 have e:cY (Ib b hl)=if yD b=false then 1 else if oF b≠0 then oF b else if yt b≠0 then yt b else Br (Ib b hl):=by
  unfold cY
  rw [show yt (Ib b hl)=yt b from aPj b hl _ _]
  rfl
 rw [e]
 unfold cY at h
 by_cases h1:yD b=false
 ·rw [if_pos h1] at h; cases h
 rw [if_neg h1] at h ⊢
 by_cases h2:oF b=0
 ·rw [if_neg (by simpa using h2)] at h ⊢
  by_cases h3:yt b=0
  ·rw [if_neg (by simpa using h3)]
   unfold Br
   rw [if_neg (by show ¬ 4 < hl.length; omega),uZ.2 (λ i _ hi=>?_)]
   ·rfl
   ·have hx:=hv.ack _ (hm _ (iZ (l:=hl) (i:=i) (by simpa [Ib] using hi)))
    unfold yB
    rw [if_neg,if_neg]
    ·rw [Bool.not_eq_false,yL]; exact hx.2.2
    ·rw [Bool.not_eq_false,yL]; exact ⟨hx.1,hx.2.1⟩
  ·rw [if_pos (by simpa using h3)] at h; exact absurd h h3
 ·rw [if_pos (by simpa using h2)] at h; exact absurd h h2
def hZ(n a:Nat):List Int:=((List.range n).filter λ i=>a.testBit i).map λ (i:Nat)=>(i:Int)
def abH(b:aj)(a:Nat):List bV:=((List.range b.aT.length).filter λ i=>a.testBit i).map λ i=>nth b.aT i
def a7G:List Int→List Int→Bool
 | [],[]=>false
 | [],_::_=>true
 | _::_,[]=>false
 | a::l,c::m=>decide (a < c) || (a == c && a7G l m)
def Rv(l m:List Int):Bool:=decide (l.length < m.length) || (l.length == m.length && a7G l m)
def okA(n a:Nat):Bool :=
 kQ (hZ n a) n == 0 && (((hZ n a).length == 0) == (a == 0)) && (a == 0 || Rv [] (hZ n a)) && !Rv (hZ n a) (hZ n a) && decide ((hZ n a).length≤4) &&
  ((List.range (hZ n a).length).all λ i=>match c68 (hZ n a) i with | some l=>(List.range (2 ^ n)).any λ c=>l == hZ n c && Rv l (hZ n a) | none=>false) &&
  ((List.range n).all λ i=>(qV .i64 a i).bind (λ x=>pL .and .i64 x 1) == some (if a.testBit i then 1 else 0))
def okC(n a c:Nat):Bool:=alm (hZ n a) (hZ n c) == some (Rv (hZ n a) (hZ n c)) && c67 (hZ n a) (hZ n c) == some (Rv (hZ n a) (hZ n c)) &&
 ((List.range (2 ^ n)).all λ d=>!(Rv (hZ n a) (hZ n c) && Rv (hZ n c) (hZ n d)) || Rv (hZ n a) (hZ n d))
set_option maxRecDepth 1000000 in
theorem a6X:((List.range 5).all λ n=>se .i64 1 n == some ((2 ^ n:Nat):Int) && (List.range (2 ^ n)).all λ a=>okA n a && (List.range (2 ^ n)).all λ c=>okC n a c)=true:=by decide +kernel
set_option maxRecDepth 1000000 in
theorem bbk{n:Nat}(h:n < 5):se .i64 1 (n:Int)=some ((2 ^ n:Nat):Int):=by
 have:=a6X
 simp only [List.all_eq_true,List.mem_range,Bool.and_eq_true,beq_iff_eq] at this
 exact (this n h).1
theorem a75{n a:Nat}(h:n < 5)(ha:a < 2 ^ n):kQ (hZ n a) n=0∧((hZ n a).length=0↔a=0)∧(a≠0→Rv [] (hZ n a)=true)∧Rv (hZ n a) (hZ n a)=false∧(hZ n a).length≤4 ∧
  (∀ i,i < (hZ n a).length→∃ c,c < 2 ^ n∧Su (hZ n a) i=some (hZ n c)∧Rv (hZ n c) (hZ n a)=true)∧∀ i,i < n→(qV .i64 a i).bind (λ x=>pL .and .i64 x 1)=some (if a.testBit i then 1 else 0):=by
 have:=a6X
 simp only [List.all_eq_true,List.mem_range,Bool.and_eq_true,beq_iff_eq] at this
 have h1:=((this n h).2 a ha).1
 simp only [okA,Bool.and_eq_true,beq_iff_eq,List.all_eq_true,List.mem_range,Bool.or_eq_true,Bool.not_eq_true',decide_eq_true_eq] at h1
 obtain ⟨⟨⟨⟨⟨⟨h1,h2⟩,h3⟩,h4⟩,h5⟩,h6⟩,h7⟩:=h1
 refine ⟨h1,?_,λ b7=>h3.resolve_left b7,h4,h5,λ i hi=>?_,h7⟩
 ·rw [Bool.eq_iff_iff] at h2; simpa using h2
 ·have h8:=h6 i hi
  cases hc:c68 (hZ n a) i with
  | none=>rw [hc] at h8; cases h8
  | some l =>
   rw [hc] at h8
   simp only [List.any_eq_true,List.mem_range,Bool.and_eq_true,beq_iff_eq] at h8
   obtain ⟨c,c6,bD,bP⟩:=h8
   subst bD
   exact ⟨c,c6,aPi _ _ _ hc,bP⟩
theorem a76{n a c:Nat}(h:n < 5)(ha:a < 2 ^ n)(hc:c < 2 ^ n):EY (hZ n a) (hZ n c)=some (Rv (hZ n a) (hZ n c))∧Ss (hZ n a) (hZ n c)=some (Rv (hZ n a) (hZ n c)) ∧
  ∀ d,d < 2 ^ n→Rv (hZ n a) (hZ n c)=true→Rv (hZ n c) (hZ n d)=true→Rv (hZ n a) (hZ n d)=true:=by
 have:=a6X
 simp only [List.all_eq_true,List.mem_range,Bool.and_eq_true,beq_iff_eq] at this
 have h1:=((this n h).2 a ha).2 c hc
 simp only [okC,Bool.and_eq_true,beq_iff_eq,List.all_eq_true,List.mem_range,Bool.or_eq_true,Bool.not_eq_true'] at h1
 obtain ⟨⟨h1,h2⟩,h3⟩:=h1
 refine ⟨aPg _ _ _ h1,aPh _ _ _ h2,λ d hd g1 g2=>(h3 d hd).resolve_left λ hn=>?_⟩
 rw [g1,g2] at hn
 cases hn
theorem a9o(b:aj)(a:Nat):∀ x∈abH b a,x∈b.aT:=by
 intro x hx
 simp only [abH,List.mem_map,List.mem_filter,List.mem_range] at hx
 obtain ⟨i,⟨hi,_⟩,rfl⟩:=hx
 exact iZ hi
theorem a9n(b:aj)(a:Nat):(abH b a).length≤b.aT.length:=by
 unfold abH
 rw [List.length_map]
 exact Nat.le_trans (List.length_filter_le _ _) (by simp)
def By(b:aj):List (List Int):=(List.range (2 ^ b.aT.length)).flatMap λ a=>if Ra (Ib b (abH b a))=true then [] else [hZ b.aT.length a]
theorem aNG{b:aj}{l:List Int}:l∈By b↔∃ a,a < 2 ^ b.aT.length∧Ra (Ib b (abH b a))=false∧l=hZ b.aT.length a:=by
 simp only [By,List.mem_flatMap,List.mem_range]
 constructor
 ·rintro ⟨a,ha,h⟩
  split at h
  ·cases h
  ·rename_i hc; exact ⟨a,ha,by simpa using hc,by simpa using h⟩
 ·rintro ⟨a,ha,hc,rfl⟩
  exact ⟨a,ha,by rw [if_neg (by simp [hc])]; simp⟩
def bst(l:List (List Int)):Nat→List Int
 | 0=>nth l 0
 | i+1=>if Rv (nth l i) (bst l i)=true then nth l i else bst l i
theorem a84{n:Nat}:∀ i,i < n→(2 ^ n - 1).testBit i=true:=λ i hi=>by rw [Nat.testBit_two_pow_sub_one]; simpa using hi
theorem a9m(b:aj):abH b (2 ^ b.aT.length - 1)=b.aT:=by
 unfold abH
 rw [List.filter_eq_self.2 (λ i hi=>a84 i (List.mem_range.1 hi))]
 refine alF (by simp) λ i hi=>?_
 rw [List.length_map,List.length_range] at hi
 have h1:=bz (l:=(List.range b.aT.length).map λ i=>nth b.aT i) (i:=i) (by simpa using hi)
 simp only [List.getElem?_map,List.getElem?_range hi,Option.map_some,Option.some.injEq] at h1
 exact h1.symm
theorem ba2{n:Nat}(h:n < 5):2 ^ n≤16:=by
 match n,h with
 | 0,_=>decide
 | 1,_=>decide
 | 2,_=>decide
 | 3,_=>decide
 | 4,_=>decide
structure a8t (b:aj) (l:List Int) (h:Int):Prop where
 a8Y:Ra b=true→l=[]∧h=0
 odd:Ra b=false→∃ a,a < 2 ^ b.aT.length∧l=hZ b.aT.length a∧Ra (Ib b (abH b a))=false∧(∀ c,c < 2 ^ b.aT.length→Ra (Ib b (abH b c))=false→Rv (hZ b.aT.length c) l=false)∧h=if l.length=0 then 8 else 0
theorem bay{b:aj}(hs:Small b)(h1:cY b=0):∃ l h,Bl b=some (l,h)∧a8t b l h:=by
 have hv:=r7 hs h1
 have h4:=hv.EM
 have hp:=ba2 (n:=b.aT.length) (by omega)
 unfold Bl
 rw [ZV hs,Option.bind_some,h1,aZ5 hv]
 simp only [bne_self_eq_false,bm,Option.bind_some]
 cases hc:Ra b with
 | true=>exact ⟨[],0,rfl,λ _=>⟨rfl,rfl⟩,λ h=>by rw [hc] at h; cases h⟩
 | false =>
 have hvm:∀ a,Valid (Ib b (abH b a)):=λ a=>by
  have:=a9n b a
  exact r7 (a63 hs (by omega)) (a8O hs h1 (by omega) (a9o b a))
 have a9u:(2 ^ b.aT.length - 1) < 2 ^ b.aT.length:=by have:=Nat.two_pow_pos b.aT.length; omega
 have v9:hZ b.aT.length (2 ^ b.aT.length - 1)∈By b:=aNG.2 ⟨_,a9u,by rw [a9m]; exact hc,rfl⟩
 have b7:0 < (By b).length:=List.length_pos_of_mem v9
 have hol:(By b).length≤16:=by
  have key:∀ l:List Nat,(l.flatMap λ a=>if Ra (Ib b (abH b a))=true then [] else [hZ b.aT.length a]).length≤l.length:=by
   intro l
   induction l with
   | nil=>simp
   | cons a l ih =>
    simp only [List.flatMap_cons,List.length_append,List.length_cons]
    split
    ·simp only [List.length_nil]; omega
    ·simp only [List.length_cons,List.length_nil]; omega
  have:=key (List.range (2 ^ b.aT.length))
  rw [List.length_range] at this
  unfold By
  omega
 have a7C:∀ i,i≤(By b).length→bst (By b) i∈By b∧∀ j,j < i→Rv (nth (By b) j) (bst (By b) i)=false:=by
  intro i
  induction i with
  | zero=>intro _; exact ⟨iZ b7,λ j hj=>by omega⟩
  | succ i ih =>
   intro hi
   obtain ⟨g1,g2⟩:=ih (by omega)
   obtain ⟨a,ha,_,ea⟩:=aNG.1 g1
   obtain ⟨c,hc',_,ec⟩:=aNG.1 (iZ (l:=By b) (i:=i) (by omega))
   simp only [bst]
   by_cases hf:Rv (nth (By b) i) (bst (By b) i)=true
   ·rw [if_pos hf]
    refine ⟨iZ (by omega),λ j hj=>?_⟩
    by_cases dA:j=i
    ·subst dA; rw [ec]; exact (a75 (by omega) hc').2.2.2.1
    ·cases hx:Rv (nth (By b) j) (nth (By b) i) with
     | false=>rfl
     | true =>
      obtain ⟨d,hd,_,ed⟩:=aNG.1 (iZ (l:=By b) (i:=j) (by omega))
      have h3:=g2 j (by omega)
      rw [ec,ea] at hf
      rw [ec,ed] at hx
      rw [ed,ea,(a76 (by omega) hd hc').2.2 a ha hx hf] at h3
      cases h3
   ·rw [if_neg hf]
    refine ⟨g1,λ j hj=>?_⟩
    by_cases dA:j=i
    ·subst dA; simpa using hf
    ·exact g2 j (by omega)
 obtain ⟨g1,g2⟩:=a7C _ (Nat.le_refl _)
 obtain ⟨a,ha,hca,ea⟩:=aNG.1 g1
 refine ⟨bst (By b) (By b).length,if (bst (By b) (By b).length).length=0 then 8 else 0,?_,⟨λ h=>(by rw [hc] at h; cases h),λ _=>⟨a,ha,ea,hca,λ c ga pH=>?_,rfl⟩⟩⟩
 ·rw [bm,bbk (by omega),Option.bind_some]
  rw [gp (o:=By b) ?_]
  ·rw [show idx (By b) 0=some (nth (By b) 0) from bz b7,Option.bind_some]
   rw [gp (o:=bst (By b) (By b).length) ?_]
   ·by_cases hz:(bst (By b) (By b).length).length=0
    ·rw [if_pos hz,show ((bst (By b) (By b).length).length:Int) == 0 from by simp [hz],bw,List.length_eq_zero_iff.1 hz]
    ·rw [if_neg hz,show (((bst (By b) (By b).length).length:Int) == 0)=false from by simpa using hz,bm]
   ·have e0:(nth (By b) 0,(0:Int))=(λ i:Nat=>(bst (By b) i,(i:Int))) 0:=rfl
    rw [e0]
    refine tv (λ i:Nat=>(bst (By b) i,(i:Int))) (By b).length (λ i hi=>?_) (by simp only [fh,bm])
    obtain ⟨a,ha,_,ea⟩:=aNG.1 (a7C i (by omega)).1
    obtain ⟨c,hc',_,ec⟩:=aNG.1 (iZ hi)
    simp only [dec_lt hi,bw,cj,bz hi,Option.bind_some,cK (i:=i) (by omega),bst]
    rw [ec,ea,(a76 (by omega) hc' ha).1,Option.bind_some]
    cases Rv (hZ b.aT.length c) (hZ b.aT.length a) <;> rfl
  ·have e0:(([]:List (List Int)),(0:Int))=([],(λ i:Nat=>(i:Int)) 0):=rfl
   rw [e0,show By b=[]++By b from rfl]
   unfold By
   refine aOv (λ i:Nat=>(i:Int)) (λ a=>if Ra (Ib b (abH b a))=true then [] else [hZ b.aT.length a]) (2 ^ b.aT.length) 1 [] (λ a _=>by split <;> simp) (λ a l ha hl=>?_) (λ l=>by simp only [fh,bm])
   have hb:=(a75 (n:=b.aT.length) (by omega) ha).2.2.2.2.2.2
   simp only [dec_lt ha,bw]
   rw [gp (o:=(hZ b.aT.length a,abH b a)) ?_]
   ·rw [show (⟨b.aB,⟨b.aa.ai,b.aa.ak⟩,b.ao,b.Out,abH b a⟩:aj)=Ib b (abH b a) from rfl,aZ5 (hvm a),Option.bind_some,cK (i:=a) (by omega)]
    cases Ra (Ib b (abH b a)) with
    | true=>simp [bm]
    | false =>
     simp only [List.length_nil] at hl
     simp only [Bool.not_false,bw]
     rw [mb (by simp; omega)]
     rfl
   ·have q0:(([]:List Int),(0:Int),([]:List bV))=(λ i:Nat=>(((List.range i).filter λ i=>a.testBit i).map (λ (i:Nat)=>(i:Int)),(i:Int),((List.range i).filter λ i=>a.testBit i).map λ i=>nth b.aT i)) 0:=rfl
    rw [q0]
    refine tv (λ i:Nat=>(((List.range i).filter λ i=>a.testBit i).map (λ (i:Nat)=>(i:Int)),(i:Int),((List.range i).filter λ i=>a.testBit i).map λ i=>nth b.aT i)) b.aT.length (λ i hi=>?_) (by simp only [fh,bm]; rfl)
    have hfl:((List.range i).filter λ i=>a.testBit i).length≤i:=Nat.le_trans (List.length_filter_le _ _) (by simp)
    have hbi:=hb i hi
    obtain ⟨x,hx,hbi⟩:=af hbi
    simp only [dec_lt hi,bw,cj,bz hi,Option.bind_some,hx,hbi,cK (i:=i) (by omega),List.range_succ,List.filter_append,List.map_append]
    cases ht:a.testBit i with
    | true =>
     simp only [if_true,beq_self_eq_true,bw]
     rw [mb (by simp; omega),Option.bind_some,mb (by simp; omega),Option.bind_some]
     simp [ht]
    | false=>simp [ht,bm]
 ·obtain ⟨j,hj,ej⟩:=Bp (aNG.2 ⟨c,ga,pH,rfl⟩:hZ b.aT.length c∈By b)
  rw [← ej]
  exact g2 j hj
theorem ab6{n:Nat}:(((n:Nat):Int) == 0)=(n == 0):=by
 rw [Bool.eq_iff_iff,beq_iff_eq,beq_iff_eq]
 omega
end Go.Proofs.YtabamagholjdcaaGreatDoor
namespace Go.Proofs.YtabamagholjdcaaGreatDoor
open Go.Lg Go.Proofs
set_option maxRecDepth 10000
def ER(m:Int):Int:=if m < 0 then -m else m
theorem aOh{w m:Int}(h0:0≤w)(h1 : -1000000≤m)(h2:m≤1000000):fH w [m,i64 (0 - m)]=max w (ER m):=by
 rw [dR (by omega) (by omega)]
 unfold ER
 show (if 0 - m > (if m > w then m else w) then 0 - m else (if m > w then m else w))=_
 rw [Int.max_def]
 split <;> split <;> split <;> first | omega | (split <;> omega)
def eF(b:aj)(c:cR)(out:List Int):Int:=oE b c.aa c.eU out
theorem akj{b:aj}{c:cR}(h:c∈bJ b):c.eU∈oL b∧b.aa.ai≤c.aa∧c.aa≤b.aa.ak∧lh b c.aa c.eU=true:=by
 simp only [bJ,List.mem_flatMap,List.mem_map,List.mem_filter] at h
 obtain ⟨n,hn,w,⟨hw,hs⟩,rfl⟩:=h
 exact ⟨hw,(L5.1 hn).1,(L5.1 hn).2,hs⟩
theorem Q8{b:aj}(hv:Valid b){c:cR}(h:c∈bJ b):c.eU.length=b.ao.length∧uI b c.aa c.eU:=by
 obtain ⟨h1,h2,h3,_⟩:=akj h
 have hm:=ajd h1
 have hb:=hv.df
 exact ⟨hm.1,⟨by omega,by omega,λ k hk=>by
  have g1:=hm.2 k hk
  have g2:=(hv.each k hk).weight
  omega⟩⟩
theorem abB{b:aj}(hv:Valid b){c:cR}(h:c∈bJ b)(out:List Int) : -6000≤eF b c out∧eF b c out≤6000:=abR hv (Q8 hv h).2
theorem abO{b:aj}(hv:Valid b){c:cR}(h:c∈bJ b)(out:List Int):pM b (mS c) (c7 out)=some (eF b c out):=by
 obtain ⟨hl,hf⟩:=Q8 hv h
 unfold mS eF
 rw [acn hv (abY hv hl hf),acs hv hl]
theorem aNH{b:aj}{c:cR}{out E1:List Int}(h:∀ i:Nat,i < b.ao.length→out.contains (i:Int)=E1.contains (i:Int)):eF b c out=eF b c E1:=abA _ (λ _ _=>rfl) h
set_option maxRecDepth 1000000 in
abbrev RB(b:aj):di:=⟨b,(bJ b).map mS,[]⟩
end Go.Proofs.YtabamagholjdcaaGreatDoor
namespace Go.Proofs.YtabamagholjdcaaGreatDoor
open Go.Lg Go.Proofs
set_option maxRecDepth 10000
def wS(b:aj)(o:List Int):List (List Int):=(List.range o.length).map λ i=>b.Out++o.take (i+1)
theorem alz{b:aj}(hv:Valid b){o:List Int}(ho:qU o)(hl:o.length≤1000){S:Type}(ys:List Bool→S→Option (S × Bool)){s:S}{r:S × Bool}(hr:hF ys ((wS b o).map c7) s=some r):qZ ys b o s=some r.1:=by
 unfold qZ
 have hos:=hv.small.out
 rw [Mc hv.Zj (by omega),Option.bind_some]
 have e0:(s,(0:Int),c7 b.Out)=(s,(λ q:Nat=>((q:Int),c7 (b.Out++o.take q))) 0):=by simp
 rw [e0]
 refine (gp (RX (ys:=ys) (E:=S) (λ s=>s) (λ q:Nat=>((q:Int),c7 (b.Out++o.take q))) (λ q=>[c7 (b.Out++o.take (q+1))]) o.length (λ q s r hq hr=>?_) (λ s=>?_) (s:=s) (r:=r) ?_)).trans ?_
 rotate_right
 ·cases h2:r.2 with
  | true=>simp
  | false=>simp
 ·have hx:=ho _ (iZ hq)
  have h1:qU [nth o q]:=λ x q8=>by simp at q8; subst q8; exact hx
  simp only [hF] at hr
  obtain ⟨z,hz,hr⟩:=af hr
  have et:b.Out++o.take q++[nth o q]=b.Out++o.take (q+1):=by
   rw [List.append_assoc,List.take_succ_eq_append_getElem hq]
   have:=bz hq
   rw [List.getElem?_eq_getElem hq] at this
   rw [Option.some.inj this]
  simp only [dec_lt hq,bw,cj,bz hq,Option.bind_some,Si h1 (by simp),et,hz,cK (i:=q) (by omega)]
  cases h2:z.2 with
  | true=>rw [h2,if_pos rfl] at hr; cases hr; simp [bm]
  | false=>rw [h2,if_neg (by simp)] at hr; cases hr; simp [bw]
 ·simp only [fh,bm]
 ·rw [← hr,aeY]
  congr 1
  simp [wS,List.map_map]
def LU(b:aj)(o:List Int):Prop:=∀ x∈o,0≤x∧x < (b.ao.length:Int)
theorem alu{b:aj}(hv:Valid b){o:List Int}(h:LU b o):qU o:=λ x hx=>by
 have:=h x hx
 have:=hv.n5
 omega
def left(b:aj)(out:List Int):Nat:=((List.range b.ao.length).filter λ (i:Nat)=>!out.contains (i:Int)).length
theorem Sj{b:aj}{out:List Int}{n:Int}:n∈ju b out↔∃ i:Nat,i < b.ao.length∧n=(i:Int)∧lq b out (i:Int)=true:=by
 simp only [ju,List.mem_filterMap,List.mem_range]
 constructor
 ·rintro ⟨i,hi,h⟩
  split at h
  ·rename_i hc; cases h; exact ⟨i,hi,rfl,hc⟩
  ·cases h
 ·rintro ⟨i,hi,rfl,hc⟩
  exact ⟨i,hi,by rw [if_pos hc]⟩
theorem abW{b:aj}{out:List Int}{p:Int}(h:lq b out p=true):out.contains p=false:=by
 unfold lq at h
 rw [Bool.and_eq_true] at h
 simpa using h.1
theorem ako{p q:Nat→Bool}{i:Nat}:∀ l:List Nat,l.Nodup→i∈l→p i=true→q i=false→(∀ j,j∈l→j≠i→p j=q j)→(l.filter p).length=(l.filter q).length+1
 | [],_,h,_,_,_=>by cases h
 | a::l,hn,hm,hp,hq,he=>by
  rw [List.nodup_cons] at hn
  by_cases ha:a=i
  ·subst ha
   have hl:l.filter p=l.filter q:=List.filter_congr λ j hj=>he j (by simp [hj]) (λ e=>hn.1 (e ▸ hj))
   simp [hp,hq,hl]
  ·have mU:i∈l:=by
    rcases List.mem_cons.1 hm with h | h
    ·exact absurd h.symm ha
    ·exact h
   have ih:=ako l hn.2 mU hp hq (λ j hj=>he j (by simp [hj]))
   have ea:=he a (by simp) ha
   rw [List.filter_cons,List.filter_cons,ea]
   cases q a <;> simp [ih]
theorem abN{b:aj}{out:List Int}{i:Nat}(hi:i < b.ao.length)(h:out.contains (i:Int)=false):left b out=left b (out++[(i:Int)])+1:=by
 unfold left
 refine ako (i:=i) _ List.nodup_range (List.mem_range.2 hi) (by rw [h]; rfl) ?_ λ j hj b7=>?_
 ·simp
 ·simp only [List.contains_eq_mem,List.mem_append,List.mem_singleton,Int.natCast_inj,b7,or_false]
theorem aNX{b:aj}(hv:Valid b){out:List Int}(h:ju b out=[]):∀ i:Nat,i < b.ao.length→out.contains (i:Int)=true:=by
 have key:∀ k,k≤b.ao.length→∀ i:Nat,b.ao.length - k≤i→i < b.ao.length→out.contains (i:Int)=true:=by
  intro k
  induction k with
  | zero=>intro _ i h1 h2; omega
  | succ k ih =>
   intro hk i h1 h2
   by_cases hi:b.ao.length - k≤i
   ·exact ih (by omega) i hi h2
   ·cases hc:out.contains (i:Int) with
    | true=>rfl
    | false =>
     have ga:lq b out (i:Int)=true:=by
      unfold lq
      rw [hc,Bool.not_false,Bool.true_and,List.all_eq_true]
      intro j hj
      have hj:=List.mem_range.1 hj
      cases hr:pJ b (i:Int) j with
      | false=>simp
      | true =>
       unfold pJ at hr
       have hon:=abX (hv.each j hj).on (i:Int) (by simpa using hr)
       rw [ih (by omega) j (by omega) hj]
       rfl
     have:=Sj.2 ⟨i,h2,rfl,ga⟩
     rw [h] at this
     cases this
 intro i hi
 exact key _ (Nat.le_refl _) i (by omega) hi
theorem H9{b:aj}:∀ (t out:List Int),gx b out t=0→left b out=left b (out++t)+t.length
 | [],out,_=>by simp
 | p::t,out,h=>by
  obtain ⟨h1,h2,_,h4⟩:=KO.1 h
  have hp:=yE.1 h1
  obtain ⟨i,rfl⟩:∃ i:Nat,p=(i:Int):=⟨p.toNat,by omega⟩
  have:=H9 t _ h4
  have:=abN (b:=b) (i:=i) (by omega) h2
  rw [List.append_assoc,List.singleton_append] at *
  simp only [List.length_cons]
  omega
theorem abM(b:aj):left b []=b.ao.length:=by
 unfold left
 rw [List.filter_eq_self.2 (by simp),List.length_range]
theorem alv{b:aj}(hv:Valid b){out:List Int}(h:ju b out=[]):left b out=0:=by
 have:=aNX hv h
 unfold left
 rw [List.filter_eq_nil_iff.2]
 ·rfl
 ·intro i hi
  rw [this i (List.mem_range.1 hi)]
  simp
structure Ord (b:aj) (o:List Int):Prop where
 lift:gx b b.Out o=0
 len:b.Out.length+o.length=b.ao.length
theorem Ord.isP{b:aj}{o:List Int}(h:Ord b o):LU b o:=λ x hx=>by
 have:=yE.1 (Rq h.lift x hx)
 omega
end Go.Proofs.YtabamagholjdcaaGreatDoor
namespace Go.Proofs.YtabamagholjdcaaGreatDoor
open Go.Lg Go.Proofs
set_option maxRecDepth 10000
def Ml(b:aj)(o:List Int):Int:=if gx b b.Out o≠0 then gx b b.Out o else if b.Out.length+o.length≠b.ao.length then 2 else 0
theorem alH{b:aj}{o:List Int}:Ml b o=0↔Ord b o:=by
 unfold Ml
 constructor
 ·intro h
  split at h
  ·rename_i h1; exact absurd h h1
  ·rename_i h1
   split at h
   ·cases h
   ·rename_i h2; exact ⟨by simpa using h1,by simpa using h2⟩
 ·rintro ⟨h1,h2⟩
  rw [if_neg (by simpa using h1),if_neg (by simpa using h2)]
theorem aPz{b:aj}(hs:Small b)(h1:cY b=0){o:List Int}(hl:o.length≤100):Bw b o=some (Ml b o):=by
 have hv:=r7 hs h1
 have hos:=hs.out
 have h5:=hv.n5
 unfold Bw Ml
 rw [Mc hv.Zj (by omega),Option.bind_some]
 obtain ⟨g,hg,_⟩:=aj1 hs h5 hl b.Out
 rw [hg,Option.bind_some]
 by_cases h2:gx b b.Out o=0
 ·simp only [h2,bne_self_eq_false,bm,ne_eq,not_true_eq_false,if_false]
  rw [dR (by omega) (by omega),show ((b.Out.length:Int)+(o.length:Int))=((b.Out.length+o.length:Nat):Int) by omega,aOu]
  by_cases h3:b.Out.length+o.length=b.ao.length
  ·simp [h3,bm]
  ·simp [h3,bw]
 ·simp only [h2,ne_eq,not_false_eq_true,if_true,ly h2,bw]
def ynB:Bool→(Unit ⊕ Unit) × Bool
 | true=>(.inl (),true)
 | false=>(.inr (),false)
def EO(b:aj)(o:List Int)(c:cR):Bool:=(wS b o).all λ g=>!lY b (eF b c g)
theorem aPk{b:aj}(hv:Valid b){o:List Int}(ho:LU b o)(hl:o.length≤1000){c:cR}(hc:c∈bJ b):Bv (mS c) (RB b) o=some (EO b o c):=by
 unfold Bv yq
 rw [Option.bind_some]
 dsimp only
 have key:∀ l:List (List Int),hF (dq λ (x:List Bool) (_:Unit)=>(pM b (mS c) x).bind λ l6=>(wj b l6).bind λ gr=>ae gr (some (.inr ())) (some (.inl ()):Option (Unit ⊕ Unit))) (l.map c7) (.inl ())=some (ynB (l.all λ g=>!lY b (eF b c g))):=by
  intro l
  induction l with
  | nil=>rfl
  | cons g l ih =>
   have hb:=abB hv hc g
   simp only [List.map_cons,hF,dq,abO hv hc,Option.bind_some,agG (b:=b) (m:=eF b c g) (by omega) (by omega),List.all_cons]
   cases lY b (eF b c g) with
   | true=>rfl
   | false=>simpa [bm] using ih
 rw [alz hv (alu hv ho) hl _ (key _)]
 unfold EO
 cases (wS b o).all λ g=>!lY b (eF b c g) <;> rfl
def yC(n all:Nat):Int:=if n=0 then 2 else if n=all then 1 else 0
theorem aNA{b:aj}(hv:Valid b){f:bt→Option Bool}{p:cR→Bool}(hf:∀ c∈bJ b,f (mS c)=some (p c)):A4 (RB b) f=some (yC ((bJ b).filter p).length (bJ b).length):=by
 unfold A4
 have ga:=A7 hv
 refine (gp (o:=(((bJ b).filter p).length:Int)) ?_).trans ?_
 ·have e0:((0:Int),(0:Int))=(λ k:Nat=>(((((bJ b).take k).filter p).length:Int),(k:Int))) 0:=rfl
  rw [e0]
  refine tv (λ k:Nat=>(((((bJ b).take k).filter p).length:Int),(k:Int))) (bJ b).length (λ k hk=>?_) (by simp only [List.length_map,fh,bm,List.take_length])
  have hc:(bJ b)[k]∈bJ b:=List.getElem_mem hk
  have hfl:(((bJ b).take k).filter p).length≤k:=Nat.le_trans (List.length_filter_le _ _) (by simp; omega)
  simp only [List.length_map,dec_lt hk,bw,cj,List.getElem?_map,List.getElem?_eq_getElem hk,Option.map_some,Option.bind_some,hf _ hc,cK (i:=k) (by omega),cK (i:=(((bJ b).take k).filter p).length) (by omega)]
  rw [List.take_succ_eq_append_getElem hk,List.filter_append,List.length_append]
  cases hp:p (bJ b)[k] with
  | true=>simp [hp,bw]
  | false=>simp [hp,bm]
 ·simp only [List.length_map]
  unfold yC
  by_cases h1:((bJ b).filter p).length=0
  ·rw [if_pos h1,h1]; rfl
  ·rw [if_neg h1,ab6,show (((bJ b).filter p).length == 0)=false by simpa using h1,bm]
   by_cases h2:((bJ b).filter p).length=(bJ b).length
   ·rw [if_pos h2,h2,beq_self_eq_true,bw]
   ·rw [if_neg h2,show ((((bJ b).filter p).length:Int) == ((bJ b).length:Int))=false by simp; omega,bm]
def abT(b:aj)(o:List Int):Int × Int :=
 if cY b≠0 then (0,cY b) else if Ml b o≠0 then (0,Ml b o) else if bJ b=[] then (0,9) else (yC ((bJ b).filter (EO b o)).length (bJ b).length,0)
theorem aOa{b:aj}(hs:Small b){o:List Int}(hl:o.length≤100):oM b o=some (abT b o):=by
 unfold oM abT
 rw [My hs (own:=Ml b o) (λ h1=>aPz hs h1 hl),Option.bind_some]
 unfold EZ
 by_cases h1:cY b=0
 ·have hv:=r7 hs h1
  simp only [h1,ne_eq,not_true_eq_false,if_false]
  by_cases h2:Ml b o=0
  ·simp only [h2,not_true_eq_false,if_false]
   by_cases h3:bJ b=[]
   ·rw [if_pos h3,if_pos h3]; rfl
   ·rw [if_neg h3,if_neg h3]
    simp only [bne_self_eq_false,bm]
    rw [aNA hv λ c hc=>aPk hv (alH.1 h2).isP (by omega) hc]
    rfl
  ·simp only [h2,not_false_eq_true,if_true,ly h2,bw]
 ·simp only [h1,ne_eq,not_false_eq_true,if_true,ly h1,bw]
theorem bbb{b:aj}(m:Int):(!lY b m)=decide (ER m≤b.aB):=by
 rw [Bool.eq_iff_iff]
 unfold lY ER
 simp only [Bool.not_eq_true',Bool.or_eq_false_iff,decide_eq_false_iff_not,decide_eq_true_eq]
 split <;> omega
theorem aZx{α:Type}{p:α→Bool}{l:List α}(b7:l≠[]):(yC (l.filter p).length l.length == 1)=decide (∀ c∈l,p c=true):=by
 rw [Bool.eq_iff_iff,decide_eq_true_eq,beq_iff_eq]
 unfold yC
 have hlen:0 < l.length:=List.length_pos_iff.2 b7
 constructor
 ·intro h
  split at h
  ·cases h
  ·split at h
   ·rename_i h2
    intro c hc
    exact (List.filter_eq_self.1 (List.Sublist.eq_of_length (List.filter_sublist) h2)) c hc
   ·cases h
 ·intro h
  rw [List.filter_eq_self.2 h,if_neg (by omega),if_pos rfl]
theorem ab9{b:aj}(hv:Valid b){o:List Int}(h:Ord b o):o.length≤5:=by
 have:=h.len
 have:=hv.n5
 omega
theorem ak5(b:aj):mC b=some 0:=rfl
end Go.Proofs.YtabamagholjdcaaGreatDoor
namespace Go.Proofs.YtabamagholjdcaaGreatDoor
open Go.Lg Go.Proofs
set_option maxRecDepth 10000
theorem akY{b:aj}:∀ (t u out:List Int),gx b out t=0→gx b (out++t) u=0→gx b out (t++u)=0
 | [],u,out,_,h=>by simpa using h
 | p::t,u,out,h1,h2=>by
  obtain ⟨g1,g2,g3,g4⟩:=KO.1 h1
  rw [List.cons_append]
  exact KO.2 ⟨g1,g2,g3,akY t u _ g4 (by rw [← List.append_cons]; exact h2)⟩
theorem aOc{b:aj}(hs:Small b)(hv:Valid b){l:List Int}(hl:RF l):∃ o,A6 b l=some o∧Ord b o:=by
 unfold A6
 have h5:=hv.n5
 have hos:=hs.out
 rw [mb (by simp; omega),Option.bind_some,List.nil_append]
 have key:∀ (k:Nat) (out:List Int),b.Out.length+out.length+k=b.ao.length→gx b b.Out out=0→∃ o,(bd (λ (dr:((List Int) × (List Int))) =>
   ae (decide ((dr.2.length:Int) < (b.ao.length:Int)))
   ((HX b dr.2).bind λ nQ =>
   ae ((nQ.length:Int) == 0)
   (some (.inr (.inr dr.1)))
   ((Bo l (i64 (6+(dr.1.length:Int)))).bind λ yy =>
   (q6 yy (nQ.length:Int)).bind λ pD =>
   (idx nQ pD).bind λ j5 =>
   (cV dr.1 [j5]).bind λ oJ =>
   (cV dr.2 [j5]).bind λ sf =>
   some (.inl (oJ,sf))))
   (some (.inr (.inl dr.1)):Option (((List Int) × (List Int)) ⊕ ((List Int) ⊕ (List Int))))) (out,b.Out++out))=some (.inl o)∧Ord b o:=by
  intro k
  induction k with
  | zero =>
   intro out hk OI
   refine ⟨out,gW ?_,OI,by omega⟩
   simp only [show decide (((b.Out++out).length:Int) < (b.ao.length:Int))=false by simp; omega,bm]
  | succ k ih =>
   intro out hk OI
   have aNZ:ju b (b.Out++out)≠[]:=λ hf=>by
    have e1:=H9 _ _ hv.out
    have e2:=H9 _ _ OI
    have e3:=alv hv hf
    rw [abM,List.nil_append] at e1
    omega
   have hfl:=ajN b (b.Out++out)
   have hfp:0 < (ju b (b.Out++out)).length:=List.length_pos_iff.2 aNZ
   have qR:=ak6 hl (6+out.length)
   obtain ⟨q,hq⟩:∃ q:Nat,Av l (6+out.length)=(q:Int):=⟨(Av l (6+out.length)).toNat,by omega⟩
   have Mf:q % (ju b (b.Out++out)).length < (ju b (b.Out++out)).length:=Nat.mod_lt _ hfp
   obtain ⟨i,hi,hn,hc⟩:=Sj.1 (iZ Mf)
   have aN0:gx b b.Out (out++[(i:Int)])=0:=akY _ _ _ OI (KO.2 ⟨yE.2 (by omega),abW hc,hc,rfl⟩)
   obtain ⟨o,ho,HF⟩:=ih (out++[(i:Int)]) (by simp; omega) aN0
   refine ⟨o,?_,HF⟩
   rw [← ho]
   refine si ?_
   have e1:i64 (6+(out.length:Int))=((6+out.length:Nat):Int):=by rw [dR (by omega) (by omega)]; omega
   have e2:q6 (q:Int) ((ju b (b.Out++out)).length:Int)=some ((q % (ju b (b.Out++out)).length:Nat):Int):=by
    unfold q6
    rw [if_neg (by omega),Int.ofNat_tmod]
   simp only [show decide (((b.Out++out).length:Int) < (b.ao.length:Int))=true by simp; omega,bw,aOg hs (out:=b.Out++out) (by simp; omega),Option.bind_some,ab6,show ((ju b (b.Out++out)).length == 0)=false by simp; omega,bm,e1,aJt hl,hq,e2,cj,bz Mf,hn]
   rw [mb (by simp; omega),Option.bind_some,mb (by simp; omega),Option.bind_some,List.append_assoc]
 obtain ⟨o,ho,HF⟩:=key (b.ao.length - b.Out.length) [] (by
  have e1:=H9 _ _ hv.out
  rw [abM,List.nil_append] at e1
  simp
  omega) rfl
 rw [List.append_nil] at ho
 refine ⟨o,?_,HF⟩
 rw [gp ho]
 rfl
end Go.Proofs.YtabamagholjdcaaGreatDoor
namespace Go.Proofs.YtabamagholjdcaaGreatDoor
open Go.Lg Go.Proofs
set_option maxRecDepth 10000
set_option maxRecDepth 1000000 in
def aK1(b:aj)(out:List Int):Int × Int :=
 if cY b≠0 then (0,cY b) else if kQ out (b.ao.length:Int)≠0 then (0,kQ out (b.ao.length:Int)) else if bJ b=[] then (0,9) else (yC ((bJ b).filter λ c=>lY b (eF b c out)).length (bJ b).length,0)
theorem a6V{b:aj}(hs:Small b){out:List Int}(ho:out.length≤100):we b out=some (aK1 b out):=by
 have hp:=hs.pieces
 unfold we aK1 Bj
 rw [Option.bind_some,My hs (own:=kQ out (b.ao.length:Int)) (λ _=>by unfold pQ; rw [abQ (by omega) (by omega) (by omega)]; rfl),Option.bind_some]
 unfold EZ
 by_cases h1:cY b=0
 ·have hv:=r7 hs h1
  have h5:=hv.n5
  simp only [h1,ne_eq,not_true_eq_false,if_false]
  by_cases h2:kQ out (b.ao.length:Int)=0
  ·simp only [h2,not_true_eq_false,if_false]
   by_cases h3:bJ b=[]
   ·rw [if_pos h3,if_pos h3]; rfl
   ·rw [if_neg h3,if_neg h3]
    simp only [bne_self_eq_false,bm]
    have v9:qU out:=λ x hx=>by have:=abX h2 x hx; omega
    rw [aNA hv (p:=λ c=>lY b (eF b c out)) λ c hc=>?_]
    ·rfl
    ·have hb:=abB hv hc out
     unfold EU
     rw [Mc v9 (by omega),Option.bind_some]
     dsimp only
     rw [abO hv hc,Option.bind_some,agG (b:=b) (m:=eF b c out) (by omega) (by omega)]
     rfl
  ·simp only [h2,not_false_eq_true,if_true,ly h2,bw]
 ·simp only [h1,ne_eq,not_false_eq_true,if_true,ly h1,bw]
theorem aZw{α:Type}{p:α→Bool}{l:List α}:(yC (l.filter p).length l.length == 2)=decide (∀ c∈l,p c=false):=by
 rw [Bool.eq_iff_iff,decide_eq_true_eq,beq_iff_eq]
 unfold yC
 constructor
 ·intro h
  split at h
  ·rename_i h1
   have:=List.filter_eq_nil_iff.1 (List.length_eq_zero_iff.1 h1)
   exact λ c hc=>by simpa using this c hc
  ·split at h <;> cases h
 ·intro h
  rw [List.filter_eq_nil_iff.2 (λ c hc=>by simp [h c hc])]
  rfl
end Go.Proofs.YtabamagholjdcaaGreatDoor
namespace Go.Proofs.YtabamagholjdcaaGreatDoor
open Go.Lg Go.Proofs
set_option maxRecDepth 10000
theorem a0g{b:aj}(hv:Valid b):b.Out.length≤5:=by
 have e1:=H9 _ _ hv.out
 have:=hv.n5
 rw [abM,List.nil_append] at e1
 omega
end Go.Proofs.YtabamagholjdcaaGreatDoor
namespace Go.Proofs.YtabamagholjdcaaGreatDoor
open Go.Lg Go.Proofs
set_option maxRecDepth 10000
theorem aOi{b:aj}(h1:cY b=0)(h3:bJ b≠[]){o:List Int}(ho:Ord b o):abT b o=(yC ((bJ b).filter (EO b o)).length (bJ b).length,0):=by
 unfold abT
 simp only [h1,alH.2 ho,ne_eq,not_true_eq_false,if_false,if_neg h3]
end Go.Proofs.YtabamagholjdcaaGreatDoor
