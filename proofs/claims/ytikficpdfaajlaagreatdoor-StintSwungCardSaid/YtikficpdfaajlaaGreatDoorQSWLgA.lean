/- The base of a logic of goroutines in company. Conditions: none. -/
import Derived.Conc.Beside
import Derived.Conc.Events
import Derived.Conc.Listed
import Derived.Orders
namespace Go.Lg
abbrev ah:=List Int
abbrev aW:=List Bool
abbrev bB:=List (List Int)
abbrev cM:=List (List Bool)
abbrev bn:=List Value
abbrev aU:=Array Value
abbrev a5:=Option Bool
abbrev b5:=Option Int
theorem aF{α β:Type}(a:α)(f:α→Option β):(some a).bind f=f a:=rfl
theorem cI(n:Nat):((n:Int)).toNat=n:=rfl
theorem cw{α:Type}{a:α}{as:List α}(bs:List α)(h:a∈as):a∈as++bs:=List.mem_append_left bs h
theorem ew{α:Type}{b:α}(as:List α){bs:List α}(h:b∈bs):b∈as++bs:=List.mem_append_right as h
theorem eL{α:Type}{i:Nat}{a:α}{l:List α}:l[i]? = some a↔∃ h:i < l.length,l[i]=a:=List.getElem?_eq_some_iff
theorem gB{α:Type}{xs:Array α}{i j:Nat}(h:i≠j){a:α}:(xs.setIfInBounds i a)[j]? = xs[j]? := Array.getElem?_setIfInBounds_ne h
theorem fy{α:Type}{l:List α}{i:Nat}(h:i < l.length):l[i]? = some l[i]:=List.getElem?_eq_getElem h
theorem c7{p:Prop}[Decidable p](h:p):decide p=true:=decide_eq_true h
theorem dH{p:Prop}[Decidable p](h:¬p):decide p=false:=decide_eq_false h
theorem j4{α:Type}{xs:Array α}{i:Nat}{a:α}(h:i < xs.size):(xs.setIfInBounds i a)[i]? = some a:=Array.getElem?_setIfInBounds_self_of_lt h
theorem g1{α:Type}{l₁ ks:List α}{i:Nat}(h:l₁.length≤i):(l₁++ks)[i]? = ks[i - l₁.length]? := List.getElem?_append_right h
theorem ey{α:Type}(a b:α):(some a=some b)=(a=b):=Option.some.injEq a b
theorem gi{α:Type}{as bs:List α}:(as++bs).length=as.length+bs.length:=List.length_append
theorem cO(a b:Bool):((a && b)=true)=(a=true∧b=true):=Bool.and_eq_true a b
theorem gO{α:Type}{i:Nat}{l:List α}:(List.take i l).length=min i l.length:=List.length_take
theorem cq(n:Nat):n≤n:=Nat.le_refl n
theorem fW:(¬True)=False:=not_true_eq_false
theorem eI{α:Type}{a b:α}(h:some a=some b):a=b:=Option.some.inj h
theorem jw{α:Type}{l₁ ks:List α}{i:Nat}(h:i < l₁.length):(l₁++ks)[i]? = l₁[i]? := List.getElem?_append_left h
theorem hF{α:Type}{i:Nat}{l:List α}{a:α}:l.getD i a=(l[i]?).getD a:=List.getD_eq_getElem?_getD
theorem h0{α:Type}{xs:Array α}{i:Nat}(h:i < xs.size):xs[i]? = some xs[i]:=Array.getElem?_eq_getElem h
theorem c8{α:Type}{a b:α}{l:List α}:a∈b::l↔a=b∨a∈l:=List.mem_cons
theorem h7:(true=false)=False:=Bool.true_eq_false
theorem fc:(false=true)=False:=Bool.false_eq_true
theorem gP{α:Type}{a b:α}:(some a).getD b=a:=rfl
open Go.Conc
abbrev aA:=Nat→Option Obj
abbrev ai:=List (Nat × Obj)
structure Base where
 os:Os→Prop
 tape:Nat→Question→Nat
 out:Array (Nat × ByteArray)
structure Fits (B:Base) (R:aA) (H:ai) (w:World):Prop where
 r:∀ b o,R b=some o→w.heap[b]? = some o
 h:∀ b o,(b,o)∈H→w.heap[b]? = some o
 nd:(H.map (·.1)).Nodup
 dj:∀ b o,(b,o)∈H→R b=none
 os:B.os w.os
 tape:w.tape=B.tape
 out:w.output=B.out
theorem gg{w:World}{b:Nat}{o:Obj}(h:w.heap[b]? = some o):b < w.heap.size:=(Array.getElem?_eq_some_iff.1 h).1
structure dN (B:Base) (R:aA) (H:ai) (w:World) (R':aA) (H':ai) (w':World):Prop where
 fits:Fits B R' H' w'
 FG:∀ b o,R b=some o→R' b=some o
 size:w.heap.size≤w'.heap.size
 same:∀ b,b < w.heap.size→(∀ o,(b,o) ∉ H)→w'.heap[b]? = w.heap[b]?
 qJ:∀ b o,R' b=some o→R b=some o∨(∃ o',(b,o')∈H)∨w.heap.size≤b
 mh:∀ b o,(b,o)∈H'→(∃ o',(b,o')∈H)∨w.heap.size≤b
theorem dN.refl{B:Base}{R:aA}{H:ai}{w:World}(h:Fits B R H w):dN B R H w R H w :=
 ⟨h,λ _ _ x=>x,cq _,λ _ _ _=>rfl,λ _ _ x=>.inl x,λ _ o x=>.inl ⟨o,x⟩⟩
theorem dN.trans{B:Base}{R R' cc:aA}{H H' cR:ai}{w w' f:World}(h:dN B R H w R' H' w')(k:dN B R' H' w' cc cR f):dN B R H w cc cR f:=by
 refine ⟨k.fits,λ b o x=>k.FG b o (h.FG b o x),Nat.le_trans h.size k.size,λ b hb d=>?_,λ b o x=>?_,λ b o x=>?_⟩
 ·rw [k.same b (Nat.lt_of_lt_of_le hb h.size) (λ o ho=>?_),h.same b hb d]
  rcases h.mh b o ho with ⟨o',g⟩ | i
  ·exact d o' g
  ·omega
 ·rcases k.qJ b o x with x | ⟨o',x⟩ | x
  ·exact h.qJ b o x
  ·exact .inr (h.mh b o' x)
  ·exact .inr (.inr (Nat.le_trans h.size x))
 ·rcases k.mh b o x with ⟨o',x⟩ | x
  ·exact h.mh b o' x
  ·exact .inr (Nat.le_trans h.size x)
def n8(R:aA)(H:ai)(n:Nat)(write:Bool)(b:Nat):Prop:=(write=false∧(R b).isSome=true)∨(∃ o,(b,o)∈H)∨n≤b
def eM(R:aA)(H:ai)(n m:Nat)(e:Event):Prop :=
 match e.loc with
 | .cell a=>e.sync=false∧a.block < m∧n8 R H n e.write a.block
 | .obj b=>e.sync=false∧b < m∧n8 R H n e.write b
 | .mark .noRoom=>True
 | _=>False
theorem n8.up{B:Base}{R R':aA}{H H':ai}{w w':World}(h:dN B R H w R' H' w'){wr:Bool}{b:Nat}(k:n8 R' H' w'.heap.size wr b):n8 R H w.heap.size wr b:=by
 rcases k with ⟨k1,k2⟩ | ⟨o,k⟩ | k
 ·obtain ⟨o,ho⟩:=Option.isSome_iff_exists.1 k2
  rcases h.qJ b o ho with x | x | x
  ·exact .inl ⟨k1,by simp [x]⟩
  ·exact .inr (.inl x)
  ·exact .inr (.inr x)
 ·exact .inr (h.mh b o k)
 ·exact .inr (.inr (Nat.le_trans h.size k))
theorem eM.up{B:Base}{R R':aA}{H H':ai}{w w':World}(h:dN B R H w R' H' w'){m:Nat}{e:Event}(k:eM R' H' w'.heap.size m e):eM R H w.heap.size m e:=by
 unfold eM at k ⊢
 split at k
 ·exact ⟨k.1,k.2.1,k.2.2.up h⟩
 ·exact ⟨k.1,k.2.1,k.2.2.up h⟩
 ·trivial
 ·exact k.elim
theorem eM.more{R:aA}{H:ai}{n m m':Nat}{e:Event}(hm:m≤m')(k:eM R H n m e):eM R H n m' e:=by
 unfold eM at k ⊢
 split at k
 ·exact ⟨k.1,by omega,k.2.2⟩
 ·exact ⟨k.1,by omega,k.2.2⟩
 ·trivial
 ·exact k.elim
def aL{α:Type}(P:Program)(B:Base)(R:aA)(H:ai)(s:Sem α)(K:α→aA→ai→Prop):Prop :=
 ∀ w,Fits B R H w→∃ a w' R' H',s.run P w = .ok a w'∧(∀ e∈s.events P w #[],eM R H w.heap.size w'.heap.size e)∧dN B R H w R' H' w'∧K a R' H'
section
variable {P:Program} {B:Base} {R:aA} {H:ai}
theorem aL.mono{α:Type}{s:Sem α}{K b:α→aA→ai→Prop}(h:aL P B R H s K)(d:∀ a R' H',K a R' H'→b a R' H'):aL P B R H s b:=by
 intro w hw
 obtain ⟨a,w',R',H',h1,h2,h3,h4⟩:=h w hw
 exact ⟨a,w',R',H',h1,h2,h3,d _ _ _ h4⟩
theorem aL.cN{α:Type}{a:α}{K:α→aA→ai→Prop}(h:K a R H):aL P B R H (Pure.pure a:Sem α) K :=
 λ w hw=>⟨a,w,R,H,rfl,by simp,dN.refl hw,h⟩
theorem aL.cE{α β:Type}{s:Sem α}{f:α→Sem β}{K:β→aA→ai→Prop}(h:aL P B R H s λ a R' H'=>aL P B R' H' (f a) K):aL P B R H (s >>= f) K:=by
 intro w hw
 obtain ⟨a,w',R',H',h1,h2,h3,h4⟩:=h w hw
 obtain ⟨b,d,cc,cR,k1,k2,k3,k4⟩:=h4 w' h3.fits
 refine ⟨b,d,cc,cR,by simp [h1,k1],λ e he=>?_,h3.trans k3,k4⟩
 rw [Sem.events_bind,h1,Result.evThen_ok,Sem.events_acc] at he
 rcases Array.mem_append.1 he with he | he
 ·exact (h2 e he).more k3.size
 ·exact (k2 e he).up h3
theorem aL.map{α β:Type}{s:Sem α}{f:α→β}{K:β→aA→ai→Prop}(h:aL P B R H s λ a R' H'=>K (f a) R' H'):aL P B R H (f <$> s) K:=by
 intro w hw
 obtain ⟨a,w',R',H',h1,h2,h3,h4⟩:=h w hw
 exact ⟨f a,w',R',H',by simp [h1],by simpa using h2,h3,h4⟩
def aj{α:Type}(P:Program)(s:Sem α)(a:α):Prop:=∀ w,s.run P w = .ok a w∧s.events P w #[]=#[]
theorem aj.ok{α:Type}{s:Sem α}{a:α}{K:α→aA→ai→Prop}(h:aj P s a)(b:K a R H):aL P B R H s K :=
 λ w hw=>⟨a,w,R,H,(h w).1,by rw [(h w).2]; simp,dN.refl hw,b⟩
theorem aj.bj{α:Type}(a:α):aj P (Pure.pure a:Sem α) a:=λ _=>⟨rfl,rfl⟩
theorem aj.bt{α β:Type}{s:Sem α}{f:α→Sem β}{a:α}{b:β}(h:aj P s a)(k:aj P (f a) b):aj P (s >>= f) b :=
 λ w=>⟨by simp [(h w).1,(k w).1],by rw [Sem.events_bind,(h w).1,(h w).2]; exact (k w).2⟩
theorem aj.map{α β:Type}{s:Sem α}{f:α→β}{a:α}(h:aj P s a):aj P (f <$> s) (f a) :=
 λ w=>⟨by simp [(h w).1],by simpa using (h w).2⟩
theorem aj.program:aj P program P:=λ _=>⟨rfl,rfl⟩
theorem aj.underlying{t:TypeId}{d:TypeDesc}(h:P.underlying t=some d):aj P (underlying t) d:=λ w=>⟨by simp [Go.underlying,h],by simp⟩
theorem aj.typeInfo{t:TypeId}{i:TypeInfo}(h:P.info? t=some i):aj P (typeInfo t) i:=λ w=>⟨by simp [Go.typeInfo,h],by simp⟩
theorem aj.dc{α β:Type}{s:Sem α}{f:α→Sem β}{a:α}{K:β→aA→ai→Prop}(h:aj P s a)(b:aL P B R H (f a) K):aL P B R H (s >>= f) K :=
 aL.cE (h.ok b)
def Cell(R:aA)(H:ai)(a:Addr)(v:Value):Prop :=
 a.spot=none∧∃ cs e b,(R a.block=some (.cells cs e b)∨(a.block,Obj.cells cs e b)∈H)∧cs[a.off]? = some v
theorem Cell.at_{w:World}{a:Addr}{v:Value}(h:Cell R H a v)(hw:Fits B R H w):w.cell? a=some v:=by
 obtain ⟨f,cs,e,b,h1,h2⟩:=h
 have d:w.heap[a.block]? = some (.cells cs e b):=h1.elim (hw.r _ _) (hw.h _ _)
 simp [World.cell?,d,f,h2]
theorem Cell.touch{a:Addr}{v:Value}(h:Cell R H a v)(n:Nat):n8 R H n false a.block:=by
 obtain ⟨_,cs,e,b,h1,_⟩:=h
 rcases h1 with h1 | h1
 ·exact .inl ⟨rfl,by simp [h1]⟩
 ·exact .inr (.inl ⟨_,h1⟩)
theorem NK{w:World}{a:Addr}{v:Value}(h:w.cell? a=some v):a.block < w.heap.size:=by
 unfold World.cell? at h
 split at h
 ·exact gg ‹_›
 ·cases h
theorem aL.load{a:Addr}{v:Value}{K:Value→aA→ai→Prop}(h:Cell R H a v)(d:K v R H):aL P B R H (load a) K:=by
 intro w hw
 have b:=h.at_ hw
 refine ⟨v,w,R,H,by simp [b],?_,dN.refl hw,d⟩
 intro e he
 simp only [events_load,b] at he
 simp at he
 subst he
 exact ⟨rfl,NK b,h.touch _⟩
theorem aL.new{o:Obj}{K:Nat→aA→ai→Prop}(m:∀ r,R r=none→(∀ x,(r,x) ∉ H)→K r R ((r,o)::H)):aL P B R H (newObj o) K:=by
 intro w hw
 have g:R w.heap.size=none:=by
  cases h:R w.heap.size with
  | none=>rfl
  | some x=>exact absurd (gg (hw.r _ _ h)) (Nat.lt_irrefl _)
 have f:∀ x,(w.heap.size,x) ∉ H:=λ x d=>absurd (gg (hw.h _ _ d)) (Nat.lt_irrefl _)
 have i:∀ b (x:Obj),w.heap[b]? = some x→(w.heap.push o)[b]? = some x:=λ b x d=>by
  have:=gg d
  rw [Array.getElem?_push]
  rw [if_neg (by omega)]; exact d
 refine ⟨w.heap.size,{ w with heap:=w.heap.push o },R,(w.heap.size,o)::H,by simp,by simp,⟨⟨?_,?_,?_,?_,hw.os,hw.tape,hw.out⟩,λ _ _ x=>x,by simp,?_,λ _ _ x=>.inl x,?_⟩,m _ g f⟩
 ·exact λ b x d=>i b x (hw.r b x d)
 ·intro b x d
  rcases c8.1 d with d | d
  ·cases d; simp
  ·exact i b x (hw.h b x d)
 ·rw [List.map_cons,List.nodup_cons]
  refine ⟨λ hm=>?_,hw.nd⟩
  obtain ⟨p,s,he⟩:=List.mem_map.1 hm
  have j:p.1=w.heap.size:=he
  exact f p.2 (by rw [← j]; exact s)
 ·intro b x d
  rcases c8.1 d with d | d
  ·cases d; exact g
  ·exact hw.dj b x d
 ·intro b hb _
  show (w.heap.push o)[b]? = _
  rw [Array.getElem?_push,if_neg (by omega)]
 ·intro b x d
  rcases c8.1 d with d | d
  ·cases d; exact .inr (cq _)
  ·exact .inl ⟨x,d⟩
inductive dg:ai→Nat→Obj→Obj→ai→Prop
 | here {b:Nat} {o o':Obj} {H:ai}:dg ((b,o)::H) b o o' ((b,o')::H)
 | there {b:Nat} {o o':Obj} {p:Nat × Obj} {H H':ai}:dg H b o o' H'→dg (p::H) b o o' (p::H')
theorem dg.keys{H H':ai}{b:Nat}{o o':Obj}(h:dg H b o o' H'):H'.map (·.1)=H.map (·.1):=by
 induction h with
 | here=>rfl
 | there _ d=>simp [d]
theorem dg.mem{H H':ai}{b:Nat}{o o':Obj}(h:dg H b o o' H'):(b,o)∈H:=by
 induction h with
 | here=>simp
 | there _ d=>exact List.mem_cons_of_mem _ d
theorem dg.old{H H':ai}{b:Nat}{o o':Obj}(h:dg H b o o' H')(f:(H.map (·.1)).Nodup):∀ c x,(c,x)∈H'→(c=b∧x=o')∨(c≠b∧(c,x)∈H):=by
 induction h with
 | @here b o o' H =>
  intro c x d
  rw [List.map_cons,List.nodup_cons] at f
  rcases c8.1 d with g | g
  ·cases g; exact .inl ⟨rfl,rfl⟩
  ·refine .inr ⟨λ e=>f.1 ?_,List.mem_cons_of_mem _ g⟩
   rw [← e]
   exact List.mem_map.2 ⟨(c,x),g,rfl⟩
 | @there b o o' p H H' i j =>
  intro c x d
  rw [List.map_cons,List.nodup_cons] at f
  rcases c8.1 d with d | d
  ·subst d
   refine .inr ⟨λ e=>f.1 ?_,by simp⟩
   simp only at e ⊢
   subst e
   exact List.mem_map.2 ⟨_,i.mem,rfl⟩
  ·exact (j f.2 c x d).imp id λ y=>⟨y.1,List.mem_cons_of_mem _ y.2⟩
theorem Fits.uL{H':ai}{b:Nat}{o o':Obj}{w:World}(hw:Fits B R H w)(h:dg H b o o' H') :
  dN B R H w R H' { w with heap:=w.heap.setIfInBounds b o' }:=by
 have hb:w.heap[b]? = some o:=hw.h _ _ h.mem
 have i:=gg hb
 have f:∀ c,c≠b→(w.heap.setIfInBounds b o')[c]? = w.heap[c]? := λ c g=>gB (by omega)
 refine ⟨⟨?_,?_,by rw [h.keys]; exact hw.nd,?_,hw.os,hw.tape,hw.out⟩,λ _ _ x=>x,by simp,?_,λ _ _ x=>.inl x,?_⟩
 ·intro c x d
  show (w.heap.setIfInBounds b o')[c]? = _
  rw [f c (λ e=>by subst e; have:=hw.dj _ _ h.mem; rw [d] at this; cases this)]
  exact hw.r c x d
 ·intro c x d
  show (w.heap.setIfInBounds b o')[c]? = _
  rcases h.old hw.nd c x d with ⟨rfl,rfl⟩ | ⟨g,d⟩
  ·rw [j4 i]
  ·rw [f c g]; exact hw.h c x d
 ·intro c x d
  rcases h.old hw.nd c x d with ⟨rfl,_⟩ | ⟨_,d⟩
  ·exact hw.dj _ _ h.mem
  ·exact hw.dj c x d
 ·intro c _ j
  exact f c (λ e=>by subst e; exact j _ h.mem)
 ·intro c x d
  rcases h.old hw.nd c x d with ⟨rfl,_⟩ | ⟨_,d⟩
  ·exact .inl ⟨_,h.mem⟩
  ·exact .inl ⟨_,d⟩
theorem aL.store{a:Addr}{v:Value}{cs:aU}{e:TypeId}{H':ai}{K:Unit→aA→ai→Prop}(h1:v.oneCell'=true)(d:a.spot=none)(m:a.off < cs.size)
  (b:dg H a.block (.cells cs e (0,0)) (.cells (cs.setIfInBounds a.off v) e (0,0)) H') (j:K () R H'):aL P B R H (store a v) K:=by
 intro w hw
 have hb:w.heap[a.block]? = some (.cells cs e (0,0)):=hw.h _ _ b.mem
 have f:w.cell? a=some cs[a.off]:=by simp [World.cell?,hb,d,m]
 have g:w.frozen? a=false:=by simp [World.frozen?,hb]
 have uL:w.setCell a v={ w with heap:=w.heap.setIfInBounds a.block (.cells (cs.setIfInBounds a.off v) e (0,0)) }:=by
  simp only [World.setCell]
  congr 1
  apply Array.ext_getElem?
  intro i
  rw [Array.getElem?_modify]
  by_cases hi:a.block=i
  ·subst hi
   rw [j4 (gg hb),hb]
   simp [d]
  ·simp [hi,gB hi]
 refine ⟨(),w.setCell a v,R,H',by rw [run_store P w a v _ h1]; simp [f,g],?_,?_,j⟩
 ·intro e he
  rw [events_store P w #[] a v _ h1] at he
  simp [f,g] at he
  subst he
  refine ⟨rfl,?_,.inr (.inl ⟨_,b.mem⟩)⟩
  simpa [World.setCell] using gg hb
 ·rw [uL]; exact hw.uL b
def Obj.plain:Obj→Bool
 | .cells .. => false
 | .chan .. => false
 | _=>true
theorem aL.getObj{r:Nat}{o:Obj}{K:Obj→aA→ai→Prop}(ho:Obj.plain o=true)(h:R r=some o∨(r,o)∈H)(f:K o R H):aL P B R H (getObj r) K:=by
 intro w hw
 have d:w.heap[r]? = some o:=h.elim (hw.r _ _) (hw.h _ _)
 have g:(Go.getObj r).run P w = .ok o w:=by
  cases o <;> simp_all [Obj.plain,Go.getObj,Sem.run]
 have b:(Go.getObj r).events P w #[]=#[⟨.obj r,false,false⟩]:=by
  cases o <;> simp_all [Obj.plain,Go.getObj,Sem.events,Sem.runT,Obj.isChan,-Sem.runT_eq]
 refine ⟨o,w,R,H,g,?_,dN.refl hw,f⟩
 intro e he
 rw [b] at he
 simp at he
 subst he
 exact ⟨rfl,gg d,h.elim (λ x=>.inl ⟨rfl,by simp [x]⟩) (λ x=>.inr (.inl ⟨_,x⟩))⟩
theorem aL.setObj{r:Nat}{o o':Obj}{H':ai}{K:Unit→aA→ai→Prop}(ho:Obj.plain o=true)(j:Obj.plain o'=true)(b:dg H r o o' H')(g:K () R H'):aL P B R H (setObj r o') K:=by
 intro w hw
 have f:w.heap[r]? = some o:=hw.h _ _ b.mem
 have i:(Go.setObj r o').run P w = .ok () { w with heap:=w.heap.setIfInBounds r o' }:=by
  cases o <;> simp_all [Obj.plain,Go.setObj,Sem.run]
 have d:(Go.setObj r o').events P w #[]=#[⟨.obj r,true,false⟩]:=by
  cases o <;> simp_all [Obj.plain,Go.setObj,Sem.events,Sem.runT,-Sem.runT_eq] <;> (cases o' <;> simp_all [Obj.isChan])
 refine ⟨(),_,R,H',i,?_,hw.uL b,g⟩
 intro e he
 rw [d] at he
 simp at he
 subst he
 exact ⟨rfl,by simpa using gg f,.inr (.inl ⟨_,b.mem⟩)⟩
theorem aL.choose{q:Question}{K:Nat→aA→ai→Prop}(d:∀ t,K (if q.forced then 0 else q.cut t) R H):aL P B R H (choose q) K:=by
 intro w hw
 cases b:q.forced with
 | true =>
  have:=d 0
  rw [b] at this
  exact ⟨0,w,R,H,by simp [Go.choose,Sem.run,b],by simp,dN.refl hw,by simpa using this⟩
 | false =>
  have:=d (w.tape w.drawn q)
  rw [b] at this
  exact ⟨q.cut (w.tape w.drawn q),{ w with drawn:=w.drawn+1 },R,H,by simp [Go.choose,Sem.run,b],by simp,⟨⟨hw.r,hw.h,hw.nd,hw.dj,hw.os,hw.tape,hw.out⟩,λ _ _ x=>x,cq _,λ _ _ _=>rfl,λ _ _ x=>.inl x,λ _ o x=>.inl ⟨o,x⟩⟩,by simpa using this⟩
theorem aL.Qi{K:Unit→aA→ai→Prop}(b:K () R H):aL P B R H (mark .noRoom) K :=
 λ w hw=>⟨(),w,R,H,rfl,by simp [eM],dN.refl hw,b⟩
end
structure Jd (P:Program) (B:Base) (main:Bool) where
 J:aA→ai→Goroutine→Prop
 step:∀ {R H g},g.status = .running→(∀ w,Fits B R H w→∃ g' w' es R' H',stepG P main g w = .go g' w' es∧(∀ e∈es,eM R H w.heap.size w'.heap.size e)∧dN B R H w R' H' w'∧J R' H' g')→J R H g
 ghost:∀ {R H R' H' g},(∀ w,Fits B R H w→dN B R H w R' H' w)→J R' H' g→J R H g
abbrev St:=List (Nat × Value)
structure Ctx where
 fn:FuncId
 kind:CallKind
 ro:Option Nat
 n:Nat
 defers:List Deferred
 cs:List Frame
def aS(fr:Frame)(cs:List Frame):Goroutine:={ frame:=fr,callers:=cs,status:=.running,dying:=none }
def aR(c:Ctx)(tmps:aU)(todo:List Item):Frame:={ fn:=c.fn,tmps,todo,defers:=c.defers,mode:=.run,kind:=c.kind,roundOf:=c.ro }
def cf(n:Nat)(st:St)(tmps:aU):Prop:=tmps.size=n∧∀ t v,st.lookup t=some v→tmps[t]? = some v
def bN(st:St):St→Prop
 | []=>True
 | p::r=>st.lookup p.1=some p.2∧bN st r
def aB(st st':St):Prop:=∀ t v,st'.lookup t=some v→st.lookup t=some v
theorem bN.sub{st:St}:∀ {st':St},bN st st'→aB st st'
 | [],_,_,_,h=>by cases h
 | p::r,b,t,v,h=>by
  rw [List.lookup_cons] at h
  split at h
  ·rename_i heq
   cases h
   have:t=p.1:=by simpa using heq
   subst this
   exact b.1
  ·exact bN.sub b.2 t v h
theorem aB.refl(st:St):aB st st:=λ _ _ h=>h
theorem cf.sub{n:Nat}{st st':St}{tmps:aU}(h:cf n st tmps)(b:aB st st'):cf n st' tmps:=⟨h.1,λ t v x=>h.2 t v (b t v x)⟩
def bT(dst:Option Tmp)(v:Value)(st:St):St:=match dst with | some d=>(d,v)::st | none=>st
theorem aB.put{dst:Option Tmp}{d:Tmp}{v:Value}{st:St}(h:dst=some d):aB (bT dst v st) ((d,v)::st):=by subst h; exact aB.refl _
theorem aB.vB{dst:Option Tmp}{v:Value}{st:St}(h:dst=none):aB (bT dst v st) st:=by subst h; exact aB.refl _
def dG(dst:Option Tmp)(v:Value)(tmps:aU):aU:=match dst with | some d=>tmps.setIfInBounds d v | none=>tmps
def Iy(dst:Option Tmp)(n:Nat):Bool:=match dst with | some d=>Nat.blt d n | none=>true
def bO(dst:Option Tmp)(n:Nat):Prop:=Iy dst n=true
theorem bO.lt{d n:Nat}(h:bO (some d) n):d < n:=by
 have:Nat.blt d n=true:=h
 simpa [Nat.blt_eq] using this
theorem cf.put{n:Nat}{st:St}{tmps:aU}(h:cf n st tmps){dst:Option Tmp}(v:Value)(hd:bO dst n):cf n (bT dst v st) (dG dst v tmps):=by
 cases dst with
 | none=>exact h
 | some d =>
  refine ⟨by simp [dG,h.1],λ t u hu=>?_⟩
  have b:d < tmps.size:=by rw [h.1]; exact hd.lt
  simp only [bT,List.lookup_cons] at hu
  split at hu
  ·rename_i heq
   cases hu
   have:t=d:=by simpa using heq
   subst this
   simp [dG,b]
  ·rename_i heq
   have f:t≠d:=by simpa using heq
   simp only [dG]
   rw [gB (Ne.symm f)]
   exact h.2 t u hu
def aY(st:St):Operand→Option Value
 | .tmp t=>st.lookup t
 | .const v=>some v
 | .global g=>some (.pointer (some ⟨g,0,none⟩))
 | .func f=>some (.func (.func f) #[] #[])
def Knows(st:St)(b:Operand→Value):Prop:=∀ x v,aY st x=some v→b x=v
theorem cf.knows{n:Nat}{st:St}{tmps:aU}(h:cf n st tmps)(c:Ctx)(todo:List Item):Knows st (aR c tmps todo).eval:=by
 intro x v b
 cases x with
 | tmp t =>
  have:=h.2 t v b
  simp [aR,Frame.eval,Array.getD_eq_getD_getElem?,this]
 | const u=>cases b; rfl
 | global g=>cases b; rfl
 | func f=>cases b; rfl
section
variable {P:Program} {B:Base} {main:Bool} (ae:Jd P B main)
def U(c:Ctx)(R:aA)(H:ai)(st:St)(todo:List Item):Prop:=∀ tmps,cf c.n st tmps→ae.J R H (aS (aR c tmps todo) c.cs)
variable {ae} {c:Ctx} {R:aA} {H:ai} {st:St} {k:List Item}
theorem U.sub{st':St}{todo:List Item}(b:aB st st')(h:U ae c R H st' todo):U ae c R H st todo:=λ tmps d=>h tmps (d.sub b)
theorem U.ghost{R':aA}{H':ai}{todo:List Item}(b:∀ w,Fits B R H w→dN B R H w R' H' w)(h:U ae c R' H' st todo):U ae c R H st todo:=λ tmps d=>ae.ghost b (h tmps d)
theorem Jd.ctl{R:aA}{H:ai}{g g':Goroutine}(d:g.status = .running)(h:∀ w,stepG P main g w = .go g' w)(b:ae.J R H g'):ae.J R H g :=
 ae.step d λ w hw=>⟨g',w,#[],R,H,h w,by simp,dN.refl hw,b⟩
theorem U.skip(h:U ae c R H st k):U ae c R H st (.code .skip::k):=λ tmps b=>Jd.ctl rfl (λ w=>by simp [stepG,stepG.exec,aS,aR]) (h tmps b)
theorem U.label{l:Nat}(h:U ae c R H st k):U ae c R H st (.code (.label l)::k):=λ tmps b=>Jd.ctl rfl (λ w=>by simp [stepG,stepG.exec,aS,aR]) (h tmps b)
theorem U.bg{id:Nat}(h:U ae c R H st k):U ae c R H st (.inBlock id::k):=λ tmps b=>Jd.ctl rfl (λ w=>by simp [stepG,stepG.exec,aS,aR]) (h tmps b)
theorem U.inScope{x:Code}(h:U ae c R H st k):U ae c R H st (.inScope x::k):=λ tmps b=>Jd.ctl rfl (λ w=>by simp [stepG,stepG.exec,aS,aR]) (h tmps b)
theorem U.seq{x y:Code}(h:U ae c R H st (.code x :: .code y::k)):U ae c R H st (.code (.seq x y)::k):=λ tmps b=>Jd.ctl rfl (λ w=>by simp [stepG,stepG.exec,aS,aR]) (h tmps b)
theorem U.aT{id:Nat}{x:Code}(h:U ae c R H st (.code x :: .inBlock id::k)):U ae c R H st (.code (.block id x)::k):=λ tmps b=>Jd.ctl rfl (λ w=>by simp [stepG,stepG.exec,aS,aR]) (h tmps b)
theorem U.scope{x:Code}(h:U ae c R H st (.code x :: .inScope x::k)):U ae c R H st (.code (.scope x)::k):=λ tmps b=>Jd.ctl rfl (λ w=>by simp [stepG,stepG.exec,aS,aR]) (h tmps b)
theorem U.enterLoop{x:Code}(h:U ae c R H st (.code x :: .inLoop x::k)):U ae c R H st (.code (.loop x)::k):=λ tmps b=>Jd.ctl rfl (λ w=>by simp [stepG,stepG.exec,aS,aR]) (h tmps b)
theorem U.inLoop{x:Code}(h:U ae c R H st (.code x :: .inLoop x::k)):U ae c R H st (.inLoop x::k):=λ tmps b=>Jd.ctl rfl (λ w=>by simp [stepG,stepG.exec,aS,aR]) (h tmps b)
theorem U.bM{id:Nat}{b:List Item}(he:exitTo id k=some b)(h:U ae c R H st b):U ae c R H st (.code (.exit id)::k):=λ tmps d=>Jd.ctl rfl (λ w=>by simp [stepG,stepG.exec,aS,aR,he]) (h tmps d)
theorem U.region{id:Nat}{ops:Array Oper}(h:U ae c R H st (.inRegion ops (List.range ops.size)::k)):U ae c R H st (.code (.region id ops false)::k):=λ tmps b=>Jd.ctl rfl (λ w=>by simp [stepG,stepG.exec,aS,aR]) (h tmps b)
theorem U.aP{ops:Array Oper}(h:U ae c R H st k):U ae c R H st (.inRegion ops []::k):=λ tmps b=>Jd.ctl rfl (λ w=>by simp [stepG,stepG.exec,aS,aR]) (h tmps b)
theorem U.cond{x:Operand}{th el:Code}{t:Bool}(d:aY st x=some (.bool t))(h1:t=true→U ae c R H st (.code th::k))(h2:t=false→U ae c R H st (.code el::k)):U ae c R H st (.code (.cond x th el)::k):=by
 intro tmps b
 have he:=b.knows c (.code (.cond x th el)::k) x _ d
 cases t with
 | true=>exact Jd.ctl rfl (λ w=>by simp only [aR] at he; simp [stepG,stepG.exec,aS,aR,he]) (h1 rfl tmps b)
 | false=>exact Jd.ctl rfl (λ w=>by simp only [aR] at he; simp [stepG,stepG.exec,aS,aR,he]) (h2 rfl tmps b)
theorem U.cond_true{x:Operand}{th el:Code}(b:aY st x=some (.bool true))(h:U ae c R H st (.code th::k)):U ae c R H st (.code (.cond x th el)::k):=U.cond b (λ _=>h) (λ e=>by cases e)
theorem U.cond_false{x:Operand}{th el:Code}(b:aY st x=some (.bool false))(h:U ae c R H st (.code el::k)):U ae c R H st (.code (.cond x th el)::k):=U.cond b (λ e=>by cases e) (λ _=>h)
def gH:Op→Bool
 | .defer _=>true
 | _=>false
theorem hX{tmps:aU}{ops:Array Oper}{i:Nat}{rest:List Nat}{o:Oper}{w:World}(ho:ops[i]? = some o)(hw:Region.wanted o (yielded ops tmps)=true)(hd:gH o.op=false) :
  stepG P main (aS (aR c tmps (.inRegion ops (i::rest)::k)) c.cs) w=stepG.apply P true (aR c tmps (.inRegion ops (i::rest)::k)) c.cs none (execOp (aR c tmps (.inRegion ops (i::rest)::k)).eval o) w:=by
 cases b:c.ro with
 | none=>simp [aS,stepG,stepG.exec,stepG.oper,Frame.oper?,aR,ho,hw,b]
 | some l =>
  simp only [aS,stepG,stepG.exec,stepG.oper,Frame.oper?,aR,ho,hw,b,Option.map_some,gP,if_true]
  split
  ·rename_i h1 h2; rw [h2] at hd; cases hd
  ·rfl
theorem zU{tmps:aU}{ops:Array Oper}{i:Nat}{rest:List Nat}{o:Oper}{w:World}(ho:ops[i]? = some o)(hw:Region.wanted o (yielded ops tmps)=false) :
  stepG P main (aS (aR c tmps (.inRegion ops (i::rest)::k)) c.cs) w = .go (aS (aR c (dG o.dst undef tmps) (.inRegion ops rest::k)) c.cs) w:=by
 simp only [aS,stepG,stepG.exec,aR,ho,hw,Option.map_some,gP,Frame.finish,aF,dG]
 cases o.dst <;> rfl
theorem ir{tmps:aU}{ops:Array Oper}{i:Nat}{rest:List Nat}{o:Oper}{v:Value}(ho:ops[i]? = some o) :
  (aR c tmps (.inRegion ops (i::rest)::k)).finish v=aR c (dG o.dst v tmps) (.inRegion ops rest::k):=by
 simp only [Frame.finish,aR,ho,aF,dG]
 cases o.dst <;> rfl
def ca(ops:Array Oper)(st:St)(o:Oper):a5 :=
 match o.guard with
 | none=>some true
 | some (j,want)=>match ((ops[j]?).bind (·.dst)).bind (st.lookup ·) with
  | some (.bool b)=>some (b == want)
  | some (.tuple _)=>some false
  | _=>none
theorem fF{n:Nat}{ops:Array Oper}{tmps:aU}{o:Oper}{b:Bool}(g:cf n st tmps)(h:ca ops st o=some b):Region.wanted o (yielded ops tmps)=b:=by
 unfold ca at h
 unfold Region.wanted
 split at h
 ·rename_i f; simp only [f]; exact eI h
 ·rename_i j want f
  simp only [f,yielded]
  cases hd:(ops[j]?).bind (·.dst) with
  | none=>simp [hd] at h
  | some d =>
   simp only [hd,aF] at h ⊢
   cases hl:st.lookup d with
   | none=>simp [hl] at h
   | some v =>
    rw [hl] at h
    rw [g.2 d v hl]
    cases v <;> simp at h ⊢ <;> first | (rw [← h]; done) | exact h.symm | (subst h; rfl)
theorem ob{fr:Frame}{cs:List Frame}{s:Sem Next}{w w':World}{v:Value}(b:fr.kind ≠ .early)(f:s.run P w = .ok (.value v) w') :
  stepG.apply P true fr cs none s w = .go (aS (fr.finish v) cs) w' (seen P fr.fn (s.events P w #[])):=by
 have d:(fr.kind == CallKind.early)=false:=by simpa using b
 simp [stepG.apply,f,aS,d,GStep.after]
theorem w6{fr:Frame}{cs:List Frame}{s:Sem Next}{w w':World}(b:fr.kind ≠ .early)(f:s.run P w = .ok .skip w') :
  stepG.apply P true fr cs none s w = .go (aS (fr.finish undef) cs) w' (seen P fr.fn (s.events P w #[])):=by
 have d:(fr.kind == CallKind.early)=false:=by simpa using b
 simp [stepG.apply,f,aS,d,GStep.after]
theorem rj{fr:Frame}{cs:List Frame}{s:Sem Next}{w w':World}{f:FuncId}{args:aU}{ops:Array Oper}{is:List Nat}{k:List Item}(i:fr.todo = .inRegion ops is::k)(b:fr.kind ≠ .early)(g:s.run P w = .ok (.enter f args) w') :
  stepG.apply P true fr cs none s w = .go (aS (Frame.enter P f args .normal) (fr::cs)) w' (seen P fr.fn (s.events P w #[])):=by
 have d:(fr.kind == CallKind.early)=false:=by simpa using b
 simp [stepG.apply,g,aS,d,GStep.after,i]
theorem U.op{ops:Array Oper}{i:Nat}{rest:List Nat}{o:Oper}(ho:ops[i]? = some o)(hw:ca ops st o=some true)(hd:gH o.op=false)(d:c.kind ≠ .early)
  (h:∀ f,Knows st f→aL P B R H (execOp f o) λ nx R' H'=>∃ v,(nx = .value v∨(nx = .skip∧v=undef))∧bO o.dst c.n∧∃ st',aB (bT o.dst v st) st'∧U ae c R' H' st' (.inRegion ops rest::k)) :
  U ae c R H st (.inRegion ops (i::rest)::k):=by
 intro tmps b
 refine ae.step rfl λ w s=>?_
 obtain ⟨nx,w',R',H',h1,h2,h3,v,p,j,st',m,g⟩:=h _ (b.knows c _) w s
 refine ⟨aS (aR c (dG o.dst v tmps) (.inRegion ops rest::k)) c.cs,w',seen P c.fn ((execOp (aR c tmps (.inRegion ops (i::rest)::k)).eval o).events P w #[]),R',H',?_,λ e he=>h2 e (mem_seen he),h3,g _ ((b.put v j).sub m)⟩
 rw [hX ho (fF b hw) hd,← ir (rest:=rest) (k:=k) (c:=c) (tmps:=tmps) (v:=v) ho]
 rcases p with rfl | ⟨rfl,rfl⟩
 ·exact ob d h1
 ·exact w6 d h1
theorem U.unwanted{ops:Array Oper}{i:Nat}{rest:List Nat}{o:Oper}{st':St}(ho:ops[i]? = some o)(hw:ca ops st o=some false)(d:bO o.dst c.n)(f:aB (bT o.dst undef st) st')
  (h:U ae c R H st' (.inRegion ops rest::k)):U ae c R H st (.inRegion ops (i::rest)::k) :=
 λ _ b=>Jd.ctl rfl (λ _=>zU ho (fF b hw)) (h _ ((b.put undef d).sub f))
def aO(ae:Jd P B main)(f:FuncId)(args:aU)(R:aA)(H:ai)(Post:Value→aA→ai→Prop):Prop :=
 ∀ fr cs,(∀ v R' H',Post v R' H'→ae.J R' H' (aS (fr.finish v) cs))→ae.J R H (aS (Frame.enter P f args .normal) (fr::cs))
theorem aO.mono{f:FuncId}{args:aU}{Post b:Value→aA→ai→Prop}(h:aO ae f args R H Post)(g:∀ v R' H',Post v R' H'→b v R' H'):aO ae f args R H b :=
 λ fr cs d=>h fr cs λ v R' H' i=>d v R' H' (g v R' H' i)
theorem U.enters{ops:Array Oper}{i:Nat}{rest:List Nat}{o:Oper}{f:FuncId}{args:aU}{Post:Value→aA→ai→Prop}(ho:ops[i]? = some o)(hw:ca ops st o=some true)(hd:gH o.op=false)(y:c.kind ≠ .early)(m:bO o.dst c.n)
  (he:∀ g,Knows st g→aj P (execOp g o) (.enter f args)) (s:aO ae f args R H Post)
  (h:∀ v R' H',Post v R' H'→∃ st',aB (bT o.dst v st) st'∧U ae c R' H' st' (.inRegion ops rest::k)) :
  U ae c R H st (.inRegion ops (i::rest)::k):=by
 intro tmps b
 refine ae.step rfl λ w D=>?_
 have d:=he _ (b.knows c (.inRegion ops (i::rest)::k)) w
 refine ⟨aS (Frame.enter P f args .normal) (aR c tmps (.inRegion ops (i::rest)::k)::c.cs),w,seen P c.fn ((execOp (aR c tmps (.inRegion ops (i::rest)::k)).eval o).events P w #[]),R,H,?_,?_,dN.refl D,s _ _ λ v R' H' z=>?_⟩
 ·rw [hX ho (fF b hw) hd]
  exact rj rfl y d.1
 ·intro e p
  have:=mem_seen p
  rw [d.2] at this
  simp at this
 ·obtain ⟨st',A,j⟩:=h v R' H' z
  rw [ir ho]
  exact j _ ((b.put v m).sub A)
def hK(ae:Jd P B main)(c:Ctx)(o:Oper)(R:aA)(H:ai)(st:St)(C:aA→ai→St→Prop):Prop :=
 gH o.op=false∧bO o.dst c.n ∧
  ((∀ b,Knows st b→aL P B R H (execOp b o) λ nx R' H'=>∃ v,(nx = .value v∨(nx = .skip∧v=undef))∧∃ st',aB (bT o.dst v st) st'∧C R' H' st') ∨
   (∃ f args,(∀ b,Knows st b→aj P (execOp b o) (.enter f args))∧aO ae f args R H λ v R' H'=>∃ st',aB (bT o.dst v st) st'∧C R' H' st'))
def aQ(P:Program)(B:Base)(c:Ctx)(o:Oper)(R:aA)(H:ai)(st:St)(C:aA→ai→St→Prop):Prop :=
 gH o.op=false∧bO o.dst c.n∧∀ b,Knows st b→aL P B R H (execOp b o) λ nx R' H'=>∃ v,(nx = .value v∨(nx = .skip∧v=undef))∧∃ st',aB (bT o.dst v st) st'∧C R' H' st'
theorem aQ.to{o:Oper}{C:aA→ai→St→Prop}(h:aQ P B c o R H st C):hK ae c o R H st C:=⟨h.1,h.2.1,.inl h.2.2⟩
theorem U.step{ops:Array Oper}{i:Nat}{rest:List Nat}{o:Oper}(ho:ops[i]? = some o)(hw:ca ops st o=some true)(g:(c.kind == CallKind.early)=false)
  (h:hK ae c o R H st λ R' H' st'=>U ae c R' H' st' (.inRegion ops rest::k)):U ae c R H st (.inRegion ops (i::rest)::k):=by
 obtain ⟨hd,d,h | ⟨f,args,h1,h2⟩⟩:=h
 ·exact U.op ho hw hd (by simpa using g) λ p m=>(h p m).mono λ nx R' H' ⟨v,j,b⟩=>⟨v,j,d,b⟩
 ·exact U.enters ho hw hd (by simpa using g) d h1 h2 λ v R' H' b=>b
theorem U.e2{ops:Array Oper}{i:Nat}{rest:List Nat}{o:Oper}(ho:ops[i]? = some o)(hw:ca ops st o=some true)(b:(c.kind == CallKind.early)=false)
  (h:aQ P B c o R H st λ R' H' st'=>U ae c R' H' st' (.inRegion ops rest::k)):U ae c R H st (.inRegion ops (i::rest)::k):=U.step ho hw b h.to
theorem U.RL{id n:Nat}{is:List Nat}{ops:Array Oper}(d:ops.size=n)(b:List.range n=is)(h:U ae c R H st (.inRegion ops is::k)):U ae c R H st (.code (.region id ops false)::k):=by
 subst d; subst b; exact U.region h
def kh:Nat→bn→St
 | _,[]=>[]
 | i,v::r=>(i,v)::kh (i+1) r
theorem rl:∀ (args:bn) (i t:Nat) (v:Value),(kh i args).lookup t=some v→i≤t∧args[t - i]? = some v
 | [],_,_,_,h=>by cases h
 | a::r,i,t,v,h=>by
  simp only [kh,List.lookup_cons] at h
  split at h
  ·rename_i heq
   cases h
   have:t=i:=by simpa using heq
   subst this
   simp
  ·rename_i heq
   have b:t≠i:=by simpa using heq
   obtain ⟨h1,h2⟩:=rl r (i+1) t v h
   refine ⟨by omega,?_⟩
   have:t - i=(t - (i+1))+1:=by omega
   rw [this]
   simpa using h2
theorem aO.ha{f:FuncId}{fn:Func}{body:Code}{args:bn}{n:Nat}{Post:Value→aA→ai→Prop}(d:P.funcs[f]? = some fn)(hb:fn.body=some body)(j:fn.ntmps=n)(b:Nat.ble args.length n=true)
  (h:∀ fr cs,(∀ v R' H',Post v R' H'→ae.J R' H' (aS (fr.finish v) cs))→U ae ⟨f,.normal,none,n,[],fr::cs⟩ R H (kh 0 args) [.code body]):aO ae f args.toArray R H Post:=by
 subst j
 intro fr cs g
 have b:args.length≤fn.ntmps:=by simpa [Nat.ble_eq] using b
 have:=h fr cs g (args.toArray++Array.replicate (fn.ntmps - args.length) undef) ⟨by simp; omega,λ t v m=>?_⟩
 ·have e:Frame.enter P f args.toArray .normal=aR ⟨f,.normal,none,fn.ntmps,[],fr::cs⟩ (args.toArray++Array.replicate (fn.ntmps - args.length) undef) [.code body]:=by
   simp [Frame.enter,aR,d,hb]
  rw [e]
  exact this
 ·obtain ⟨_,h2⟩:=rl args 0 t v m
  have i:t < args.length:=by
   have:=(eL.1 h2).1
   simpa using this
  rw [Array.getElem?_append_left (by simpa using i)]
  simpa using h2
def mw(st:St):List ResultVar→Option bn
 | []=>some []
 | .tmp t::r=>match st.lookup t,mw st r with
  | some v,some vs=>some (v::vs)
  | _,_=>none
 | .cell _ _::_=>none
def eE:bn→Value
 | [v]=>v
 | vs=>.tuple vs.toArray
theorem Gu{st:St}{tmps:aU}{n:Nat}(d:cf n st tmps):∀ (l:List ResultVar) (vs:bn),mw st l=some vs →
  aj P (l.mapM (m:=Sem) λ
   | .tmp t=>pure (tmps.getD t undef)
   | .cell a t=>do loadVar t (← asAddr (tmps.getD a undef))) vs
 | [],vs,h=>by cases h; exact aj.bj _
 | .tmp t::r,vs,h=>by
  simp only [mw] at h
  cases hl:st.lookup t with
  | none=>simp [hl] at h
  | some v =>
   cases b:mw st r with
   | none=>simp [hl,b] at h
   | some us =>
    simp only [hl,b,ey] at h
    subst h
    rw [List.mapM_cons]
    refine aj.bt (a:=v) ?_ (aj.bt (Gu d r us b) (aj.bj _))
    have:tmps.getD t undef=v:=by simp [Array.getD_eq_getD_getElem?,d.2 t v hl]
    show aj P (pure (tmps.getD t undef)) v
    rw [this]; exact aj.bj _
 | .cell _ _::_,_,h=>by cases h
theorem Ag{fn:Func}{st:St}{tmps:aU}{n:Nat}{vs:bn}(b:cf n st tmps)(h:mw st fn.results.toList=some vs):aj P (results fn tmps) (eE vs):=by
 unfold results
 rw [← Array.toArray_toList (xs:=fn.results),List.mapM_toArray]
 refine aj.bt (aj.map (Gu b _ _ h)) ?_
 cases vs with
 | nil=>exact aj.bj _
 | cons v r=>cases r with
  | nil=>exact aj.bj _
  | cons _ _=>exact aj.bj _
end
theorem jy(b o n:Nat):(⟨b,o,none⟩:Addr).add n=⟨b,o+n,none⟩:=by
 unfold Addr.add; split
 ·subst_vars; rfl
 ·rfl
def cT(P:Program)(s f off:Nat):Prop:=∀ b o:Nat,aj P (Instr.fieldAt s (.pointer (some ⟨b,o,none⟩)) f) (.pointer (some ⟨b,o+off,none⟩))
def gk(P:Program)(t e n:Nat):Prop:=P.underlying t=some (.slice e)∧aj P (sizeOf e) n
def jx(P:Program)(t len e n:Nat):Prop:=P.underlying t=some (.array len e)∧aj P (sizeOf e) n
def GV(z:Int):Prop:=-9223372036854775808≤z∧z≤9223372036854775807
theorem GL{z:Int}(h:GV z):IntKind.wrap .i64 z=z:=by
 obtain ⟨h1,h2⟩:=h
 simp only [IntKind.wrap,IntKind.bits,IntKind.signed]
 simp
 omega
section
variable {P:Program} {B:Base} {main:Bool} {ae:Jd P B main} {c:Ctx} {R:aA} {H:ai} {st st':St} {o:Oper} {C:aA→ai→St→Prop}
theorem Ox.val{v:Value}(d:gH o.op=false)(hd:bO o.dst c.n)
  (g:∀ b,Knows st b→aj P (execOp b o) (.value v)) (f:aB (bT o.dst v st) st') (h:C R H st'):aQ P B c o R H st C :=
 ⟨d,hd,λ b i=>(g b i).ok ⟨v,.inl rfl,st',f,h⟩⟩
theorem Ox.fU{s:(Operand→Value)→Sem Value}{v:Value}(d:gH o.op=false)(hd:bO o.dst c.n)
  (he:∀ b,execOp b o=(do let x ← s b; pure (.value x))) (g:∀ b,Knows st b→aj P (s b) v) (f:aB (bT o.dst v st) st') (h:C R H st'):aQ P B c o R H st C :=
 Ox.val d hd (λ b i=>by rw [he]; exact aj.bt (g b i) (aj.bj _)) f h
theorem Ox.mem{s:(Operand→Value)→Sem Value}(d:gH o.op=false)(hd:bO o.dst c.n)
  (he:∀ b,execOp b o=(do let x ← s b; pure (.value x)))
  (g:∀ b,Knows st b→aL P B R H (s b) λ v R' H'=>∃ st',aB (bT o.dst v st) st'∧C R' H' st'):aQ P B c o R H st C :=
 ⟨d,hd,λ b i=>by
  rw [he]
  exact aL.cE ((g b i).mono λ v R' H' ⟨st',f,h⟩=>aL.cN ⟨v,.inl rfl,st',f,h⟩)⟩
theorem Ox.vr{s:(Operand→Value)→Sem Unit}(d:gH o.op=false)(hd:o.dst=none)
  (he:∀ b,execOp b o=(do s b; pure .skip)) (f:aB st st')
  (g:∀ b,Knows st b→aL P B R H (s b) λ _ R' H'=>C R' H' st'):aQ P B c o R H st C :=
 ⟨d,by rw [hd]; rfl,λ b i=>by
  rw [he]
  exact aL.cE ((g b i).mono λ v R' H' h=>aL.cN ⟨undef,.inr ⟨rfl,rfl⟩,st',by rw [hd]; exact f,h⟩)⟩
theorem Ox.move{x:Operand}{v:Value}(b:o.op = .move x)(f:aY st x=some v)(hd:bO o.dst c.n)
  (d:aB (bT o.dst v st) st') (h:C R H st'):aQ P B c o R H st C :=
 Ox.val (by rw [b]; rfl) hd (λ i g=>by simp only [execOp,b,g x v f]; exact aj.bj _) d h
theorem Ox.assign{x:Operand}{v:Value}(b:o.op = .assign x)(f:aY st x=some v)(hd:bO o.dst c.n)
  (d:aB (bT o.dst v st) st') (h:C R H st'):aQ P B c o R H st C :=
 Ox.val (by rw [b]; rfl) hd (λ i g=>by simp only [execOp,b,g x v f]; exact aj.bj _) d h
theorem Ox.Rh{x y z:Operand}{v:Value}(b:o.op = .pick x y z)(g:aY st x=some (.bool true))(i:aY st y=some v)(hd:bO o.dst c.n)
  (f:aB (bT o.dst v st) st') (h:C R H st'):aQ P B c o R H st C :=
 Ox.val (by rw [b]; rfl) hd (λ j d=>by
  simp only [execOp,b,d x _ g,d y v i,asBool]
  exact aj.bt (aj.bj true) (aj.bj _)) f h
theorem Ox.Rg{x y z:Operand}{v:Value}(b:o.op = .pick x y z)(g:aY st x=some (.bool false))(i:aY st z=some v)(hd:bO o.dst c.n)
  (f:aB (bT o.dst v st) st') (h:C R H st'):aQ P B c o R H st C :=
 Ox.val (by rw [b]; rfl) hd (λ j d=>by
  simp only [execOp,b,d x _ g,d z v i,asBool]
  exact aj.bt (aj.bj false) (aj.bj _)) f h
theorem Ox.fieldAddr{x:Operand}{s f off b n:Nat}(g:o.op = .fieldAddr s x f)(m:aY st x=some (.pointer (some ⟨b,n,none⟩)))(i:cT P s f off)(hd:bO o.dst c.n)
  (j:aB (bT o.dst (.pointer (some ⟨b,n+off,none⟩)) st) st') (h:C R H st'):aQ P B c o R H st C :=
 Ox.fU (s:=λ d=>Instr.fieldAt s (d x) f) (by rw [g]; rfl) hd (λ d=>by simp only [execOp,g]) (λ d p=>by rw [p x _ m]; exact i b n) j h
theorem Af{t e n b m len cap:Nat}{kd:IntKind}{j:Nat}(d:gk P t e n)(f:j < len) :
  aj P (Instr.indexAt t (.slice (some ⟨b,m,none⟩) len cap) (.int kd (j:Int))) (.pointer (some ⟨b,m+j * n,none⟩)):=by
 unfold Instr.indexAt
 refine aj.bt (a:=(kd,(j:Int))) (aj.bj _) (aj.bt (aj.underlying d.1) (aj.bt (a:=(some (⟨b,m,none⟩:Addr),len,e)) (aj.bj _) (aj.bt (aj.underlying d.1) ?_)))
 have h1:(0:Int)≤(j:Int)∧(j:Int) < (len:Int):=by omega
 simp only [h1,and_self,if_true,cI]
 refine aj.bt d.2 ?_
 rw [jy]
 exact aj.bj _
theorem Tx{t e n b m len:Nat}{kd:IntKind}{j:Nat}(d:jx P t len e n)(f:j < len) :
  aj P (Instr.indexAt t (.pointer (some ⟨b,m,none⟩)) (.int kd (j:Int))) (.pointer (some ⟨b,m+j * n,none⟩)):=by
 unfold Instr.indexAt
 refine aj.bt (a:=(kd,(j:Int))) (aj.bj _) (aj.bt (aj.underlying d.1) (aj.bt (a:=(⟨b,m,none⟩:Addr)) (aj.bj _) (aj.bt (a:=(some (⟨b,m,none⟩:Addr),len,e)) (aj.bj _) (aj.bt (aj.underlying d.1) ?_))))
 have h1:(0:Int)≤(j:Int)∧(j:Int) < (len:Int):=by omega
 simp only [h1,and_self,if_true,cI]
 refine aj.bt d.2 ?_
 rw [jy]
 exact aj.bj _
theorem nX(op:BinOp)(t:TypeId)(x y:Operand)(ka kb:IntKind)(a b:Int):aj P (eqGuard op t x y (.int ka a) (.int kb b)) ():=by
 unfold eqGuard
 cases op <;> exact aj.bj _
def xJ:BinOp→Int→Int→a5
 | .eql,x,y=>some (x == y)
 | .neq,x,y=>some (x != y)
 | .lss,x,y=>some (decide (x < y))
 | .leq,x,y=>some (decide (x≤y))
 | .gtr,x,y=>some (decide (x > y))
 | .geq,x,y=>some (decide (x ≥ y))
 | _,_,_=>none
theorem Ox.cmp{x y:Operand}{bo:BinOp}{t u:TypeId}{a b:Int}{kd:IntKind}{r:Bool}(f:o.op = .binOp bo t x y u)(m:aY st x=some (.int kd a))(p:aY st y=some (.int kd b))(g:xJ bo a b=some r)
  (hd:bO o.dst c.n) (j:aB (bT o.dst (.bool r) st) st') (h:C R H st'):aQ P B c o R H st C :=
 Ox.fU (s:=λ d=>do eqGuard bo t x y (d x) (d y); binOp bo t (d x) (d y)) (by rw [f]; rfl) hd (λ d=>by simp only [execOp,f]) (λ d i=>by
  rw [i x _ m,i y _ p]
  refine aj.bt (nX _ _ _ _ _ _ _ _) ?_
  cases bo <;> simp only [xJ,ey,reduceCtorEq] at g <;> subst g <;> simp only [binOp,ne_eq,fW,if_false] <;> exact aj.bj _) j h
def w7:BinOp→Int→Int→b5
 | .add,x,y=>some (x+y)
 | .sub,x,y=>some (x - y)
 | .mul,x,y=>some (x * y)
 | _,_,_=>none
theorem Ox.not{x:Operand}{t:TypeId}{a:Bool}(d:o.op = .unOp .not t x)(g:aY st x=some (.bool a))
  (hd:bO o.dst c.n) (f:aB (bT o.dst (.bool (!a)) st) st') (h:C R H st'):aQ P B c o R H st C :=
 Ox.fU (s:=λ b=>Op.unary .not (b x)) (by rw [d]; rfl) hd (λ b=>by simp only [execOp,d]) (λ b i=>by rw [i x _ g]; exact aj.bj _) f h
theorem Ox.extract{x:Operand}{j:Nat}{vs:aU}{v:Value}(d:o.op = .extract x j)(i:aY st x=some (.tuple vs))(f:vs[j]? = some v)
  (hd:bO o.dst c.n) (g:aB (bT o.dst v st) st') (h:C R H st'):aQ P B c o R H st C :=
 Ox.fU (s:=λ b=>Instr.extract (b x) j) (by rw [d]; rfl) hd (λ b=>by simp only [execOp,d]) (λ b m=>by
  rw [m x _ i]
  simp only [Instr.extract,f]; exact aj.bj _) g h
theorem Ox.makeFunc{fn:Fn}{first captured:Array Operand}{vs us:aU}(g:o.op = .makeFunc fn first captured)(h1:first.toList.mapM (aY st)=some vs.toList)(h2:captured.toList.mapM (aY st)=some us.toList)
  (hd:bO o.dst c.n) (j:aB (bT o.dst (.func fn vs us) st) st') (h:C R H st'):aQ P B c o R H st C :=
 Ox.fU (s:=λ d=>Instr.makeFunc fn (first.map d) (captured.map d)) (by rw [g]; rfl) hd (λ d=>by simp only [execOp,g]) (λ d m=>by
  have key:∀ (l:List Operand) (r:bn),l.mapM (aY st)=some r→l.map d=r:=by
   intro l
   induction l with
   | nil=>intro r b; simpa using b
   | cons a l p =>
    intro r b
    rw [List.mapM_cons] at b
    cases f:aY st a with
    | none=>simp [f] at b
    | some u =>
     cases hl:l.mapM (aY st) with
     | none=>simp [f,hl] at b
     | some us =>
      simp [f,hl] at b
      subst b
      simp [m a u f,p us hl]
  have e1:first.map d=vs:=by apply Array.ext'; simpa using key _ _ h1
  have i:captured.map d=us:=by apply Array.ext'; simpa using key _ _ h2
  rw [e1,i]
  exact aj.bj _) j h
theorem Ox.len{x:Operand}{t e:TypeId}{a:Option Addr}{n cap:Nat}(b:o.op = .call ⟨.builtin .len,#[x],#[t]⟩)(i:aY st x=some (.slice a n cap))(g:P.underlying t=some (.slice e))
  (hd:bO o.dst c.n) (f:aB (bT o.dst (.int .i64 (n:Int)) st) st') (h:C R H st'):aQ P B c o R H st C :=
 Ox.val (by rw [b]; rfl) hd (λ d j=>by
  simp only [execOp,b]
  refine aj.bt (a:=⟨.builtin .len #[t] o.type (#[x].map λ | .const _=>true | _=>false),#[x].map d⟩) (aj.bj _) ?_
  simp only [invoke,builtin]
  refine aj.bt (a:=.int .i64 (n:Int)) ?_ (aj.bj _)
  have e:(#[x].map d)=#[.slice a n cap]:=by simp [j x _ i]
  rw [e]
  exact aj.bt (aj.underlying g) (aj.bj _)) f h
theorem Ox.uV{x:Operand}{t:TypeId}{s:ByteArray}(b:o.op = .call ⟨.builtin .len,#[x],#[t]⟩)(i:aY st x=some (.string s))(g:P.underlying t=some .string)
  (hd:bO o.dst c.n) (f:aB (bT o.dst (.int .i64 (s.size:Int)) st) st') (h:C R H st'):aQ P B c o R H st C :=
 Ox.val (by rw [b]; rfl) hd (λ d j=>by
  simp only [execOp,b]
  refine aj.bt (a:=⟨.builtin .len #[t] o.type (#[x].map λ | .const _=>true | _=>false),#[x].map d⟩) (aj.bj _) ?_
  simp only [invoke,builtin]
  refine aj.bt (a:=.int .i64 (s.size:Int)) ?_ (aj.bj _)
  have e:(#[x].map d)=#[.string s]:=by simp [j x _ i]
  rw [e]
  exact aj.bt (aj.underlying g) (aj.bj _)) f h
theorem py{f:FuncId}{fn:Func}{args:aU}(b:P.funcs[f]? = some fn)(d:(fn.name == "runtime.NumGoroutine")=false)(hb:fn.body.isNone=false):aj P (callFunc f args) (.enter f args):=by
 unfold callFunc
 refine aj.bt aj.program ?_
 simp only [b,d,hb]
 exact aj.bj _
structure aV (P:Program) (f:FuncId):Prop where
 ex:∃ fn,P.funcs[f]? = some fn∧(fn.name == "runtime.NumGoroutine")=false∧fn.body.isNone=false
def eO(st:St):List Operand→Option bn
 | []=>some []
 | x::r=>match aY st x,eO st r with
  | some v,some vs=>some (v::vs)
  | _,_=>none
theorem oc{st:St}{f:Operand→Value}(d:Knows st f):∀ (l:List Operand) (r:bn),eO st l=some r→l.map f=r
 | [],r,h=>by cases h; rfl
 | x::l,r,h=>by
  simp only [eO] at h
  cases b:aY st x with
  | none=>simp [b] at h
  | some v =>
   cases hl:eO st l with
   | none=>simp [b,hl] at h
   | some vs =>
    simp [b,hl] at h
    subst h
    simp [d x v b,oc d l vs hl]
theorem Ox.cD{b:Call}{x:Operand}{f:FuncId}{first captured:aU}{vs:bn}{args:aU}
  (d:o.op = .call b) (m:b.callee = .value x) (s:aY st x=some (.func (.func f) first captured)) (i:eO st b.args.toList=some vs) (he:aV P f) (j:first++vs.toArray++captured=args)
  (hd:bO o.dst c.n) (p:aO ae f args R H λ v R' H'=>∃ st',aB (bT o.dst v st) st'∧C R' H' st'):hK ae c o R H st C :=
 ⟨by rw [d]; rfl,hd,.inr ⟨f,args,λ w g=>by
  obtain ⟨fn,h1,h2,h3⟩:=he.ex
  simp only [execOp,d,resolve,m,g x _ s,Deferred.ofValue]
  have e:b.args.map w=vs.toArray:=by apply Array.ext'; simpa using oc g _ _ i
  refine aj.bt (a:=⟨.fn (.func f) captured,first++vs.toArray⟩) (by rw [e]; exact aj.bj _) ?_
  simp only [invoke,j]
  exact py h1 h2 h3,p⟩⟩
end
def dU(P:Program)(t:TypeId)(cs:aU):Prop:=∃ z,aj P (zeroValue t) z∧z.cells=cs
def dy(P:Program)(t:TypeId):Prop:=aj P (isAgg t) false∧aj P (sizeOf t) 1
def eU(P:Program)(t:TypeId)(n:Nat):Prop:=aj P (isAgg t) true∧aj P (sizeOf t) n
def aI(R:aA)(H:ai)(b o:Nat)(vs:bn):Prop:=∀ j v,vs[j]? = some v→Cell R H ⟨b,o+j,none⟩ v
theorem aI.known{R:aA}{H:ai}{b o n:Nat}{cs:aU}{e:TypeId}{f:Nat × Nat}{vs:bn}(hm:R b=some (Obj.cells cs e f))(g:(cs.toList.drop o).take n=vs):aI R H b o vs:=by
 intro j v d
 refine ⟨rfl,cs,e,f,.inl hm,?_⟩
 subst g
 rw [List.getElem?_take] at d
 split at d
 ·rw [List.getElem?_drop] at d
  simpa using d
 ·cases d
def dL(cs:aU):Nat→bn→aU
 | _,[]=>cs
 | o,v::r=>dL (cs.setIfInBounds o v) (o+1) r
theorem s7:∀ (vs:bn) (cs:aU) (o:Nat),(dL cs o vs).size=cs.size
 | [],_,_=>rfl
 | v::r,cs,o=>by simp only [dL]; rw [s7 r]; simp
theorem dg.mid{H H1 H':ai}{b:Nat}{o o' f:Obj}(h:dg H b o o' H1)(k:dg H b o f H')(d:(H.map (·.1)).Nodup):dg H1 b o' f H':=by
 induction h generalizing H' with
 | @here b o o' H =>
  cases k with
  | here=>exact .here
  | there k =>
   rw [List.map_cons,List.nodup_cons] at d
   exact absurd (List.mem_map.2 ⟨_,k.mem,rfl⟩) d.1
 | @there b o o' p H H1 g i =>
  cases k with
  | here =>
   rw [List.map_cons,List.nodup_cons] at d
   exact absurd (List.mem_map.2 ⟨_,g.mem,rfl⟩) d.1
  | there k =>
   rw [List.map_cons,List.nodup_cons] at d
   exact .there (i k d.2)
section
variable {P:Program} {B:Base} {main:Bool} {ae:Jd P B main} {c:Ctx} {R:aA} {H H':ai} {st st':St} {o:Oper} {C:aA→ai→St→Prop}
theorem aL.wo{b:Nat}{e:TypeId}{K:Unit→aA→ai→Prop}:∀ (vs:bn) (cs:aU) (off i:Nat) (H H':ai),(∀ v∈vs,v.oneCell'=true)→off+i+vs.length≤cs.size →
  dg H b (.cells cs e (0,0)) (.cells (dL cs (off+i) vs) e (0,0)) H'→(H.map (·.1)).Nodup→K () R H'→aL P B R H (storeCells ⟨b,off,none⟩ vs i) K
 | [],cs,off,i,H,H',_,_,d,g,f=>by
  have e1:H'=H:=by
   have:∀ {H H':ai} {o:Obj},dg H b o o H'→H'=H:=by
    intro H H' o h
    induction H generalizing H' with
    | nil=>cases h
    | cons p r m =>
     cases h with
     | here=>rfl
     | there h=>rw [m h]
   exact this d
  subst e1
  simp only [storeCells]
  exact aL.cN f
 | v::r,cs,off,i,H,H',h1,hl,d,g,f=>by
  simp only [storeCells]
  simp only [List.length_cons] at hl
  have hex:∀ (H:ai) (o o':Obj),(b,o)∈H→∃ H1,dg H b o o' H1:=by
   intro H o o' hm
   induction H with
   | nil=>cases hm
   | cons p r m =>
    rcases c8.1 hm with rfl | hm
    ·exact ⟨_,.here⟩
    ·obtain ⟨H1,h1⟩:=m hm
     exact ⟨_,.there h1⟩
  obtain ⟨H1,j⟩:=hex H _ (.cells (cs.setIfInBounds (off+i) v) e (0,0)) d.mem
  have s:dg H1 b (.cells (cs.setIfInBounds (off+i) v) e (0,0)) (.cells (dL cs (off+i) (v::r)) e (0,0)) H':=dg.mid j d g
  refine aL.cE ?_
  rw [jy]
  refine aL.store (h1 v (by simp)) rfl (by show off+i < cs.size; omega) j ?_
  exact aL.wo r (cs.setIfInBounds (off+i) v) off (i+1) H1 H' (λ u hu=>h1 u (by simp [hu])) (by simp; omega) (by simpa [dL,Nat.add_assoc] using s) (by rw [j.keys]; exact g) f
theorem aL.given{α:Type}{s:Sem α}{K:α→aA→ai→Prop}(h:(H.map (·.1)).Nodup→aL P B R H s K):aL P B R H s K:=λ w hw=>h hw.nd w hw
theorem aL.storeVar{t:TypeId}{b off n:Nat}{e:TypeId}{v:Value}{cs:aU}{K:Unit→aA→ai→Prop}(g:aj P (sizeOf t) n)(d:v.cells.size=n)(h1:∀ u∈v.cells.toList,u.oneCell'=true)(hl:off+n≤cs.size)
  (j:dg H b (.cells cs e (0,0)) (.cells (dL cs off v.cells.toList) e (0,0)) H') (f:K () R H'):aL P B R H (storeVar t ⟨b,off,none⟩ v) K:=by
 refine aL.given λ i=>?_
 unfold Go.storeVar
 refine aj.dc g ?_
 simp only [d,ne_eq,fW,if_false]
 exact aL.wo _ cs off 0 H H' h1 (by simp [d]; exact hl) (by simpa using j) i f
theorem aL.loadCellsFrom{b off:Nat}{K:aU→aA→ai→Prop}:∀ (vs:bn) (i:Nat) (acc:aU),aI R H b (off+i) vs→K (acc++vs.toArray) R H→aL P B R H (loadCellsFrom ⟨b,off,none⟩ i vs.length acc) K
 | [],i,acc,_,d=>by
  simp only [List.length_nil,Go.loadCellsFrom]
  exact aL.cN (by simpa using d)
 | v::r,i,acc,f,d=>by
  simp only [List.length_cons,Go.loadCellsFrom]
  refine aL.cE ?_
  rw [jy]
  refine aL.load (v:=v) (by simpa using f 0 v rfl) ?_
  refine aL.loadCellsFrom r (i+1) (acc.push v) (λ j u g=>?_) (by simpa using d)
  have:=f (j+1) u (by simpa using g)
  simpa [Nat.add_assoc,Nat.add_comm,Nat.add_left_comm] using this
theorem Ox.iA{x:Operand}{t:TypeId}{b off:Nat}{v:Value}(f:o.op = .load t x)(m:aY st x=some (.pointer (some ⟨b,off,none⟩)))(j:dy P t)(g:Cell R H ⟨b,off,none⟩ v)
  (hd:bO o.dst c.n) (i:aB (bT o.dst v st) st') (h:C R H st'):aQ P B c o R H st C :=
 Ox.mem (s:=λ d=>Instr.loadAt t (d x)) (by rw [f]; rfl) hd (λ d=>by simp only [execOp,f]) (λ d p=>by
  rw [p x _ m]
  simp only [Instr.loadAt,Instr.sureAddr,loadVar]
  refine aj.dc (aj.bj _) (aj.dc j.1 ?_)
  exact aL.load g ⟨st',i,h⟩)
theorem Ox.bH{x:Operand}{t:TypeId}{b off n:Nat}{vs:bn}(f:o.op = .load t x)(p:aY st x=some (.pointer (some ⟨b,off,none⟩)))(g:eU P t n)(j:vs.length=n)(i:aI R H b off vs)
  (hd:bO o.dst c.n) (m:aB (bT o.dst (.agg vs.toArray) st) st') (h:C R H st'):aQ P B c o R H st C :=
 Ox.mem (s:=λ d=>Instr.loadAt t (d x)) (by rw [f]; rfl) hd (λ d=>by simp only [execOp,f]) (λ d w=>by
  rw [w x _ p]
  simp only [Instr.loadAt,Instr.sureAddr,loadVar]
  refine aj.dc (aj.bj _) (aj.dc g.1 ?_)
  simp only [if_true]
  refine aj.dc g.2 (aL.cE ?_)
  subst j
  exact aL.loadCellsFrom vs 0 #[] (by simpa using i) (aL.cN ⟨st',by simpa using m,h⟩))
theorem Ox.dR{x y:Operand}{t e:TypeId}{b off:Nat}{v:Value}{cs cs':aU}(g:o.op = .store t x y)(A:aY st x=some (.pointer (some ⟨b,off,none⟩)))(D:aY st y=some v)(z:dy P t)(i:v.oneCell'=true)(p:dg H b (.cells cs e (0,0)) (.cells cs' e (0,0)) H')(hl:Nat.blt off cs.size=true)(m:cs.setIfInBounds off v=cs')
  (hd:o.dst=none) (w:aB st st') (h:C R H' st'):aQ P B c o R H st C :=
 Ox.vr (s:=λ d=>Instr.storeAt t (d x) (d y)) (by rw [g]; rfl) hd (λ d=>by simp only [execOp,g]) w (λ d j=>by
  rw [j x _ A,j y _ D]
  simp only [Instr.storeAt,Instr.sureAddr]
  refine aj.dc (aj.bj _) ?_
  have f:v.cells=#[v]:=by cases v <;> first | rfl | (simp [Value.oneCell'] at i)
  refine aL.storeVar (cs:=cs) (e:=e) z.2 (by rw [f]; rfl) (by rw [f]; simpa using i) (Nat.le_of_ble_eq_true hl) ?_ h
  rw [f]
  simpa [dL,m] using p)
theorem Ox.dn{x y:Operand}{t e:TypeId}{b off n:Nat}{vs:aU}{cs cs':aU}(f:o.op = .store t x y)(z:aY st x=some (.pointer (some ⟨b,off,none⟩)))(A:aY st y=some (.agg vs))(w:eU P t n)(j:vs.size=n)(h1:∀ u∈vs.toList,u.oneCell'=true)(m:dg H b (.cells cs e (0,0)) (.cells cs' e (0,0)) H')(hl:Nat.ble (off+n) cs.size=true)(i:dL cs off vs.toList=cs')
  (hd:o.dst=none) (p:aB st st') (h:C R H' st'):aQ P B c o R H st C :=
 Ox.vr (s:=λ d=>Instr.storeAt t (d x) (d y)) (by rw [f]; rfl) hd (λ d=>by simp only [execOp,f]) p (λ d g=>by
  rw [g x _ z,g y _ A]
  simp only [Instr.storeAt,Instr.sureAddr]
  refine aj.dc (aj.bj _) ?_
  exact aL.storeVar (cs:=cs) (e:=e) w.2 j h1 (Nat.le_of_ble_eq_true hl) (by simpa [Value.cells,i] using m) h)
theorem Ox.ij{x:Operand}{t:TypeId}{v:Value}(f:o.op = .box t x)(i:aY st x=some v)(g:v.cells=#[v])(hd:bO o.dst c.n)
  (h:∀ b,R b=none→(∀ x,(b,x) ∉ H)→∃ st',aB (bT o.dst (.pointer (some ⟨b,0,none⟩)) st) st'∧C R ((b,.cells #[v] t)::H) st'):aQ P B c o R H st C :=
 Ox.mem (s:=λ d=>Instr.box t (d x)) (by rw [f]; rfl) hd (λ d=>by simp only [execOp,f]) (λ d j=>by
  rw [j x _ i]
  simp only [Instr.box,newVar,newRow,g]
  exact aL.cE (aL.cE (aL.new λ b h1 h2=>aL.cN (aL.cN (h b h1 h2)))))
theorem Ox.AZ{x:Operand}{t:TypeId}{vs:aU}(f:o.op = .box t x)(g:aY st x=some (.agg vs))(hd:bO o.dst c.n)
  (h:∀ b,R b=none→(∀ x,(b,x) ∉ H)→∃ st',aB (bT o.dst (.pointer (some ⟨b,0,none⟩)) st) st'∧C R ((b,.cells vs t)::H) st'):aQ P B c o R H st C :=
 Ox.mem (s:=λ d=>Instr.box t (d x)) (by rw [f]; rfl) hd (λ d=>by simp only [execOp,f]) (λ d i=>by
  rw [i x _ g]
  simp only [Instr.box,newVar,newRow,Value.cells]
  exact aL.cE (aL.cE (aL.new λ b h1 h2=>aL.cN (aL.cN (h b h1 h2)))))
theorem Ox.alloc{t:TypeId}{cs:aU}(d:o.op = .alloc t)(f:dU P t cs)(hd:bO o.dst c.n)
  (h:∀ b,R b=none→(∀ x,(b,x) ∉ H)→∃ st',aB (bT o.dst (.pointer (some ⟨b,0,none⟩)) st) st'∧C R ((b,.cells cs t)::H) st'):aQ P B c o R H st C :=
 Ox.mem (s:=λ _=>Instr.alloc t true (.tuple #[])) (by rw [d]; rfl) hd (λ i=>by simp only [execOp,d]) (λ i j=>by
  obtain ⟨z,g,rfl⟩:=f
  simp only [Instr.alloc,newVar,newRow]
  exact aj.dc g (aL.cE (aL.cE (aL.new λ b h1 h2=>aL.cN (aL.cN (h b h1 h2))))))
def nI(st:St):List (Nat × Operand)→Option (List (Nat × Value))
 | []=>some []
 | (j,x)::r=>match aY st x,nI st r with
  | some v,some vs=>some ((j,v)::vs)
  | _,_=>none
theorem zw{f:Operand→Value}(d:Knows st f):∀ (l:List (Nat × Operand)) (r:List (Nat × Value)),nI st l=some r→l.map (λ (j,x)=>(j,f x))=r
 | [],r,h=>by cases h; rfl
 | (j,x)::l,r,h=>by
  simp only [nI] at h
  cases b:aY st x with
  | none=>simp [b] at h
  | some v =>
   cases hl:nI st l with
   | none=>simp [b,hl] at h
   | some vs =>
    simp [b,hl] at h
    subst h
    simp [d x v b,zw d l vs hl]
def hn(P:Program)(t:TypeId)(places:List (Nat × Nat))(z:aU):Prop :=
 dU P t z∧∃ b:Array Field,P.underlying t=some (.struct b)∧aj P (b.mapM λ f=>do pure (f.offset,← sizeOf f.type)) places.toArray
theorem Ox.build{t:TypeId}{parts:Array (Nat × Operand)}{d:List (Nat × Value)}{places:List (Nat × Nat)}{z cells:aU}(f:o.op = .build t parts)(p:hn P t places z)(i:nI st parts.toList=some d)(g:Instr.fill (places.toArray[·]?) z d=some cells)
  (hd:bO o.dst c.n) (m:aB (bT o.dst (.agg cells) st) st') (h:C R H st'):aQ P B c o R H st C :=
 Ox.fU (s:=λ b=>Instr.build t (parts.map λ (j,x)=>(j,b x))) (by rw [f]; rfl) hd (λ b=>by simp only [execOp,f]) (λ b y=>by
  obtain ⟨⟨z0,w,rfl⟩,A,h1,h2⟩:=p
  have e:(parts.map λ (j,x)=>(j,b x))=d.toArray:=by apply Array.ext'; simpa using zw y _ _ i
  rw [e]
  unfold Instr.build
  refine aj.bt w (aj.bt (aj.underlying h1) (aj.bt h2 ?_))
  simp only [g]
  exact aj.bj _) m h
def ia(P:Program)(t e n:Nat)(z:aU):Prop:=P.underlying t=some (.slice e)∧aj P (sizeOf e) n∧dU P e z∧z.size=n∧0 < n
theorem Ox.buildSlice{t e n len:Nat}{parts:Array (Nat × Operand)}{m:List (Nat × Value)}{z base cells:aU}(p:o.op = .buildSlice t len parts)(D:ia P t e n z)(y:nI st parts.toList=some m)(hlen:len * n≤16777216)
  (hb:(Array.range (len * n)).map (z[· % z.size]!)=base) (i:Instr.fill (λ j=>some (j * n,n)) base m=some cells) (hd:bO o.dst c.n)
  (h:∀ b,R b=none→(∀ x,(b,x) ∉ H)→∃ st',aB (bT o.dst (.slice (some ⟨b,0,none⟩) len len) st) st'∧C R ((b,.cells cells e)::H) st'):aQ P B c o R H st C :=
 Ox.mem (s:=λ d=>Instr.buildSlice t len (parts.map λ (j,x)=>(j,d x))) (by rw [p]; rfl) hd (λ d=>by simp only [execOp,p]) (λ d F=>by
  subst hb
  obtain ⟨h1,h2,⟨z0,E,rfl⟩,h3,h4⟩:=D
  have w:(parts.map λ (j,x)=>(j,d x))=m.toArray:=by apply Array.ext'; simpa using zw F _ _ y
  rw [w]
  unfold Instr.buildSlice
  refine aj.dc (aj.underlying h1) (aj.dc h2 ?_)
  have hl:¬ (len * n > 2 ^ 24):=by omega
  simp only [hl,if_false]
  have last:aL P B R H (do let a ← newRow e cells; pure (.slice (some a) len len)) λ v R' H'=>∃ st',aB (bT o.dst v st) st'∧C R' H' st':=by
   simp only [newRow]
   exact aL.cE (aL.cE (aL.new λ b h1 h2=>aL.cN (aL.cN (h b h1 h2))))
  by_cases g:len * n=0
  ·simp only [g,if_true]
   refine aj.dc (aj.bj _) ?_
   have A:∀ f:Nat→Value,(Array.range 0).map f=#[]:=λ f=>by simp [Array.range]
   simp only [g,A] at i ⊢
   simp only [i]
   exact last
  ·simp only [g,if_false]
   refine aj.dc E (aj.dc (aj.bj _) ?_)
   simp only [i]
   exact last)
end
def aK(R R':aA):Prop:=∀ b o,R b=some o→R' b=some o
theorem aK.refl(R:aA):aK R R:=λ _ _ h=>h
theorem aK.trans{R R' cc:aA}(h:aK R R')(k:aK R' cc):aK R cc:=λ b o x=>k b o (h b o x)
section
variable {P:Program} {B:Base} {main:Bool} (ae:Jd P B main)
def n2(c:Ctx)(S:ai)(ops:Array Oper)(i:Nat)(tmps:aU)(R:aA)(H:ai)(K:aU→aA→ai→Prop):Prop :=
 ∃ o,ops[i]? = some o∧gH o.op=false ∧
  ((Region.wanted o (yielded ops tmps)=false∧K (dG o.dst undef tmps) R H) ∨
   (Region.wanted o (yielded ops tmps)=true ∧
   ((aL P B R H (execOp (aR c tmps []).eval o) λ nx R' H'=>∃ v,(nx = .value v∨(nx = .skip∧v=undef))∧aK R R'∧(∀ p∈S,p∈H→p∈H')∧K (dG o.dst v tmps) R' H') ∨
    (∃ f args,aj P (execOp (aR c tmps []).eval o) (.enter f args)∧aO ae f args R H λ v R' H'=>aK R R'∧(∀ p∈S,p∈H→p∈H')∧K (dG o.dst v tmps) R' H'))))
theorem J.given{R:aA}{H:ai}{g:Goroutine}(d:g.status = .running)(h:(∃ w,Fits B R H w)→ae.J R H g):ae.J R H g:=by
 by_cases hw:∃ w,Fits B R H w
 ·exact h hw
 ·exact ae.step d λ w b=>absurd ⟨w,b⟩ hw
def gx(ops:Array Oper)(rem:List Nat)(i:Nat):Bool:=match ops[i]? with
 | some o=>o.after.all λ e=>!Region.binds .any e || !rem.contains e.on
 | none=>false
def pD(c:Ctx)(S:Nat→ai)(ops:Array Oper)(Q:aU→aA→ai→Prop):Nat→List Nat→aU→aA→ai→Prop
 | 0,rem,t,R,H=>rem=[]∧Q t R H
 | n+1,rem,t,R,H=>(rem=[]∧Q t R H)∨(rem≠[]∧((∃ w,Fits B R H w)→∀ i∈rem,gx ops rem i=true→n2 ae c (S i) ops i t R H λ t' R' H'=>pD c S ops Q n (rem.erase i) t' R' H'))
variable {ae}
def backward(ops:Array Oper):Bool:=(List.range ops.size).all λ i=>match ops[i]? with
 | some o=>o.after.all λ e=>!Region.binds .any e || decide (e.on < i)
 | none=>true
theorem CU(c:Ctx)(tmps:aU)(todo:List Item):(aR c tmps todo).eval=(aR c tmps []).eval:=by
 funext x; cases x <;> rfl
theorem GY{c:Ctx}{S:ai}{ops:Array Oper}{i:Nat}{rest:List Nat}{k:List Item}{tmps:aU}{R:aA}{H:ai}{K:aU→aA→ai→Prop}(z:(c.kind == CallKind.early)=false)(h:n2 ae c S ops i tmps R H K)
  (d:∀ t R' H',K t R' H'→ae.J R' H' (aS (aR c t (.inRegion ops rest::k)) c.cs)):ae.J R H (aS (aR c tmps (.inRegion ops (i::rest)::k)) c.cs):=by
 obtain ⟨o,ho,hd,h⟩:=h
 have g:(aR c tmps (.inRegion ops (i::rest)::k)).kind ≠ .early:=by show c.kind≠_; simpa using z
 rcases h with ⟨h1,h2⟩ | ⟨h1,h2 | ⟨f,args,h2,h3⟩⟩
 ·exact Jd.ctl rfl (λ w=>zU ho h1) (d _ _ _ h2)
 ·refine ae.step rfl λ w j=>?_
  obtain ⟨nx,w',R',H',e1,m,p,v,b,_,_,s⟩:=h2 w j
  refine ⟨aS (aR c (dG o.dst v tmps) (.inRegion ops rest::k)) c.cs,w',seen P c.fn ((execOp (aR c tmps []).eval o).events P w #[]),R',H',?_,λ e he=>m e (mem_seen he),p,d _ _ _ s⟩
  rw [hX ho h1 hd,← ir (rest:=rest) (k:=k) (c:=c) (tmps:=tmps) (v:=v) ho,CU]
  rcases b with rfl | ⟨rfl,rfl⟩
  ·exact ob g e1
  ·exact w6 g e1
 ·refine ae.step rfl λ w j=>?_
  have b:=h2 w
  refine ⟨aS (Frame.enter P f args .normal) (aR c tmps (.inRegion ops (i::rest)::k)::c.cs),w,seen P c.fn ((execOp (aR c tmps []).eval o).events P w #[]),R,H,?_,?_,dN.refl j,h3 _ _ λ v R' H' A=>?_⟩
  ·rw [hX ho h1 hd,CU]
   exact rj rfl g b.1
  ·intro e y
   have:=mem_seen y
   rw [b.2] at this
   simp at this
  ·rw [ir ho]
   exact d _ _ _ A.2.2
def q0(ops:Array Oper)(listed:Array Bool)(rem:List Nat):Prop:=listed.size=ops.size∧rem.Nodup∧(∀ i,i∈rem↔(i < ops.size∧listed.getD i true=false))
theorem L5{listed:Array Bool}{i j:Nat}{d:Bool}(hi:i < listed.size):(listed.setIfInBounds i true).getD j d=if i=j then true else listed.getD j d:=by
 simp only [Array.getD_eq_getD_getElem?]
 by_cases h:i=j
 ·subst h; simp [hi]
 ·rw [if_neg h,gB h]
theorem q0.erase{ops:Array Oper}{listed:Array Bool}{rem:List Nat}(h:q0 ops listed rem){i:Nat}(hi:i∈rem):q0 ops (listed.setIfInBounds i true) (rem.erase i):=by
 obtain ⟨h1,h2,h3⟩:=h
 have b:i < listed.size:=by rw [h1]; exact ((h3 i).1 hi).1
 refine ⟨by simp [h1],h2.erase _,λ j=>?_⟩
 rw [h2.mem_erase_iff,h3 j,L5 b]
 by_cases e:i=j
 ·subst e; simp
 ·simp [e,Ne.symm e]
theorem DG:∀ (l:List Nat),l≠[]→∃ m∈l,∀ x∈l,m≤x
 | [],h=>absurd rfl h
 | [a],_=>⟨a,by simp,by simp⟩
 | a::b::r,_=>by
  obtain ⟨m,hm,hl⟩:=DG (b::r) (by simp)
  by_cases h:a≤m
  ·exact ⟨a,by simp,λ x d=>by
    rcases c8.1 d with rfl | d
    ·exact cq _
    ·exact Nat.le_trans h (hl x d)⟩
  ·exact ⟨m,List.mem_cons_of_mem _ hm,λ x d=>by
    rcases c8.1 d with rfl | d
    ·omega
    ·exact hl x d⟩
theorem Aw{c:Ctx}{S:Nat→ai}{ops:Array Oper}{k:List Item}{Q:aU→aA→ai→Prop}(D:(c.kind == CallKind.early)=false)(hb:backward ops=true)
  (j:∀ t R H,Q t R H→ae.J R H (aS (aR c t k) c.cs)):∀ (fuel t:Nat) (listed:Array Bool) (acc:List Nat) (rem:List Nat) (tmps:aU) (R:aA) (H:ai),q0 ops listed rem→rem.length≤fuel →
   pD ae c S ops Q fuel rem tmps R H→∃ is,Region.linearise.go .any ops fuel t listed acc=acc.reverse++is∧ae.J R H (aS (aR c tmps (.inRegion ops is::k)) c.cs)
 | 0,t,listed,acc,rem,tmps,R,H,_,_,h=>⟨[],by simp [Region.linearise.go],Jd.ctl rfl (λ w=>by simp [stepG,stepG.exec,aS,aR]) (j _ _ _ h.2)⟩
 | fuel+1,t,listed,acc,rem,tmps,R,H,b,hl,h=>by
  generalize g:((List.range ops.size).filter λ i=>!listed.getD i true && ((ops[i]?).map (·.after.all λ e=>!Region.binds .any e || listed.getD e.on false)).getD false)=rs
  have E:∀ i,i∈rs→i∈rem∧gx ops rem i=true:=by
   intro i hi
   rw [← g] at hi
   simp only [List.mem_filter,List.mem_range,cO,Bool.not_eq_true'] at hi
   obtain ⟨h1,h2,h3⟩:=hi
   refine ⟨(b.2.2 i).2 ⟨h1,h2⟩,?_⟩
   unfold gx
   cases ho:ops[i]? with
   | none=>simp [ho] at h3
   | some o =>
    simp only [ho,Option.map_some,gP,Array.all_eq_true_iff_forall_mem] at h3 ⊢
    intro e he
    have:=h3 e he
    rcases Bool.or_eq_true_iff.1 this with x | x
    ·simp [x]
    ·have y:e.on ∉ rem:=λ hm=>by
      have:=((b.2.2 e.on).1 hm).2
      have f:e.on < listed.size:=by rw [b.1]; exact ((b.2.2 e.on).1 hm).1
      simp only [Array.getD_eq_getD_getElem?,h0 f,gP] at this x
      rw [x] at this; cases this
     simp [y]
  rcases h with ⟨rfl,N⟩ | ⟨M,G⟩
  ·have T:rs=[]:=by
    cases rs with
    | nil=>rfl
    | cons a r=>exact absurd (E a (by simp)).1 (by simp)
   refine ⟨[],?_,Jd.ctl rfl (λ w=>by simp [stepG,stepG.exec,aS,aR]) (j _ _ _ N)⟩
   unfold Region.linearise.go
   simp only [g,T]
   simp
  ·
   have U:rs≠[]:=by
    obtain ⟨m,hm,K⟩:=DG rem M
    have s:=((b.2.2 m).1 hm).1
    have:m∈rs:=by
     rw [← g]
     simp only [List.mem_filter,List.mem_range,cO,Bool.not_eq_true']
     refine ⟨s,((b.2.2 m).1 hm).2,?_⟩
     have ho:ops[m]? = some ops[m]:=h0 s
     simp only [ho,Option.map_some,gP,Array.all_eq_true_iff_forall_mem]
     intro e he
     unfold backward at hb
     rw [List.all_eq_true] at hb
     have z:=hb m (List.mem_range.2 s)
     simp only [ho,Array.all_eq_true_iff_forall_mem] at z
     rcases Bool.or_eq_true_iff.1 (z e he) with x | x
     ·simp [x]
     ·have f:e.on < m:=by simpa using x
      have y:e.on ∉ rem:=λ L=>by have:=K _ L; omega
      have hl':e.on < listed.size:=by rw [b.1]; omega
      have h1:listed.getD e.on true=true:=by
       cases I:listed.getD e.on true with
       | true=>rfl
       | false=>exact absurd ((b.2.2 e.on).2 ⟨by omega,I⟩) y
      simp only [Array.getD_eq_getD_getElem?,h0 hl',gP] at h1 ⊢
      simp [h1]
    intro e; rw [e] at this; cases this
   have hlen:t % rs.length < rs.length:=Nat.mod_lt _ (by
    cases rs with
    | nil=>exact absurd rfl U
    | cons _ _=>simp)
   have hi:rs[t % rs.length]? = some rs[t % rs.length]:=fy hlen
   generalize rs[t % rs.length]=i at hi
   obtain ⟨p,O⟩:=E i (List.mem_of_getElem? hi)
   have V:=λ hw=>G hw i p O
   have f:(rem.erase i).length≤fuel:=by rw [List.length_erase_of_mem p]; omega
   have hgo:∀ d,∃ is,Region.linearise.go .any ops fuel (t / rs.length) (listed.setIfInBounds i true) d=d.reverse++is:=λ d=>⟨_,linearise_go_acc .any ops fuel (t / rs.length) (listed.setIfInBounds i true) d⟩
   obtain ⟨is,A⟩:=hgo (i::acc)
   refine ⟨i::is,?_,?_⟩
   ·rw [Region.linearise.go]
    simp only [g,hi]
    rw [A]; simp
   ·refine J.given ae rfl λ hw=>?_
    refine GY D (V hw) λ t' R' H' F=>?_
    obtain ⟨W,h1,h2⟩:=Aw D hb j fuel (t / rs.length) (listed.setIfInBounds i true) (i::acc) (rem.erase i) t' R' H' (b.erase p) f F
    rw [A] at h1
    have:is=W:=by simpa using h1
    rw [this]; exact h2
end
section
variable {P:Program} {B:Base} {main:Bool} {ae:Jd P B main}
def noSelect(o:Oper):Bool:=match o.op with | .select _ _=>false | _=>true
def looks(ops:Array Oper)(o:Oper):List Nat :=
 (o.op.operands.toList.filterMap λ | .tmp t=>some t | _=>none)++(match o.guard with | some (j,_)=>((ops[j]?).bind (·.dst)).toList | none=>[])
def rh(ops:Array Oper)(a b:Oper):Bool :=
 (match a.dst with | some d=>!(looks ops b).contains d && b.dst != some d | none=>true) && (match b.dst with | some d=>!(looks ops a).contains d | none=>true)
theorem Rl{a b:Option Tmp}{v u:Value}{t:aU}(h:∀ d,a=some d→b≠some d):dG a v (dG b u t)=dG b u (dG a v t):=by
 cases a with
 | none=>rfl
 | some x=>cases b with
  | none=>rfl
  | some y =>
   have f:x≠y:=λ e=>h x rfl (by rw [e])
   simp only [dG]
   exact Array.setIfInBounds_comm u v (Ne.symm f)
theorem KF{c:Ctx}{t:aU}{dst:Option Tmp}{v:Value}{x:Operand}(h:∀ d,dst=some d→x ≠ .tmp d):(aR c (dG dst v t) []).eval x=(aR c t []).eval x:=by
 cases dst with
 | none=>rfl
 | some d=>cases x with
  | tmp y =>
   have b:d≠y:=λ e=>h d rfl (by rw [e])
   simp only [aR,Frame.eval,dG,Array.getD_eq_getD_getElem?]
   rw [gB b]
  | _=>rfl
theorem CV{c:Ctx}{ops:Array Oper}{t:aU}{dst:Option Tmp}{v:Value}{o:Oper}(f:noSelect o=true)(h:∀ d,dst=some d→d ∉ looks ops o):execOp (aR c (dG dst v t) []).eval o=execOp (aR c t []).eval o:=by
 refine execOp_congr o (λ cs b e=>by rw [noSelect,e] at f; cases f) λ x g=>KF λ d hd e=>h d hd ?_
 subst e
 unfold looks
 exact cw _ (List.mem_filterMap.2 ⟨_,Array.mem_toList_iff.2 g,rfl⟩)
theorem GD{ops:Array Oper}{t:aU}{dst:Option Tmp}{v:Value}{o:Oper}(h:∀ d,dst=some d→d ∉ looks ops o):Region.wanted o (yielded ops (dG dst v t))=Region.wanted o (yielded ops t):=by
 unfold Region.wanted
 cases b:o.guard with
 | none=>rfl
 | some g =>
  obtain ⟨j,want⟩:=g
  simp only [yielded]
  cases hd:(ops[j]?).bind (·.dst) with
  | none=>rfl
  | some d =>
   simp only [aF]
   cases dst with
   | none=>rfl
   | some d' =>
    have f:d'≠d:=λ e=>h d' rfl (by
     subst e
     unfold looks
     rw [b]
     exact ew _ (by simp [hd]))
    simp only [dG]
    rw [gB f]
theorem AL{ops:Array Oper}{a b:Oper}(h:rh ops a b=true):(∀ d,a.dst=some d→d ∉ looks ops b∧b.dst≠some d)∧(∀ d,b.dst=some d→d ∉ looks ops a):=by
 unfold rh at h
 rw [cO] at h
 refine ⟨λ d hd=>?_,λ d hd=>?_⟩
 ·rw [hd] at h; simpa using h.1
 ·rw [hd] at h; simpa using h.2
theorem n2.dG{c:Ctx}{S:ai}{ops:Array Oper}{j:Nat}{oi g:Oper}{t:aU}{v:Value}{R:aA}{H:ai}{K1 K:aU→aA→ai→Prop}(G:ops[j]? = some g)(I:noSelect g=true)(E:rh ops oi g=true){F:ai}(s:∀ p∈F,p∈H)(A:∀ p∈F,p∈S)
  (h:n2 ae c S ops j (dG oi.dst v t) R H K1) (m:∀ u R' H',aK R R'→(∀ p∈F,p∈H')→K1 (Go.Lg.dG g.dst u (Go.Lg.dG oi.dst v t)) R' H'→K (Go.Lg.dG g.dst u t) R' H'):n2 ae c S ops j t R H K:=by
 obtain ⟨h1,h2⟩:=AL E
 obtain ⟨o,ho,hd,h⟩:=h
 obtain rfl:o=g:=eI (ho.symm.trans G)
 rw [GD (λ d hd=>(h1 d hd).1),CV I (λ d hd=>(h1 d hd).1)] at h
 refine ⟨o,ho,hd,?_⟩
 rcases h with ⟨a,b⟩ | ⟨a,b | ⟨f,args,b,D⟩⟩
 ·exact .inl ⟨a,m _ _ _ (aK.refl _) s b⟩
 ·exact .inr ⟨a,.inl (b.mono λ nx R' H' ⟨u,x,y,z,w⟩=>⟨u,x,y,z,m _ _ _ y (λ p i=>z p (A p i) (s p i)) w⟩)⟩
 ·exact .inr ⟨a,.inr ⟨f,args,b,D.mono λ u R' H' ⟨y,z,w⟩=>⟨y,z,m _ _ _ y (λ p i=>z p (A p i) (s p i)) w⟩⟩⟩
def Av(P:Program)(B:Base)(S:ai)(R:aA)(b:Operand→Value)(o:Oper)(v:Value):Prop :=
 ∀ R' H',aK R R'→(∀ p∈S,p∈H')→aL P B R' H' (execOp b o) λ nx cc cR=>(nx = .value v∨(nx = .skip∧v=undef))∧cc=R'∧cR=H'
def hY(ops:Array Oper)(rem:List Nat)(i:Nat)(D:List Nat):Bool :=
 rem.contains i && gx ops rem i && !D.contains i && D.all (λ j=>rem.contains j && match ops[j]? with | some o=>o.after.any λ e=>Region.binds .any e && (e.on == i || D.contains e.on) | none=>false) &&
 (match ops[i]? with | some oi=>noSelect oi && rem.all (λ j=>j == i || D.contains j || match ops[j]? with | some b=>noSelect b && rh ops oi b | none=>false) | none=>false)
theorem S8{ops:Array Oper}{rem:List Nat}{i j:Nat}{D:List Nat}(h:hY ops rem i D=true)(f:j≠i)(d:j ∉ D):hY ops (rem.erase j) i D=true:=by
 unfold hY at h ⊢
 simp only [cO,Bool.not_eq_true',List.all_eq_true,List.contains_iff_mem] at h ⊢
 obtain ⟨⟨⟨⟨h1,h2⟩,h3⟩,h4⟩,h5⟩:=h
 refine ⟨⟨⟨⟨(List.mem_erase_of_ne (Ne.symm f)).2 h1,?_⟩,h3⟩,λ x b=>⟨(List.mem_erase_of_ne (λ e=>d (by rw [← e]; exact b))).2 (h4 x b).1,(h4 x b).2⟩⟩,?_⟩
 ·unfold gx at h2 ⊢
  cases ho:ops[i]? with
  | none=>simp [ho] at h2
  | some o =>
   simp only [ho,Array.all_eq_true_iff_forall_mem] at h2 ⊢
   intro e he
   have:=h2 e he
   rcases Bool.or_eq_true_iff.1 this with x | x
   ·simp [x]
   ·have g:e.on ∉ rem:=by simpa using x
    have:e.on ∉ rem.erase j:=λ hm=>g (List.mem_of_mem_erase hm)
    simp [this]
 ·cases ho:ops[i]? with
  | none=>simp [ho] at h5
  | some oi =>
   simp only [ho,cO,List.all_eq_true] at h5 ⊢
   exact ⟨h5.1,λ x b=>h5.2 x (List.mem_of_mem_erase b)⟩
theorem AK{c:Ctx}{S:Nat→ai}{ops:Array Oper}{Q:aU→aA→ai→Prop}{i:Nat}{oi:Oper}{D:List Nat}{N:ai}{v:Value}(hi:ops[i]? = some oi)(hd:gH oi.op=false):∀ (n:Nat) (rem:List Nat) (t:aU) (R:aA) (H:ai),
  hY ops rem i D=true→rem.Nodup→(∀ p∈N,p∈H)→(∀ j∈rem,j≠i→j ∉ D→∀ p∈N,p∈S j)→((Region.wanted oi (yielded ops t)=true∧Av P B N R (aR c t []).eval oi v)∨(Region.wanted oi (yielded ops t)=false∧v=undef))→pD ae c S ops Q n (rem.erase i) (dG oi.dst v t) R H→pD ae c S ops Q (n+1) rem t R H:=by
 intro n
 induction n with
 | zero =>
  intro rem t R H m V G M J h
  unfold hY at m
  simp only [cO,List.contains_iff_mem] at m
  have A:i∈rem:=m.1.1.1.1
  refine .inr ⟨(λ e=>by rw [e] at A; cases A),λ _ j w _=>?_⟩
  have g:j=i:=by
   by_cases e:j=i
   ·exact e
   ·exact absurd ((List.mem_erase_of_ne e).2 w) (by rw [h.1]; simp)
  subst g
  rcases J with ⟨hw,F⟩ | ⟨hw,rfl⟩
  ·exact ⟨oi,hi,hd,.inr ⟨hw,.inl ((F R H (aK.refl _) G).mono λ nx R' H' ⟨e1,K,L⟩=>by subst K L; exact ⟨v,e1,aK.refl _,(λ _ _ h=>h),h⟩)⟩⟩
  ·exact ⟨oi,hi,hd,.inl ⟨hw,h⟩⟩
 | succ n aw =>
  intro rem t R H m V G M J h
  have ar:=m
  unfold hY at m
  simp only [cO,List.contains_iff_mem,Bool.not_eq_true',List.all_eq_true] at m
  obtain ⟨⟨⟨⟨A,ay⟩,ax⟩,O⟩,E⟩:=m
  rw [hi] at E
  simp only [cO,List.all_eq_true] at E
  obtain ⟨am,E⟩:=E
  refine .inr ⟨(λ e=>by rw [e] at A; cases A),λ au j w z=>?_⟩
  by_cases g:j=i
  ·subst g
   rcases J with ⟨hw,F⟩ | ⟨hw,rfl⟩
   ·exact ⟨oi,hi,hd,.inr ⟨hw,.inl ((F R H (aK.refl _) G).mono λ nx R' H' ⟨e1,K,L⟩=>by subst K L; exact ⟨v,e1,aK.refl _,(λ _ _ h=>h),h⟩)⟩⟩
   ·exact ⟨oi,hi,hd,.inl ⟨hw,h⟩⟩
  ·
   have y:j ∉ D:=λ y=>by
    obtain ⟨_,f⟩:=O j y
    unfold gx at z
    cases ho:ops[j]? with
    | none=>simp [ho] at f
    | some o =>
     simp only [ho,Array.all_eq_true_iff_forall_mem] at z f
     rw [Array.any_eq_true'] at f
     obtain ⟨e,he,f⟩:=f
     have an:=z e he
     rw [cO] at f
     have ag:e.on∈rem:=by
      rcases Bool.or_eq_true_iff.1 f.2 with x | x
      ·have:e.on=i:=by simpa using x
       rw [this]; exact A
      ·have av:e.on∈D:=by simpa using x
       exact (O _ av).1
     simp [f.1,ag] at an
   have I:=E j w
   have ak:∃ s,ops[j]? = some s∧noSelect s=true∧rh ops oi s=true:=by
    cases ho:ops[j]? with
    | none=>simp [g,y,ho] at I
    | some s=>simp [g,y,ho] at I; exact ⟨s,rfl,I.1,I.2⟩
   obtain ⟨s,W,ao,U⟩:=ak
   rcases h with ⟨he,_⟩ | ⟨_,aq⟩
   ·exact absurd ((List.mem_erase_of_ne g).2 w) (by rw [he]; simp)
   have ah:gx ops (rem.erase i) j=true:=by
    unfold gx at z ⊢
    simp only [W,Array.all_eq_true_iff_forall_mem] at z ⊢
    intro e he
    have:=z e he
    rcases Bool.or_eq_true_iff.1 this with x | x
    ·simp [x]
    ·have al:e.on ∉ rem:=by simpa using x
     have:e.on ∉ rem.erase i:=λ hm=>al (List.mem_of_mem_erase hm)
     simp [this]
   have ap:=aq au j ((List.mem_erase_of_ne g).2 w) ah
   obtain ⟨af,T⟩:=AL U
   refine n2.dG (oi:=oi) (v:=v) W ao U G (M j w g y) ap λ u R' H' Z ac Y=>?_
   refine aw (rem.erase j) (dG s.dst u t) R' H' (S8 ar g y) (V.erase _) ac (λ x f=>M x (List.mem_of_mem_erase f)) ?_ ?_
   ·rw [GD (λ d hd=>T d hd)]
    refine J.imp (λ ⟨hw,F⟩=>⟨hw,λ cc cR ab ad=>?_⟩) id
    rw [CV (ops:=ops) am (λ d hd=>T d hd)]
    exact F cc cR (Z.trans ab) ad
   ·rw [List.erase_comm,Rl (a:=oi.dst) (b:=s.dst) (λ d hd=>(af d hd).2)]
    exact Y
variable {c:Ctx} {S:Nat→ai} {ops:Array Oper} {k:List Item} {R:aA} {H:ai} {st st':St} {rem:List Nat} {n:Nat}
def Any(ae:Jd P B main)(c:Ctx)(S:Nat→ai)(ops:Array Oper)(k:List Item)(n:Nat)(rem:List Nat)(R:aA)(H:ai)(st:St):Prop :=
 rem.Nodup∧∀ tmps,cf c.n st tmps→pD ae c S ops (λ t R H=>ae.J R H (aS (aR c t k) c.cs)) n rem tmps R H
theorem U.draw{id:Nat}{is:List Nat}{n:Nat}(S:Nat→ai)(hm:P.follows .mixedOrders=true)(f:(c.kind == CallKind.early)=false)(hb:backward ops=true)(g:ops.size=n)(d:List.range n=is)(h:Any ae c S ops k n is R H st):U ae c R H st (.code (.region id ops true)::k):=by
 intro tmps m
 subst g; subst d
 refine ae.step rfl λ w hw=>?_
 have b:q0 ops (Array.replicate ops.size false) (List.range ops.size):=⟨by simp,List.nodup_range,λ i=>by
  simp only [List.mem_range,Array.getD_eq_getD_getElem?]
  constructor
  ·intro hi; exact ⟨hi,by simp [hi]⟩
  ·exact λ x=>x.1⟩
 have key:=λ t=>Aw (ae:=ae) (k:=k) f hb (λ _ _ _ j=>j) ops.size t _ [] _ tmps R H b (by simp) (h.2 tmps m)
 obtain ⟨is,h1,h2⟩:=key (if (Question.order c.fn id).forced then 0 else (Question.order c.fn id).cut (w.tape w.drawn (.order c.fn id)))
 refine ⟨aS (aR c tmps (.inRegion ops is::k)) c.cs,{ w with drawn:=w.drawn+1 },#[],R,H,?_,by simp,⟨⟨hw.r,hw.h,hw.nd,hw.dj,hw.os,hw.tape,hw.out⟩,λ _ _ x=>x,cq _,λ _ _ _=>rfl,λ _ _ x=>.inl x,λ _ o x=>.inl ⟨o,x⟩⟩,h2⟩
 simp only [Question.forced,fc,if_false,List.reverse_nil,List.nil_append] at h1
 simp [stepG,stepG.exec,aS,aR,choose,Sem.run,Question.forced,Region.schedule,hm,Region.linearise,h1]
theorem U.Iu{id:Nat}{is:List Nat}{n:Nat}(hm:P.follows .mixedOrders=true)(d:(c.kind == CallKind.early)=false)(hb:backward ops=true)(f:ops.size=n)(b:List.range n=is)(h:Any ae c (λ _=>H) ops k n is R H st):U ae c R H st (.code (.region id ops true)::k):=U.draw (λ _=>H) hm d hb f b h
theorem hK.qO{o:Oper}{i:Nat}{tmps:aU}(h:hK ae c o R H st λ R' H' st'=>aK R R'∧(∀ p∈S i,p∈H→p∈H')∧Any ae c S ops k n rem R' H' st')(ho:ops[i]? = some o)(hw:Region.wanted o (yielded ops tmps)=true)(b:cf c.n st tmps) :
  n2 ae c (S i) ops i tmps R H λ t' R' H'=>pD ae c S ops (λ t R H=>ae.J R H (aS (aR c t k) c.cs)) n rem t' R' H':=by
 obtain ⟨hd,s,h | ⟨f,args,h1,h2⟩⟩:=h
 ·exact ⟨o,ho,hd,.inr ⟨hw,.inl ((h _ (b.knows c [])).mono λ nx R' H' ⟨v,w,st',m,g,j,d⟩=>⟨v,w,g,j,d.2 _ ((b.put v s).sub m)⟩)⟩⟩
 ·exact ⟨o,ho,hd,.inr ⟨hw,.inr ⟨f,args,h1 _ (b.knows c []),h2.mono λ v R' H' ⟨st',m,g,j,d⟩=>⟨g,j,d.2 _ ((b.put v s).sub m)⟩⟩⟩⟩
theorem Any.done(h:U ae c R H st k):Any ae c S ops k n [] R H st:=⟨List.nodup_nil,λ tmps b=>by
 cases n with
 | zero=>exact ⟨rfl,h tmps b⟩
 | succ n=>exact .inl ⟨rfl,h tmps b⟩⟩
theorem Any.take{i:Nat}{o:Oper}{v:Value}{N:ai}(D:List Nat)(ho:ops[i]? = some o)(A:hY ops rem i D=true)(hd:gH o.op=false)(s:bO o.dst c.n)(hw:ca ops st o=some true)(m:∀ j∈rem,j≠i→j ∉ D→∀ p∈N,p∈S j)(g:∀ p∈N,p∈H)(w:∀ f,Knows st f→Av P B N R f o v)(z:aB (bT o.dst v st) st')(d:rem.Nodup)
  {hV:List Nat} (y:rem.erase i=hV) (h:Any ae c S ops k n hV R H st'):Any ae c S ops k (n+1) rem R H st:=by
 subst y
 exact ⟨d,λ tmps b=>AK ho hd n rem tmps R H A d g m (.inl ⟨fF b hw,w _ (b.knows c [])⟩) (h.2 _ ((b.put v s).sub z))⟩
theorem Any.ps{i d:Nat}{o:Oper}{v:Value}{N:ai}(D:List Nat)(ho:ops[i]? = some o)(g:o.dst=some d)(hw:ca ops st o=some true)(K:hY ops rem i D=true)(F:∀ j∈rem,j≠i→j ∉ D→∀ p∈N,p∈S j)(f:∀ p∈N,p∈H)
  (m:∀ R' H',aK R R'→(∀ p∈N,p∈H')→aQ P B c o R' H' st λ R1 H1 w=>R1=R'∧H1=H'∧w=[(d,v)]) (J:aB ((d,v)::st) st') (G:rem.Nodup)
  {hV:List Nat} (I:rem.erase i=hV) (h:Any ae c S ops k n hV R H st'):Any ae c S ops k (n+1) rem R H st:=by
 have b:=m R H (aK.refl _) f
 refine Any.take (v:=v) D ho K b.1 b.2.1 hw F f (λ O M R' H' A E=>?_) (by rw [g]; exact J) G I h
 refine ((m R' H' A E).2.2 O M).mono λ nx cc cR ⟨u,hu,w,s,e1,y,z⟩=>?_
 subst z
 rw [g] at s
 have L:u=v:=by
  have:=s d v (by simp)
  simp only [bT,List.lookup_cons,beq_self_eq_true] at this
  exact eI this
 subst L
 exact ⟨hu,e1,y⟩
theorem Any.S7{i:Nat}{o:Oper}(D:List Nat)(ho:ops[i]? = some o)(m:hY ops rem i D=true)(hd:gH o.op=false)(f:bO o.dst c.n)(hw:ca ops st o=some false)(j:aB (bT o.dst undef st) st')(b:rem.Nodup)
  {hV:List Nat} (g:rem.erase i=hV) (h:Any ae c S ops k n hV R H st'):Any ae c S ops k (n+1) rem R H st:=by
 subst g
 exact ⟨b,λ tmps d=>AK (v:=undef) (N:=[]) ho hd n rem tmps R H m b (by simp) (by simp) (.inr ⟨fF d hw,rfl⟩) (h.2 _ ((d.put undef f).sub j))⟩
theorem Any.one{i:Nat}{o:Oper}(ho:ops[i]? = some o)(b:rem.filter (gx ops rem)=[i])(hw:ca ops st o=some true)(m:rem.Nodup){hV:List Nat}(s:rem.erase i=hV)
  (h:hK ae c o R H st λ R' H' st'=>aK R R'∧(∀ p∈S i,p∈H→p∈H')∧Any ae c S ops k n hV R' H' st'):Any ae c S ops k (n+1) rem R H st:=by
 subst s
 refine ⟨m,λ tmps d=>.inr ⟨(λ e=>by rw [e] at b; cases b),λ _ j f g=>?_⟩⟩
 have:j∈rem.filter (gx ops rem):=List.mem_filter.2 ⟨f,g⟩
 rw [b] at this
 obtain rfl:j=i:=by simpa using this
 exact h.qO ho (fF d hw) d
theorem Mv{H H':ai}(h:∀ p∈H,p∈H'){X:ai}:∀ p∈H,p∈X→p∈H':=λ p b _=>h p b
end
section
variable {P:Program} {B:Base} {main:Bool} {ae:Jd P B main} {c:Ctx} {R:aA} {H H':ai} {st st':St} {k:List Item}
theorem wF{w:World}(d:List.Sublist H' H)(hw:Fits B R H w):dN B R H w R H' w :=
 ⟨⟨hw.r,λ b o h=>hw.h b o (d.subset h),(d.map _).nodup hw.nd,λ b o h=>hw.dj b o (d.subset h),hw.os,hw.tape,hw.out⟩,λ _ _ x=>x,cq _,λ _ _ _=>rfl,λ _ _ x=>.inl x,λ _ o x=>.inl ⟨o,d.subset x⟩⟩
theorem U.bq{todo:List Item}(b:List.Sublist H' H)(h:U ae c R H' st todo):U ae c R H st todo:=U.ghost (λ _ hw=>wF b hw) h
theorem J.drop{g:Goroutine}(b:List.Sublist H' H)(h:ae.J R H' g):ae.J R H g:=ae.ghost (λ _ hw=>wF b hw) h
theorem Ad{w:World}(d:List.Perm H' H)(hw:Fits B R H w):dN B R H w R H' w :=
 ⟨⟨hw.r,λ b o h=>hw.h b o (d.subset h),(d.map _).nodup_iff.2 hw.nd,λ b o h=>hw.dj b o (d.subset h),hw.os,hw.tape,hw.out⟩,λ _ _ x=>x,cq _,λ _ _ _=>rfl,λ _ _ x=>.inl x,λ _ o x=>.inl ⟨o,d.subset x⟩⟩
theorem U.perm{todo:List Item}(b:List.Perm H' H)(h:U ae c R H' st todo):U ae c R H st todo:=U.ghost (λ _ hw=>Ad b hw) h
theorem J.perm{g:Goroutine}(b:List.Perm H' H)(h:ae.J R H' g):ae.J R H g:=ae.ghost (λ _ hw=>Ad b hw) h
def aA.ins(R:aA)(b:Nat)(o:Obj):aA:=λ x=>if x=b then some o else R x
theorem aA.Mm(R:aA)(b:Nat)(o:Obj):R.ins b o b=some o:=by simp [aA.ins]
theorem aA.Dj{R:aA}{b:Nat}{o:Obj}(h:R b=none):aK R (R.ins b o):=λ x u d=>by
 unfold aA.ins
 split
 ·subst_vars; rw [h] at d; cases d
 ·exact d
theorem Tk{w:World}{b:Nat}{o:Obj}(hw:Fits B R ((b,o)::H) w):dN B R ((b,o)::H) w (R.ins b o) H w:=by
 have hb:R b=none:=hw.dj b o (by simp)
 have f:=hw.nd
 rw [List.map_cons,List.nodup_cons] at f
 refine ⟨⟨λ x u d=>?_,λ x u d=>hw.h x u (by simp [d]),f.2,λ x u d=>?_,hw.os,hw.tape,hw.out⟩,aA.Dj hb,cq _,λ _ _ _=>rfl,λ x u d=>?_,λ x u d=>.inl ⟨u,by simp [d]⟩⟩
 ·unfold aA.ins at d
  split at d
  ·subst_vars; cases d; exact hw.h _ _ (by simp)
  ·exact hw.r x u d
 ·have g:x≠b:=λ e=>f.1 (List.mem_map.2 ⟨(x,u),d,e⟩)
  unfold aA.ins
  rw [if_neg g]
  exact hw.dj x u (by simp [d])
 ·unfold aA.ins at d
  split at d
  ·subst_vars; exact .inr (.inl ⟨o,by simp⟩)
  ·exact .inl d
theorem J.freeze{g:Goroutine}{b:Nat}{o:Obj}(h:∀ R',aK R R'→R' b=some o→ae.J R' H g)(hb:R b=none):ae.J R ((b,o)::H) g :=
 ae.ghost (λ _ hw=>Tk hw) (h _ (aA.Dj hb) (aA.Mm R b o))
theorem J.LY{fr:Frame}{cs:List Frame}{b:Nat}{o:Obj}(h:∀ R',aK R R'→R' b=some o→ae.J R' H (aS fr cs)):ae.J R ((b,o)::H) (aS fr cs):=by
 cases hb:R b with
 | none=>exact J.freeze h hb
 | some x =>
  refine ae.step rfl λ w hw=>?_
  have:=hw.dj b o (by simp)
  rw [hb] at this
  cases this
theorem U.freeze{todo:List Item}{b:Nat}{o:Obj}(h:∀ R',aK R R'→R' b=some o→U ae c R' H st todo):U ae c R ((b,o)::H) st todo :=
 λ tmps d=>J.LY λ R' h1 h2=>h R' h1 h2 tmps d
theorem cf.FW{n t:Nat}{x:Value}{tmps:aU}(b:st.lookup t=some x)(h:cf n st tmps):cf n ((t,x)::st) tmps:=by
 refine ⟨h.1,λ u v hu=>?_⟩
 rw [List.lookup_cons] at hu
 split at hu
 ·rename_i heq
  have:u=t:=by simpa using heq
  subst this
  cases hu
  exact h.2 _ _ b
 ·exact h.2 u v hu
theorem U.loop{body:Code}(I:Nat→aA→ai→St→Prop)
  (g:∀ n R H st,I n R H st→(∀ m R' H' st',m < n→I m R' H' st'→U ae c R' H' st' (.inLoop body::k))→U ae c R H st (.code body :: .inLoop body::k))
  {n:Nat} (b:I n R H st):U ae c R H st (.code (.loop body)::k):=by
 have key:∀ n R H st,I n R H st→U ae c R H st (.code body :: .inLoop body::k):=by
  intro n
  induction n using Nat.strongRecOn with
  | ind n i=>exact λ R H st d=>g n R H st d λ m R' H' st' hm f=>U.inLoop (i m hm R' H' st' f)
 exact U.enterLoop (key n R H st b)
end
theorem Cell.mono{R R':aA}{H:ai}{a:Addr}{v:Value}(h:Cell R [] a v)(d:aK R R'):Cell R' H a v:=by
 obtain ⟨h1,cs,e,b,h2,h3⟩:=h
 exact ⟨h1,cs,e,b,.inl (h2.elim (d _ _) (λ x=>by cases x)),h3⟩
theorem aI.up{R R':aA}{H:ai}{b o:Nat}{vs:bn}(h:aI R [] b o vs)(d:aK R R'):aI R' H b o vs:=λ j v f=>(h j v f).mono d
theorem aI.any{R:aA}{H:ai}{b o:Nat}{vs:bn}(h:aI R [] b o vs):aI R H b o vs:=h.up (aK.refl R)
theorem aI.one{R:aA}{H:ai}{b o j:Nat}{v:Value}{vs:bn}(h:aI R H b o vs)(d:vs[j]? = some v):Cell R H ⟨b,o+j,none⟩ v:=h j v d
end Go.Lg
