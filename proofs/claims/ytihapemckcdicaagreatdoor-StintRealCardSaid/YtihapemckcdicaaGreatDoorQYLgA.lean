/- The base of a logic of goroutines in company. Conditions: none. -/
import Derived.Conc.Beside
import Derived.Conc.Events
import Derived.Conc.Listed
import Derived.Orders
namespace Go.Lg
theorem aG{α β:Type}(a:α)(f:α→Option β):(some a).bind f=f a:=rfl
theorem cp(n:Nat):((n:Int)).toNat=n:=rfl
theorem b5{α:Type}{a:α}{as:List α}(bs:List α)(h:a∈as):a∈as++bs:=List.mem_append_left bs h
theorem e3{α:Type}{b:α}(as:List α){bs:List α}(h:b∈bs):b∈as++bs:=List.mem_append_right as h
theorem dU{α:Type}{i:Nat}{a:α}{l:List α}:l[i]? = some a↔∃ h:i < l.length,l[i]=a:=List.getElem?_eq_some_iff
theorem fN{α:Type}{xs:Array α}{i j:Nat}(h:i≠j){a:α}:(xs.setIfInBounds i a)[j]? = xs[j]? := Array.getElem?_setIfInBounds_ne h
theorem ez{α:Type}{l:List α}{i:Nat}(h:i < l.length):l[i]? = some l[i]:=List.getElem?_eq_getElem h
theorem de{p:Prop}[Decidable p](h:p):decide p=true:=decide_eq_true h
theorem dV{p:Prop}[Decidable p](h:¬p):decide p=false:=decide_eq_false h
theorem iZ{α:Type}{xs:Array α}{i:Nat}{a:α}(h:i < xs.size):(xs.setIfInBounds i a)[i]? = some a:=Array.getElem?_setIfInBounds_self_of_lt h
theorem ff{α:Type}{l₁ jr:List α}{i:Nat}(h:l₁.length≤i):(l₁++jr)[i]? = jr[i - l₁.length]? := List.getElem?_append_right h
theorem eh{α:Type}(a b:α):(some a=some b)=(a=b):=Option.some.injEq a b
theorem fg{α:Type}{as bs:List α}:(as++bs).length=as.length+bs.length:=List.length_append
theorem cM(a b:Bool):((a && b)=true)=(a=true∧b=true):=Bool.and_eq_true a b
theorem fh{α:Type}{i:Nat}{l:List α}:(List.take i l).length=min i l.length:=List.length_take
theorem b6(n:Nat):n≤n:=Nat.le_refl n
theorem eK:(¬True)=False:=not_true_eq_false
theorem ed{α:Type}{a b:α}(h:some a=some b):a=b:=Option.some.inj h
theorem gg{α:Type}{l₁ jr:List α}{i:Nat}(h:i < l₁.length):(l₁++jr)[i]? = l₁[i]? := List.getElem?_append_left h
theorem ha{α:Type}{i:Nat}{l:List α}{a:α}:l.getD i a=(l[i]?).getD a:=List.getD_eq_getElem?_getD
theorem hc{α:Type}{xs:Array α}{i:Nat}(h:i < xs.size):xs[i]? = some xs[i]:=Array.getElem?_eq_getElem h
theorem cJ{α:Type}{a b:α}{l:List α}:a∈b::l↔a=b∨a∈l:=List.mem_cons
theorem gQ:(true=false)=False:=Bool.true_eq_false
theorem fi:(false=true)=False:=Bool.false_eq_true
theorem gh{α:Type}{a b:α}:(some a).getD b=a:=rfl
open Go.Conc
abbrev ax:=Nat→Option Obj
abbrev ai:=List (Nat × Obj)
structure Base where
 os:Os→Prop
 tape:Nat→Question→Nat
 out:Array (Nat × ByteArray)
structure Fits (B:Base) (R:ax) (H:ai) (w:World):Prop where
 r:∀ b o,R b=some o→w.heap[b]? = some o
 h:∀ b o,(b,o)∈H→w.heap[b]? = some o
 nd:(H.map (·.1)).Nodup
 dj:∀ b o,(b,o)∈H→R b=none
 os:B.os w.os
 tape:w.tape=B.tape
 out:w.output=B.out
theorem ft{w:World}{b:Nat}{o:Obj}(h:w.heap[b]? = some o):b < w.heap.size:=(Array.getElem?_eq_some_iff.1 h).1
structure dg (B:Base) (R:ax) (H:ai) (w:World) (R':ax) (H':ai) (w':World):Prop where
 fits:Fits B R' H' w'
 CG:∀ b o,R b=some o→R' b=some o
 size:w.heap.size≤w'.heap.size
 same:∀ b,b < w.heap.size→(∀ o,(b,o) ∉ H)→w'.heap[b]? = w.heap[b]?
 pj:∀ b o,R' b=some o→R b=some o∨(∃ o',(b,o')∈H)∨w.heap.size≤b
 lh:∀ b o,(b,o)∈H'→(∃ o',(b,o')∈H)∨w.heap.size≤b
theorem dg.refl{B:Base}{R:ax}{H:ai}{w:World}(h:Fits B R H w):dg B R H w R H w :=
 ⟨h,λ _ _ x=>x,b6 _,λ _ _ _=>rfl,λ _ _ x=>.inl x,λ _ o x=>.inl ⟨o,x⟩⟩
theorem dg.trans{B:Base}{R R' bR:ax}{H H' cq:ai}{w w' d:World}(h:dg B R H w R' H' w')(k:dg B R' H' w' bR cq d):dg B R H w bR cq d:=by
 refine ⟨k.fits,λ b o x=>k.CG b o (h.CG b o x),Nat.le_trans h.size k.size,λ b hb a=>?_,λ b o x=>?_,λ b o x=>?_⟩
 ·rw [k.same b (Nat.lt_of_lt_of_le hb h.size) (λ o ho=>?_),h.same b hb a]
  rcases h.lh b o ho with ⟨o',e⟩ | f
  ·exact a o' e
  ·omega
 ·rcases k.pj b o x with x | ⟨o',x⟩ | x
  ·exact h.pj b o x
  ·exact .inr (h.lh b o' x)
  ·exact .inr (.inr (Nat.le_trans h.size x))
 ·rcases k.lh b o x with ⟨o',x⟩ | x
  ·exact h.lh b o' x
  ·exact .inr (Nat.le_trans h.size x)
def mZ(R:ax)(H:ai)(n:Nat)(write:Bool)(b:Nat):Prop:=(write=false∧(R b).isSome=true)∨(∃ o,(b,o)∈H)∨n≤b
def dW(R:ax)(H:ai)(n m:Nat)(e:Event):Prop :=
 match e.loc with
 | .cell a=>e.sync=false∧a.block < m∧mZ R H n e.write a.block
 | .obj b=>e.sync=false∧b < m∧mZ R H n e.write b
 | .mark .noRoom=>True
 | _=>False
theorem mZ.up{B:Base}{R R':ax}{H H':ai}{w w':World}(h:dg B R H w R' H' w'){wr:Bool}{b:Nat}(k:mZ R' H' w'.heap.size wr b):mZ R H w.heap.size wr b:=by
 rcases k with ⟨k1,k2⟩ | ⟨o,k⟩ | k
 ·obtain ⟨o,ho⟩:=Option.isSome_iff_exists.1 k2
  rcases h.pj b o ho with x | x | x
  ·exact .inl ⟨k1,by simp [x]⟩
  ·exact .inr (.inl x)
  ·exact .inr (.inr x)
 ·exact .inr (h.lh b o k)
 ·exact .inr (.inr (Nat.le_trans h.size k))
theorem dW.up{B:Base}{R R':ax}{H H':ai}{w w':World}(h:dg B R H w R' H' w'){m:Nat}{e:Event}(k:dW R' H' w'.heap.size m e):dW R H w.heap.size m e:=by
 unfold dW at k ⊢
 split at k
 ·exact ⟨k.1,k.2.1,k.2.2.up h⟩
 ·exact ⟨k.1,k.2.1,k.2.2.up h⟩
 ·trivial
 ·exact k.elim
theorem dW.more{R:ax}{H:ai}{n m m':Nat}{e:Event}(hm:m≤m')(k:dW R H n m e):dW R H n m' e:=by
 unfold dW at k ⊢
 split at k
 ·exact ⟨k.1,by omega,k.2.2⟩
 ·exact ⟨k.1,by omega,k.2.2⟩
 ·trivial
 ·exact k.elim
def aF{α:Type}(P:Program)(B:Base)(R:ax)(H:ai)(s:Sem α)(K:α→ax→ai→Prop):Prop :=
 ∀ w,Fits B R H w→∃ a w' R' H',s.run P w = .ok a w'∧(∀ e∈s.events P w #[],dW R H w.heap.size w'.heap.size e)∧dg B R H w R' H' w'∧K a R' H'
section
variable {P:Program} {B:Base} {R:ax} {H:ai}
theorem aF.mono{α:Type}{s:Sem α}{K b:α→ax→ai→Prop}(h:aF P B R H s K)(d:∀ a R' H',K a R' H'→b a R' H'):aF P B R H s b:=by
 intro w hw
 obtain ⟨a,w',R',H',h1,h2,h3,h4⟩:=h w hw
 exact ⟨a,w',R',H',h1,h2,h3,d _ _ _ h4⟩
theorem aF.cf{α:Type}{a:α}{K:α→ax→ai→Prop}(h:K a R H):aF P B R H (Pure.pure a:Sem α) K :=
 λ w hw=>⟨a,w,R,H,rfl,by simp,dg.refl hw,h⟩
theorem aF.b9{α β:Type}{s:Sem α}{f:α→Sem β}{K:β→ax→ai→Prop}(h:aF P B R H s λ a R' H'=>aF P B R' H' (f a) K):aF P B R H (s >>= f) K:=by
 intro w hw
 obtain ⟨a,w',R',H',h1,h2,h3,h4⟩:=h w hw
 obtain ⟨b,d,bR,cq,k1,k2,k3,k4⟩:=h4 w' h3.fits
 refine ⟨b,d,bR,cq,by simp [h1,k1],λ e he=>?_,h3.trans k3,k4⟩
 rw [Sem.events_bind,h1,Result.evThen_ok,Sem.events_acc] at he
 rcases Array.mem_append.1 he with he | he
 ·exact (h2 e he).more k3.size
 ·exact (k2 e he).up h3
theorem aF.map{α β:Type}{s:Sem α}{f:α→β}{K:β→ax→ai→Prop}(h:aF P B R H s λ a R' H'=>K (f a) R' H'):aF P B R H (f <$> s) K:=by
 intro w hw
 obtain ⟨a,w',R',H',h1,h2,h3,h4⟩:=h w hw
 exact ⟨f a,w',R',H',by simp [h1],by simpa using h2,h3,h4⟩
def ah{α:Type}(P:Program)(s:Sem α)(a:α):Prop:=∀ w,s.run P w = .ok a w∧s.events P w #[]=#[]
theorem ah.ok{α:Type}{s:Sem α}{a:α}{K:α→ax→ai→Prop}(h:ah P s a)(b:K a R H):aF P B R H s K :=
 λ w hw=>⟨a,w,R,H,(h w).1,by rw [(h w).2]; simp,dg.refl hw,b⟩
theorem ah.a0{α:Type}(a:α):ah P (Pure.pure a:Sem α) a:=λ _=>⟨rfl,rfl⟩
theorem ah.ba{α β:Type}{s:Sem α}{f:α→Sem β}{a:α}{b:β}(h:ah P s a)(k:ah P (f a) b):ah P (s >>= f) b :=
 λ w=>⟨by simp [(h w).1,(k w).1],by rw [Sem.events_bind,(h w).1,(h w).2]; exact (k w).2⟩
theorem ah.map{α β:Type}{s:Sem α}{f:α→β}{a:α}(h:ah P s a):ah P (f <$> s) (f a) :=
 λ w=>⟨by simp [(h w).1],by simpa using (h w).2⟩
theorem ah.program:ah P program P:=λ _=>⟨rfl,rfl⟩
theorem ah.underlying{t:TypeId}{d:TypeDesc}(h:P.underlying t=some d):ah P (underlying t) d:=λ w=>⟨by simp [Go.underlying,h],by simp⟩
theorem ah.typeInfo{t:TypeId}{i:TypeInfo}(h:P.info? t=some i):ah P (typeInfo t) i:=λ w=>⟨by simp [Go.typeInfo,h],by simp⟩
theorem ah.cr{α β:Type}{s:Sem α}{f:α→Sem β}{a:α}{K:β→ax→ai→Prop}(h:ah P s a)(b:aF P B R H (f a) K):aF P B R H (s >>= f) K :=
 aF.b9 (h.ok b)
def Cell(R:ax)(H:ai)(a:Addr)(v:Value):Prop :=
 a.spot=none∧∃ cs e b,(R a.block=some (.cells cs e b)∨(a.block,Obj.cells cs e b)∈H)∧cs[a.off]? = some v
theorem Cell.at_{w:World}{a:Addr}{v:Value}(h:Cell R H a v)(hw:Fits B R H w):w.cell? a=some v:=by
 obtain ⟨f,cs,e,b,h1,h2⟩:=h
 have d:w.heap[a.block]? = some (.cells cs e b):=h1.elim (hw.r _ _) (hw.h _ _)
 simp [World.cell?,d,f,h2]
theorem Cell.touch{a:Addr}{v:Value}(h:Cell R H a v)(n:Nat):mZ R H n false a.block:=by
 obtain ⟨_,cs,e,b,h1,_⟩:=h
 rcases h1 with h1 | h1
 ·exact .inl ⟨rfl,by simp [h1]⟩
 ·exact .inr (.inl ⟨_,h1⟩)
theorem JX{w:World}{a:Addr}{v:Value}(h:w.cell? a=some v):a.block < w.heap.size:=by
 unfold World.cell? at h
 split at h
 ·exact ft ‹_›
 ·cases h
theorem aF.load{a:Addr}{v:Value}{K:Value→ax→ai→Prop}(h:Cell R H a v)(d:K v R H):aF P B R H (load a) K:=by
 intro w hw
 have b:=h.at_ hw
 refine ⟨v,w,R,H,by simp [b],?_,dg.refl hw,d⟩
 intro e he
 simp only [events_load,b] at he
 simp at he
 subst he
 exact ⟨rfl,JX b,h.touch _⟩
theorem aF.new{o:Obj}{K:Nat→ax→ai→Prop}(i:∀ r,R r=none→(∀ x,(r,x) ∉ H)→K r R ((r,o)::H)):aF P B R H (newObj o) K:=by
 intro w hw
 have e:R w.heap.size=none:=by
  cases h:R w.heap.size with
  | none=>rfl
  | some x=>exact absurd (ft (hw.r _ _ h)) (Nat.lt_irrefl _)
 have d:∀ x,(w.heap.size,x) ∉ H:=λ x a=>absurd (ft (hw.h _ _ a)) (Nat.lt_irrefl _)
 have f:∀ b (x:Obj),w.heap[b]? = some x→(w.heap.push o)[b]? = some x:=λ b x a=>by
  have:=ft a
  rw [Array.getElem?_push]
  rw [if_neg (by omega)]; exact a
 refine ⟨w.heap.size,{ w with heap:=w.heap.push o },R,(w.heap.size,o)::H,by simp,by simp,⟨⟨?_,?_,?_,?_,hw.os,hw.tape,hw.out⟩,λ _ _ x=>x,by simp,?_,λ _ _ x=>.inl x,?_⟩,i _ e d⟩
 ·exact λ b x a=>f b x (hw.r b x a)
 ·intro b x a
  rcases cJ.1 a with a | a
  ·cases a; simp
  ·exact f b x (hw.h b x a)
 ·rw [List.map_cons,List.nodup_cons]
  refine ⟨λ hm=>?_,hw.nd⟩
  obtain ⟨p,j,he⟩:=List.mem_map.1 hm
  have g:p.1=w.heap.size:=he
  exact d p.2 (by rw [← g]; exact j)
 ·intro b x a
  rcases cJ.1 a with a | a
  ·cases a; exact e
  ·exact hw.dj b x a
 ·intro b hb _
  show (w.heap.push o)[b]? = _
  rw [Array.getElem?_push,if_neg (by omega)]
 ·intro b x a
  rcases cJ.1 a with a | a
  ·cases a; exact .inr (b6 _)
  ·exact .inl ⟨x,a⟩
inductive cF:ai→Nat→Obj→Obj→ai→Prop
 | here {b:Nat} {o o':Obj} {H:ai}:cF ((b,o)::H) b o o' ((b,o')::H)
 | there {b:Nat} {o o':Obj} {p:Nat × Obj} {H H':ai}:cF H b o o' H'→cF (p::H) b o o' (p::H')
theorem cF.keys{H H':ai}{b:Nat}{o o':Obj}(h:cF H b o o' H'):H'.map (·.1)=H.map (·.1):=by
 induction h with
 | here=>rfl
 | there _ a=>simp [a]
theorem cF.mem{H H':ai}{b:Nat}{o o':Obj}(h:cF H b o o' H'):(b,o)∈H:=by
 induction h with
 | here=>simp
 | there _ a=>exact List.mem_cons_of_mem _ a
theorem cF.old{H H':ai}{b:Nat}{o o':Obj}(h:cF H b o o' H')(d:(H.map (·.1)).Nodup):∀ c x,(c,x)∈H'→(c=b∧x=o')∨(c≠b∧(c,x)∈H):=by
 induction h with
 | @here b o o' H =>
  intro c x a
  rw [List.map_cons,List.nodup_cons] at d
  rcases cJ.1 a with f | f
  ·cases f; exact .inl ⟨rfl,rfl⟩
  ·refine .inr ⟨λ e=>d.1 ?_,List.mem_cons_of_mem _ f⟩
   rw [← e]
   exact List.mem_map.2 ⟨(c,x),f,rfl⟩
 | @there b o o' p H H' g i =>
  intro c x a
  rw [List.map_cons,List.nodup_cons] at d
  rcases cJ.1 a with a | a
  ·subst a
   refine .inr ⟨λ e=>d.1 ?_,by simp⟩
   simp only at e ⊢
   subst e
   exact List.mem_map.2 ⟨_,g.mem,rfl⟩
  ·exact (i d.2 c x a).imp id λ y=>⟨y.1,List.mem_cons_of_mem _ y.2⟩
theorem Fits.sL{H':ai}{b:Nat}{o o':Obj}{w:World}(hw:Fits B R H w)(h:cF H b o o' H') :
  dg B R H w R H' { w with heap:=w.heap.setIfInBounds b o' }:=by
 have hb:w.heap[b]? = some o:=hw.h _ _ h.mem
 have g:=ft hb
 have d:∀ c,c≠b→(w.heap.setIfInBounds b o')[c]? = w.heap[c]? := λ c f=>fN (by omega)
 refine ⟨⟨?_,?_,by rw [h.keys]; exact hw.nd,?_,hw.os,hw.tape,hw.out⟩,λ _ _ x=>x,by simp,?_,λ _ _ x=>.inl x,?_⟩
 ·intro c x a
  show (w.heap.setIfInBounds b o')[c]? = _
  rw [d c (λ e=>by subst e; have:=hw.dj _ _ h.mem; rw [a] at this; cases this)]
  exact hw.r c x a
 ·intro c x a
  show (w.heap.setIfInBounds b o')[c]? = _
  rcases h.old hw.nd c x a with ⟨rfl,rfl⟩ | ⟨f,a⟩
  ·rw [iZ g]
  ·rw [d c f]; exact hw.h c x a
 ·intro c x a
  rcases h.old hw.nd c x a with ⟨rfl,_⟩ | ⟨_,a⟩
  ·exact hw.dj _ _ h.mem
  ·exact hw.dj c x a
 ·intro c _ i
  exact d c (λ e=>by subst e; exact i _ h.mem)
 ·intro c x a
  rcases h.old hw.nd c x a with ⟨rfl,_⟩ | ⟨_,a⟩
  ·exact .inl ⟨_,h.mem⟩
  ·exact .inl ⟨_,a⟩
theorem aF.store{a:Addr}{v:Value}{cs:Array Value}{e:TypeId}{H':ai}{K:Unit→ax→ai→Prop}(h1:v.oneCell'=true)(d:a.spot=none)(l:a.off < cs.size)
  (b:cF H a.block (.cells cs e (0,0)) (.cells (cs.setIfInBounds a.off v) e (0,0)) H') (j:K () R H'):aF P B R H (store a v) K:=by
 intro w hw
 have hb:w.heap[a.block]? = some (.cells cs e (0,0)):=hw.h _ _ b.mem
 have f:w.cell? a=some cs[a.off]:=by simp [World.cell?,hb,d,l]
 have g:w.frozen? a=false:=by simp [World.frozen?,hb]
 have sL:w.setCell a v={ w with heap:=w.heap.setIfInBounds a.block (.cells (cs.setIfInBounds a.off v) e (0,0)) }:=by
  simp only [World.setCell]
  congr 1
  apply Array.ext_getElem?
  intro i
  rw [Array.getElem?_modify]
  by_cases hi:a.block=i
  ·subst hi
   rw [iZ (ft hb),hb]
   simp [d]
  ·simp [hi,fN hi]
 refine ⟨(),w.setCell a v,R,H',by rw [run_store P w a v _ h1]; simp [f,g],?_,?_,j⟩
 ·intro e he
  rw [events_store P w #[] a v _ h1] at he
  simp [f,g] at he
  subst he
  refine ⟨rfl,?_,.inr (.inl ⟨_,b.mem⟩)⟩
  simpa [World.setCell] using ft hb
 ·rw [sL]; exact hw.sL b
def Obj.plain:Obj→Bool
 | .cells .. => false
 | .chan .. => false
 | _=>true
theorem aF.getObj{r:Nat}{o:Obj}{K:Obj→ax→ai→Prop}(ho:Obj.plain o=true)(h:R r=some o∨(r,o)∈H)(d:K o R H):aF P B R H (getObj r) K:=by
 intro w hw
 have b:w.heap[r]? = some o:=h.elim (hw.r _ _) (hw.h _ _)
 have f:(Go.getObj r).run P w = .ok o w:=by
  cases o <;> simp_all [Obj.plain,Go.getObj,Sem.run]
 have a:(Go.getObj r).events P w #[]=#[⟨.obj r,false,false⟩]:=by
  cases o <;> simp_all [Obj.plain,Go.getObj,Sem.events,Sem.runT,Obj.isChan,-Sem.runT_eq]
 refine ⟨o,w,R,H,f,?_,dg.refl hw,d⟩
 intro e he
 rw [a] at he
 simp at he
 subst he
 exact ⟨rfl,ft b,h.elim (λ x=>.inl ⟨rfl,by simp [x]⟩) (λ x=>.inr (.inl ⟨_,x⟩))⟩
theorem aF.setObj{r:Nat}{o o':Obj}{H':ai}{K:Unit→ax→ai→Prop}(ho:Obj.plain o=true)(i:Obj.plain o'=true)(a:cF H r o o' H')(f:K () R H'):aF P B R H (setObj r o') K:=by
 intro w hw
 have d:w.heap[r]? = some o:=hw.h _ _ a.mem
 have g:(Go.setObj r o').run P w = .ok () { w with heap:=w.heap.setIfInBounds r o' }:=by
  cases o <;> simp_all [Obj.plain,Go.setObj,Sem.run]
 have b:(Go.setObj r o').events P w #[]=#[⟨.obj r,true,false⟩]:=by
  cases o <;> simp_all [Obj.plain,Go.setObj,Sem.events,Sem.runT,-Sem.runT_eq] <;> (cases o' <;> simp_all [Obj.isChan])
 refine ⟨(),_,R,H',g,?_,hw.sL a,f⟩
 intro e he
 rw [b] at he
 simp at he
 subst he
 exact ⟨rfl,by simpa using ft d,.inr (.inl ⟨_,a.mem⟩)⟩
theorem aF.choose{q:Question}{K:Nat→ax→ai→Prop}(b:∀ t,K (if q.forced then 0 else q.cut t) R H):aF P B R H (choose q) K:=by
 intro w hw
 cases a:q.forced with
 | true =>
  have:=b 0
  rw [a] at this
  exact ⟨0,w,R,H,by simp [Go.choose,Sem.run,a],by simp,dg.refl hw,by simpa using this⟩
 | false =>
  have:=b (w.tape w.drawn q)
  rw [a] at this
  exact ⟨q.cut (w.tape w.drawn q),{ w with drawn:=w.drawn+1 },R,H,by simp [Go.choose,Sem.run,a],by simp,⟨⟨hw.r,hw.h,hw.nd,hw.dj,hw.os,hw.tape,hw.out⟩,λ _ _ x=>x,b6 _,λ _ _ _=>rfl,λ _ _ x=>.inl x,λ _ o x=>.inl ⟨o,x⟩⟩,by simpa using this⟩
theorem aF.MR{K:Unit→ax→ai→Prop}(a:K () R H):aF P B R H (mark .noRoom) K :=
 λ w hw=>⟨(),w,R,H,rfl,by simp [dW],dg.refl hw,a⟩
end
structure Jd (P:Program) (B:Base) (main:Bool) where
 J:ax→ai→Goroutine→Prop
 step:∀ {R H g},g.status = .running→(∀ w,Fits B R H w→∃ g' w' es R' H',stepG P main g w = .go g' w' es∧(∀ e∈es,dW R H w.heap.size w'.heap.size e)∧dg B R H w R' H' w'∧J R' H' g')→J R H g
 ghost:∀ {R H R' H' g},(∀ w,Fits B R H w→dg B R H w R' H' w)→J R' H' g→J R H g
abbrev St:=List (Nat × Value)
structure Ctx where
 fn:FuncId
 kind:CallKind
 ro:Option Nat
 n:Nat
 defers:List Deferred
 cs:List Frame
def aO(fr:Frame)(cs:List Frame):Goroutine:={ frame:=fr,callers:=cs,status:=.running,dying:=none }
def aN(c:Ctx)(tmps:Array Value)(todo:List Item):Frame:={ fn:=c.fn,tmps,todo,defers:=c.defers,mode:=.run,kind:=c.kind,roundOf:=c.ro }
def bV(n:Nat)(st:St)(tmps:Array Value):Prop:=tmps.size=n∧∀ t v,st.lookup t=some v→tmps[t]? = some v
def bz(st:St):St→Prop
 | []=>True
 | p::r=>st.lookup p.1=some p.2∧bz st r
def aA(st st':St):Prop:=∀ t v,st'.lookup t=some v→st.lookup t=some v
theorem bz.sub{st:St}:∀ {st':St},bz st st'→aA st st'
 | [],_,_,_,h=>by cases h
 | p::r,a,t,v,h=>by
  rw [List.lookup_cons] at h
  split at h
  ·rename_i heq
   cases h
   have:t=p.1:=by simpa using heq
   subst this
   exact a.1
  ·exact bz.sub a.2 t v h
theorem aA.refl(st:St):aA st st:=λ _ _ h=>h
theorem bV.sub{n:Nat}{st st':St}{tmps:Array Value}(h:bV n st tmps)(a:aA st st'):bV n st' tmps:=⟨h.1,λ t v x=>h.2 t v (a t v x)⟩
def bC(dst:Option Tmp)(v:Value)(st:St):St:=match dst with | some d=>(d,v)::st | none=>st
theorem aA.put{dst:Option Tmp}{d:Tmp}{v:Value}{st:St}(h:dst=some d):aA (bC dst v st) ((d,v)::st):=by subst h; exact aA.refl _
theorem aA.tH{dst:Option Tmp}{v:Value}{st:St}(h:dst=none):aA (bC dst v st) st:=by subst h; exact aA.refl _
def c7(dst:Option Tmp)(v:Value)(tmps:Array Value):Array Value:=match dst with | some d=>tmps.setIfInBounds d v | none=>tmps
def Fh(dst:Option Tmp)(n:Nat):Bool:=match dst with | some d=>Nat.blt d n | none=>true
def bA(dst:Option Tmp)(n:Nat):Prop:=Fh dst n=true
theorem bA.lt{d n:Nat}(h:bA (some d) n):d < n:=by
 have:Nat.blt d n=true:=h
 simpa [Nat.blt_eq] using this
theorem bV.put{n:Nat}{st:St}{tmps:Array Value}(h:bV n st tmps){dst:Option Tmp}(v:Value)(hd:bA dst n):bV n (bC dst v st) (c7 dst v tmps):=by
 cases dst with
 | none=>exact h
 | some d =>
  refine ⟨by simp [c7,h.1],λ t u hu=>?_⟩
  have a:d < tmps.size:=by rw [h.1]; exact hd.lt
  simp only [bC,List.lookup_cons] at hu
  split at hu
  ·rename_i heq
   cases hu
   have:t=d:=by simpa using heq
   subst this
   simp [c7,a]
  ·rename_i heq
   have b:t≠d:=by simpa using heq
   simp only [c7]
   rw [fN (Ne.symm b)]
   exact h.2 t u hu
def aU(st:St):Operand→Option Value
 | .tmp t=>st.lookup t
 | .const v=>some v
 | .global g=>some (.pointer (some ⟨g,0,none⟩))
 | .func f=>some (.func (.func f) #[] #[])
def Knows(st:St)(a:Operand→Value):Prop:=∀ x v,aU st x=some v→a x=v
theorem bV.knows{n:Nat}{st:St}{tmps:Array Value}(h:bV n st tmps)(c:Ctx)(todo:List Item):Knows st (aN c tmps todo).eval:=by
 intro x v a
 cases x with
 | tmp t =>
  have:=h.2 t v a
  simp [aN,Frame.eval,Array.getD_eq_getD_getElem?,this]
 | const u=>cases a; rfl
 | global g=>cases a; rfl
 | func f=>cases a; rfl
section
variable {P:Program} {B:Base} {main:Bool} (ab:Jd P B main)
def U(c:Ctx)(R:ax)(H:ai)(st:St)(todo:List Item):Prop:=∀ tmps,bV c.n st tmps→ab.J R H (aO (aN c tmps todo) c.cs)
variable {ab} {c:Ctx} {R:ax} {H:ai} {st:St} {k:List Item}
theorem U.sub{st':St}{todo:List Item}(a:aA st st')(h:U ab c R H st' todo):U ab c R H st todo:=λ tmps b=>h tmps (b.sub a)
theorem U.ghost{R':ax}{H':ai}{todo:List Item}(a:∀ w,Fits B R H w→dg B R H w R' H' w)(h:U ab c R' H' st todo):U ab c R H st todo:=λ tmps b=>ab.ghost a (h tmps b)
theorem Jd.ctl{R:ax}{H:ai}{g g':Goroutine}(b:g.status = .running)(h:∀ w,stepG P main g w = .go g' w)(a:ab.J R H g'):ab.J R H g :=
 ab.step b λ w hw=>⟨g',w,#[],R,H,h w,by simp,dg.refl hw,a⟩
theorem U.skip(h:U ab c R H st k):U ab c R H st (.code .skip::k):=λ tmps a=>Jd.ctl rfl (λ w=>by simp [stepG,stepG.exec,aO,aN]) (h tmps a)
theorem U.label{l:Nat}(h:U ab c R H st k):U ab c R H st (.code (.label l)::k):=λ tmps a=>Jd.ctl rfl (λ w=>by simp [stepG,stepG.exec,aO,aN]) (h tmps a)
theorem U.a9{id:Nat}(h:U ab c R H st k):U ab c R H st (.inBlock id::k):=λ tmps a=>Jd.ctl rfl (λ w=>by simp [stepG,stepG.exec,aO,aN]) (h tmps a)
theorem U.seq{x y:Code}(h:U ab c R H st (.code x :: .code y::k)):U ab c R H st (.code (.seq x y)::k):=λ tmps a=>Jd.ctl rfl (λ w=>by simp [stepG,stepG.exec,aO,aN]) (h tmps a)
theorem U.aR{id:Nat}{x:Code}(h:U ab c R H st (.code x :: .inBlock id::k)):U ab c R H st (.code (.block id x)::k):=λ tmps a=>Jd.ctl rfl (λ w=>by simp [stepG,stepG.exec,aO,aN]) (h tmps a)
theorem U.scope{x:Code}(h:U ab c R H st (.code x :: .inScope x::k)):U ab c R H st (.code (.scope x)::k):=λ tmps a=>Jd.ctl rfl (λ w=>by simp [stepG,stepG.exec,aO,aN]) (h tmps a)
theorem U.enterLoop{x:Code}(h:U ab c R H st (.code x :: .inLoop x::k)):U ab c R H st (.code (.loop x)::k):=λ tmps a=>Jd.ctl rfl (λ w=>by simp [stepG,stepG.exec,aO,aN]) (h tmps a)
theorem U.inLoop{x:Code}(h:U ab c R H st (.code x :: .inLoop x::k)):U ab c R H st (.inLoop x::k):=λ tmps a=>Jd.ctl rfl (λ w=>by simp [stepG,stepG.exec,aO,aN]) (h tmps a)
theorem U.bD{id:Nat}{a:List Item}(he:exitTo id k=some a)(h:U ab c R H st a):U ab c R H st (.code (.exit id)::k):=λ tmps b=>Jd.ctl rfl (λ w=>by simp [stepG,stepG.exec,aO,aN,he]) (h tmps b)
theorem U.region{id:Nat}{ops:Array Oper}(h:U ab c R H st (.inRegion ops (List.range ops.size)::k)):U ab c R H st (.code (.region id ops false)::k):=λ tmps a=>Jd.ctl rfl (λ w=>by simp [stepG,stepG.exec,aO,aN]) (h tmps a)
theorem U.aK{ops:Array Oper}(h:U ab c R H st k):U ab c R H st (.inRegion ops []::k):=λ tmps a=>Jd.ctl rfl (λ w=>by simp [stepG,stepG.exec,aO,aN]) (h tmps a)
theorem U.cond{x:Operand}{th el:Code}{t:Bool}(b:aU st x=some (.bool t))(h1:t=true→U ab c R H st (.code th::k))(h2:t=false→U ab c R H st (.code el::k)):U ab c R H st (.code (.cond x th el)::k):=by
 intro tmps a
 have he:=a.knows c (.code (.cond x th el)::k) x _ b
 cases t with
 | true=>exact Jd.ctl rfl (λ w=>by simp only [aN] at he; simp [stepG,stepG.exec,aO,aN,he]) (h1 rfl tmps a)
 | false=>exact Jd.ctl rfl (λ w=>by simp only [aN] at he; simp [stepG,stepG.exec,aO,aN,he]) (h2 rfl tmps a)
theorem U.cond_true{x:Operand}{th el:Code}(a:aU st x=some (.bool true))(h:U ab c R H st (.code th::k)):U ab c R H st (.code (.cond x th el)::k):=U.cond a (λ _=>h) (λ e=>by cases e)
theorem U.cond_false{x:Operand}{th el:Code}(a:aU st x=some (.bool false))(h:U ab c R H st (.code el::k)):U ab c R H st (.code (.cond x th el)::k):=U.cond a (λ e=>by cases e) (λ _=>h)
def fU:Op→Bool
 | .defer _=>true
 | _=>false
theorem g7{tmps:Array Value}{ops:Array Oper}{i:Nat}{rest:List Nat}{o:Oper}{w:World}(ho:ops[i]? = some o)(hw:Region.wanted o (yielded ops tmps)=true)(hd:fU o.op=false) :
  stepG P main (aO (aN c tmps (.inRegion ops (i::rest)::k)) c.cs) w=stepG.apply P true (aN c tmps (.inRegion ops (i::rest)::k)) c.cs none (execOp (aN c tmps (.inRegion ops (i::rest)::k)).eval o) w:=by
 cases a:c.ro with
 | none=>simp [aO,stepG,stepG.exec,stepG.oper,Frame.oper?,aN,ho,hw,a]
 | some l =>
  simp only [aO,stepG,stepG.exec,stepG.oper,Frame.oper?,aN,ho,hw,a,Option.map_some,gh,if_true]
  split
  ·rename_i h1 h2; rw [h2] at hd; cases hd
  ·rfl
theorem xH{tmps:Array Value}{ops:Array Oper}{i:Nat}{rest:List Nat}{o:Oper}{w:World}(ho:ops[i]? = some o)(hw:Region.wanted o (yielded ops tmps)=false) :
  stepG P main (aO (aN c tmps (.inRegion ops (i::rest)::k)) c.cs) w = .go (aO (aN c (c7 o.dst undef tmps) (.inRegion ops rest::k)) c.cs) w:=by
 simp only [aO,stepG,stepG.exec,aN,ho,hw,Option.map_some,gh,Frame.finish,aG,c7]
 cases o.dst <;> rfl
theorem hx{tmps:Array Value}{ops:Array Oper}{i:Nat}{rest:List Nat}{o:Oper}{v:Value}(ho:ops[i]? = some o) :
  (aN c tmps (.inRegion ops (i::rest)::k)).finish v=aN c (c7 o.dst v tmps) (.inRegion ops rest::k):=by
 simp only [Frame.finish,aN,ho,aG,c7]
 cases o.dst <;> rfl
def bQ(ops:Array Oper)(st:St)(o:Oper):Option Bool :=
 match o.guard with
 | none=>some true
 | some (j,want)=>match ((ops[j]?).bind (·.dst)).bind (st.lookup ·) with
  | some (.bool b)=>some (b == want)
  | some (.tuple _)=>some false
  | _=>none
theorem e2{n:Nat}{ops:Array Oper}{tmps:Array Value}{o:Oper}{b:Bool}(e:bV n st tmps)(h:bQ ops st o=some b):Region.wanted o (yielded ops tmps)=b:=by
 unfold bQ at h
 unfold Region.wanted
 split at h
 ·rename_i a; simp only [a]; exact ed h
 ·rename_i j want a
  simp only [a,yielded]
  cases hd:(ops[j]?).bind (·.dst) with
  | none=>simp [hd] at h
  | some d =>
   simp only [hd,aG] at h ⊢
   cases hl:st.lookup d with
   | none=>simp [hl] at h
   | some v =>
    rw [hl] at h
    rw [e.2 d v hl]
    cases v <;> simp at h ⊢ <;> first | (rw [← h]; done) | exact h.symm | (subst h; rfl)
theorem m0{fr:Frame}{cs:List Frame}{s:Sem Next}{w w':World}{v:Value}(a:fr.kind ≠ .early)(d:s.run P w = .ok (.value v) w') :
  stepG.apply P true fr cs none s w = .go (aO (fr.finish v) cs) w' (seen P fr.fn (s.events P w #[])):=by
 have b:(fr.kind == CallKind.early)=false:=by simpa using a
 simp [stepG.apply,d,aO,b,GStep.after]
theorem uI{fr:Frame}{cs:List Frame}{s:Sem Next}{w w':World}(a:fr.kind ≠ .early)(d:s.run P w = .ok .skip w') :
  stepG.apply P true fr cs none s w = .go (aO (fr.finish undef) cs) w' (seen P fr.fn (s.events P w #[])):=by
 have b:(fr.kind == CallKind.early)=false:=by simpa using a
 simp [stepG.apply,d,aO,b,GStep.after]
theorem pR{fr:Frame}{cs:List Frame}{s:Sem Next}{w w':World}{f:FuncId}{args:Array Value}{ops:Array Oper}{is:List Nat}{k:List Item}(e:fr.todo = .inRegion ops is::k)(a:fr.kind ≠ .early)(d:s.run P w = .ok (.enter f args) w') :
  stepG.apply P true fr cs none s w = .go (aO (Frame.enter P f args .normal) (fr::cs)) w' (seen P fr.fn (s.events P w #[])):=by
 have b:(fr.kind == CallKind.early)=false:=by simpa using a
 simp [stepG.apply,d,aO,b,GStep.after,e]
theorem U.op{ops:Array Oper}{i:Nat}{rest:List Nat}{o:Oper}(ho:ops[i]? = some o)(hw:bQ ops st o=some true)(hd:fU o.op=false)(b:c.kind ≠ .early)
  (h:∀ d,Knows st d→aF P B R H (execOp d o) λ nx R' H'=>∃ v,(nx = .value v∨(nx = .skip∧v=undef))∧bA o.dst c.n∧∃ st',aA (bC o.dst v st) st'∧U ab c R' H' st' (.inRegion ops rest::k)) :
  U ab c R H st (.inRegion ops (i::rest)::k):=by
 intro tmps a
 refine ab.step rfl λ w m=>?_
 obtain ⟨nx,w',R',H',h1,h2,h3,v,l,g,st',j,f⟩:=h _ (a.knows c _) w m
 refine ⟨aO (aN c (c7 o.dst v tmps) (.inRegion ops rest::k)) c.cs,w',seen P c.fn ((execOp (aN c tmps (.inRegion ops (i::rest)::k)).eval o).events P w #[]),R',H',?_,λ e he=>h2 e (mem_seen he),h3,f _ ((a.put v g).sub j)⟩
 rw [g7 ho (e2 a hw) hd,← hx (rest:=rest) (k:=k) (c:=c) (tmps:=tmps) (v:=v) ho]
 rcases l with rfl | ⟨rfl,rfl⟩
 ·exact m0 b h1
 ·exact uI b h1
theorem U.unwanted{ops:Array Oper}{i:Nat}{rest:List Nat}{o:Oper}{st':St}(ho:ops[i]? = some o)(hw:bQ ops st o=some false)(b:bA o.dst c.n)(d:aA (bC o.dst undef st) st')
  (h:U ab c R H st' (.inRegion ops rest::k)):U ab c R H st (.inRegion ops (i::rest)::k) :=
 λ _ a=>Jd.ctl rfl (λ _=>xH ho (e2 a hw)) (h _ ((a.put undef b).sub d))
def aP(ab:Jd P B main)(f:FuncId)(args:Array Value)(R:ax)(H:ai)(Post:Value→ax→ai→Prop):Prop :=
 ∀ fr cs,(∀ v R' H',Post v R' H'→ab.J R' H' (aO (fr.finish v) cs))→ab.J R H (aO (Frame.enter P f args .normal) (fr::cs))
theorem aP.mono{f:FuncId}{args:Array Value}{Post a:Value→ax→ai→Prop}(h:aP ab f args R H Post)(d:∀ v R' H',Post v R' H'→a v R' H'):aP ab f args R H a :=
 λ fr cs b=>h fr cs λ v R' H' e=>b v R' H' (d v R' H' e)
theorem U.enters{ops:Array Oper}{i:Nat}{rest:List Nat}{o:Oper}{f:FuncId}{args:Array Value}{Post:Value→ax→ai→Prop}(ho:ops[i]? = some o)(hw:bQ ops st o=some true)(hd:fU o.op=false)(p:c.kind ≠ .early)(j:bA o.dst c.n)
  (he:∀ d,Knows st d→ah P (execOp d o) (.enter f args)) (m:aP ab f args R H Post)
  (h:∀ v R' H',Post v R' H'→∃ st',aA (bC o.dst v st) st'∧U ab c R' H' st' (.inRegion ops rest::k)) :
  U ab c R H st (.inRegion ops (i::rest)::k):=by
 intro tmps a
 refine ab.step rfl λ w s=>?_
 have b:=he _ (a.knows c (.inRegion ops (i::rest)::k)) w
 refine ⟨aO (Frame.enter P f args .normal) (aN c tmps (.inRegion ops (i::rest)::k)::c.cs),w,seen P c.fn ((execOp (aN c tmps (.inRegion ops (i::rest)::k)).eval o).events P w #[]),R,H,?_,?_,dg.refl s,m _ _ λ v R' H' q=>?_⟩
 ·rw [g7 ho (e2 a hw) hd]
  exact pR rfl p b.1
 ·intro e l
  have:=mem_seen l
  rw [b.2] at this
  simp at this
 ·obtain ⟨st',r,g⟩:=h v R' H' q
  rw [hx ho]
  exact g _ ((a.put v j).sub r)
def gS(ab:Jd P B main)(c:Ctx)(o:Oper)(R:ax)(H:ai)(st:St)(C:ax→ai→St→Prop):Prop :=
 fU o.op=false∧bA o.dst c.n ∧
  ((∀ a,Knows st a→aF P B R H (execOp a o) λ nx R' H'=>∃ v,(nx = .value v∨(nx = .skip∧v=undef))∧∃ st',aA (bC o.dst v st) st'∧C R' H' st') ∨
   (∃ f args,(∀ a,Knows st a→ah P (execOp a o) (.enter f args))∧aP ab f args R H λ v R' H'=>∃ st',aA (bC o.dst v st) st'∧C R' H' st'))
def aS(P:Program)(B:Base)(c:Ctx)(o:Oper)(R:ax)(H:ai)(st:St)(C:ax→ai→St→Prop):Prop :=
 fU o.op=false∧bA o.dst c.n∧∀ a,Knows st a→aF P B R H (execOp a o) λ nx R' H'=>∃ v,(nx = .value v∨(nx = .skip∧v=undef))∧∃ st',aA (bC o.dst v st) st'∧C R' H' st'
theorem aS.to{o:Oper}{C:ax→ai→St→Prop}(h:aS P B c o R H st C):gS ab c o R H st C:=⟨h.1,h.2.1,.inl h.2.2⟩
theorem U.step{ops:Array Oper}{i:Nat}{rest:List Nat}{o:Oper}(ho:ops[i]? = some o)(hw:bQ ops st o=some true)(d:(c.kind == CallKind.early)=false)
  (h:gS ab c o R H st λ R' H' st'=>U ab c R' H' st' (.inRegion ops rest::k)):U ab c R H st (.inRegion ops (i::rest)::k):=by
 obtain ⟨hd,b,h | ⟨f,args,h1,h2⟩⟩:=h
 ·exact U.op ho hw hd (by simpa using d) λ j g=>(h j g).mono λ nx R' H' ⟨v,e,a⟩=>⟨v,e,b,a⟩
 ·exact U.enters ho hw hd (by simpa using d) b h1 h2 λ v R' H' a=>a
theorem U.eg{ops:Array Oper}{i:Nat}{rest:List Nat}{o:Oper}(ho:ops[i]? = some o)(hw:bQ ops st o=some true)(a:(c.kind == CallKind.early)=false)
  (h:aS P B c o R H st λ R' H' st'=>U ab c R' H' st' (.inRegion ops rest::k)):U ab c R H st (.inRegion ops (i::rest)::k):=U.step ho hw a h.to
theorem U.Ob{id n:Nat}{is:List Nat}{ops:Array Oper}(b:ops.size=n)(a:List.range n=is)(h:U ab c R H st (.inRegion ops is::k)):U ab c R H st (.code (.region id ops false)::k):=by
 subst b; subst a; exact U.region h
def ji:Nat→List Value→St
 | _,[]=>[]
 | i,v::r=>(i,v)::ji (i+1) r
theorem pS:∀ (args:List Value) (i t:Nat) (v:Value),(ji i args).lookup t=some v→i≤t∧args[t - i]? = some v
 | [],_,_,_,h=>by cases h
 | a::r,i,t,v,h=>by
  simp only [ji,List.lookup_cons] at h
  split at h
  ·rename_i heq
   cases h
   have:t=i:=by simpa using heq
   subst this
   simp
  ·rename_i heq
   have b:t≠i:=by simpa using heq
   obtain ⟨h1,h2⟩:=pS r (i+1) t v h
   refine ⟨by omega,?_⟩
   have:t - i=(t - (i+1))+1:=by omega
   rw [this]
   simpa using h2
theorem aP.gu{f:FuncId}{fn:Func}{body:Code}{args:List Value}{n:Nat}{Post:Value→ax→ai→Prop}(b:P.funcs[f]? = some fn)(hb:fn.body=some body)(i:fn.ntmps=n)(a:Nat.ble args.length n=true)
  (h:∀ fr cs,(∀ v R' H',Post v R' H'→ab.J R' H' (aO (fr.finish v) cs))→U ab ⟨f,.normal,none,n,[],fr::cs⟩ R H (ji 0 args) [.code body]):aP ab f args.toArray R H Post:=by
 subst i
 intro fr cs d
 have a:args.length≤fn.ntmps:=by simpa [Nat.ble_eq] using a
 have:=h fr cs d (args.toArray++Array.replicate (fn.ntmps - args.length) undef) ⟨by simp; omega,λ t v j=>?_⟩
 ·have e:Frame.enter P f args.toArray .normal=aN ⟨f,.normal,none,fn.ntmps,[],fr::cs⟩ (args.toArray++Array.replicate (fn.ntmps - args.length) undef) [.code body]:=by
   simp [Frame.enter,aN,b,hb]
  rw [e]
  exact this
 ·obtain ⟨_,h2⟩:=pS args 0 t v j
  have g:t < args.length:=by
   have:=(dU.1 h2).1
   simpa using this
  rw [Array.getElem?_append_left (by simpa using g)]
  simpa using h2
def lq(st:St):List ResultVar→Option (List Value)
 | []=>some []
 | .tmp t::r=>match st.lookup t,lq st r with
  | some v,some vs=>some (v::vs)
  | _,_=>none
 | .cell _ _::_=>none
def dZ:List Value→Value
 | [v]=>v
 | vs=>.tuple vs.toArray
theorem Ds{st:St}{tmps:Array Value}{n:Nat}(d:bV n st tmps):∀ (l:List ResultVar) (vs:List Value),lq st l=some vs →
  ah P (l.mapM (m:=Sem) λ
   | .tmp t=>pure (tmps.getD t undef)
   | .cell a t=>do loadVar t (← asAddr (tmps.getD a undef))) vs
 | [],vs,h=>by cases h; exact ah.a0 _
 | .tmp t::r,vs,h=>by
  simp only [lq] at h
  cases hl:st.lookup t with
  | none=>simp [hl] at h
  | some v =>
   cases b:lq st r with
   | none=>simp [hl,b] at h
   | some us =>
    simp only [hl,b,eh] at h
    subst h
    rw [List.mapM_cons]
    refine ah.ba (a:=v) ?_ (ah.ba (Ds d r us b) (ah.a0 _))
    have:tmps.getD t undef=v:=by simp [Array.getD_eq_getD_getElem?,d.2 t v hl]
    show ah P (pure (tmps.getD t undef)) v
    rw [this]; exact ah.a0 _
 | .cell _ _::_,_,h=>by cases h
theorem xW{fn:Func}{st:St}{tmps:Array Value}{n:Nat}{vs:List Value}(a:bV n st tmps)(h:lq st fn.results.toList=some vs):ah P (results fn tmps) (dZ vs):=by
 unfold results
 rw [← Array.toArray_toList (xs:=fn.results),List.mapM_toArray]
 refine ah.ba (ah.map (Ds a _ _ h)) ?_
 cases vs with
 | nil=>exact ah.a0 _
 | cons v r=>cases r with
  | nil=>exact ah.a0 _
  | cons _ _=>exact ah.a0 _
end
theorem hT(b o n:Nat):(⟨b,o,none⟩:Addr).add n=⟨b,o+n,none⟩:=by
 unfold Addr.add; split
 ·subst_vars; rfl
 ·rfl
def dB(P:Program)(s f off:Nat):Prop:=∀ b o:Nat,ah P (Instr.fieldAt s (.pointer (some ⟨b,o,none⟩)) f) (.pointer (some ⟨b,o+off,none⟩))
def fB(P:Program)(t e n:Nat):Prop:=P.underlying t=some (.slice e)∧ah P (sizeOf e) n
def jb(P:Program)(t len e n:Nat):Prop:=P.underlying t=some (.array len e)∧ah P (sizeOf e) n
def DW(z:Int):Prop:=-9223372036854775808≤z∧z≤9223372036854775807
theorem DO{z:Int}(h:DW z):IntKind.wrap .i64 z=z:=by
 obtain ⟨h1,h2⟩:=h
 simp only [IntKind.wrap,IntKind.bits,IntKind.signed]
 simp
 omega
section
variable {P:Program} {B:Base} {main:Bool} {ab:Jd P B main} {c:Ctx} {R:ax} {H:ai} {st st':St} {o:Oper} {C:ax→ai→St→Prop}
theorem Ox.val{v:Value}(b:fU o.op=false)(hd:bA o.dst c.n)
  (e:∀ a,Knows st a→ah P (execOp a o) (.value v)) (d:aA (bC o.dst v st) st') (h:C R H st'):aS P B c o R H st C :=
 ⟨b,hd,λ a f=>(e a f).ok ⟨v,.inl rfl,st',d,h⟩⟩
theorem Ox.fb{s:(Operand→Value)→Sem Value}{v:Value}(b:fU o.op=false)(hd:bA o.dst c.n)
  (he:∀ a,execOp a o=(do let x ← s a; pure (.value x))) (e:∀ a,Knows st a→ah P (s a) v) (d:aA (bC o.dst v st) st') (h:C R H st'):aS P B c o R H st C :=
 Ox.val b hd (λ a f=>by rw [he]; exact ah.ba (e a f) (ah.a0 _)) d h
theorem Ox.mem{s:(Operand→Value)→Sem Value}(b:fU o.op=false)(hd:bA o.dst c.n)
  (he:∀ a,execOp a o=(do let x ← s a; pure (.value x)))
  (e:∀ a,Knows st a→aF P B R H (s a) λ v R' H'=>∃ st',aA (bC o.dst v st) st'∧C R' H' st'):aS P B c o R H st C :=
 ⟨b,hd,λ a f=>by
  rw [he]
  exact aF.b9 ((e a f).mono λ v R' H' ⟨st',d,h⟩=>aF.cf ⟨v,.inl rfl,st',d,h⟩)⟩
theorem Ox.tB{s:(Operand→Value)→Sem Unit}(b:fU o.op=false)(hd:o.dst=none)
  (he:∀ a,execOp a o=(do s a; pure .skip)) (d:aA st st')
  (e:∀ a,Knows st a→aF P B R H (s a) λ _ R' H'=>C R' H' st'):aS P B c o R H st C :=
 ⟨b,by rw [hd]; rfl,λ a f=>by
  rw [he]
  exact aF.b9 ((e a f).mono λ v R' H' h=>aF.cf ⟨undef,.inr ⟨rfl,rfl⟩,st',by rw [hd]; exact d,h⟩)⟩
theorem Ox.move{x:Operand}{v:Value}(a:o.op = .move x)(d:aU st x=some v)(hd:bA o.dst c.n)
  (b:aA (bC o.dst v st) st') (h:C R H st'):aS P B c o R H st C :=
 Ox.val (by rw [a]; rfl) hd (λ f e=>by simp only [execOp,a,e x v d]; exact ah.a0 _) b h
theorem Ox.assign{x:Operand}{v:Value}(a:o.op = .assign x)(d:aU st x=some v)(hd:bA o.dst c.n)
  (b:aA (bC o.dst v st) st') (h:C R H st'):aS P B c o R H st C :=
 Ox.val (by rw [a]; rfl) hd (λ f e=>by simp only [execOp,a,e x v d]; exact ah.a0 _) b h
theorem Ox.NG{x y z:Operand}{v:Value}(a:o.op = .pick x y z)(e:aU st x=some (.bool true))(f:aU st y=some v)(hd:bA o.dst c.n)
  (d:aA (bC o.dst v st) st') (h:C R H st'):aS P B c o R H st C :=
 Ox.val (by rw [a]; rfl) hd (λ g b=>by
  simp only [execOp,a,b x _ e,b y v f,asBool]
  exact ah.ba (ah.a0 true) (ah.a0 _)) d h
theorem Ox.NF{x y z:Operand}{v:Value}(a:o.op = .pick x y z)(e:aU st x=some (.bool false))(f:aU st z=some v)(hd:bA o.dst c.n)
  (d:aA (bC o.dst v st) st') (h:C R H st'):aS P B c o R H st C :=
 Ox.val (by rw [a]; rfl) hd (λ g b=>by
  simp only [execOp,a,b x _ e,b z v f,asBool]
  exact ah.ba (ah.a0 false) (ah.a0 _)) d h
theorem Ox.fieldAddr{x:Operand}{s f off b n:Nat}(d:o.op = .fieldAddr s x f)(i:aU st x=some (.pointer (some ⟨b,n,none⟩)))(e:dB P s f off)(hd:bA o.dst c.n)
  (g:aA (bC o.dst (.pointer (some ⟨b,n+off,none⟩)) st) st') (h:C R H st'):aS P B c o R H st C :=
 Ox.fb (s:=λ a=>Instr.fieldAt s (a x) f) (by rw [d]; rfl) hd (λ a=>by simp only [execOp,d]) (λ a j=>by rw [j x _ i]; exact e b n) g h
theorem xV{t e n b m len cap:Nat}{kd:IntKind}{j:Nat}(d:fB P t e n)(f:j < len) :
  ah P (Instr.indexAt t (.slice (some ⟨b,m,none⟩) len cap) (.int kd (j:Int))) (.pointer (some ⟨b,m+j * n,none⟩)):=by
 unfold Instr.indexAt
 refine ah.ba (a:=(kd,(j:Int))) (ah.a0 _) (ah.ba (ah.underlying d.1) (ah.ba (a:=(some (⟨b,m,none⟩:Addr),len,e)) (ah.a0 _) (ah.ba (ah.underlying d.1) ?_)))
 have h1:(0:Int)≤(j:Int)∧(j:Int) < (len:Int):=by omega
 simp only [h1,and_self,if_true,cp]
 refine ah.ba d.2 ?_
 rw [hT]
 exact ah.a0 _
theorem PS{t e n b m len:Nat}{kd:IntKind}{j:Nat}(d:jb P t len e n)(f:j < len) :
  ah P (Instr.indexAt t (.pointer (some ⟨b,m,none⟩)) (.int kd (j:Int))) (.pointer (some ⟨b,m+j * n,none⟩)):=by
 unfold Instr.indexAt
 refine ah.ba (a:=(kd,(j:Int))) (ah.a0 _) (ah.ba (ah.underlying d.1) (ah.ba (a:=(⟨b,m,none⟩:Addr)) (ah.a0 _) (ah.ba (a:=(some (⟨b,m,none⟩:Addr),len,e)) (ah.a0 _) (ah.ba (ah.underlying d.1) ?_))))
 have h1:(0:Int)≤(j:Int)∧(j:Int) < (len:Int):=by omega
 simp only [h1,and_self,if_true,cp]
 refine ah.ba d.2 ?_
 rw [hT]
 exact ah.a0 _
theorem mQ(op:BinOp)(t:TypeId)(x y:Operand)(ka kb:IntKind)(a b:Int):ah P (eqGuard op t x y (.int ka a) (.int kb b)) ():=by
 unfold eqGuard
 cases op <;> exact ah.a0 _
def vq:BinOp→Int→Int→Option Bool
 | .eql,x,y=>some (x == y)
 | .neq,x,y=>some (x != y)
 | .lss,x,y=>some (decide (x < y))
 | .leq,x,y=>some (decide (x≤y))
 | .gtr,x,y=>some (decide (x > y))
 | .geq,x,y=>some (decide (x ≥ y))
 | _,_,_=>none
theorem Ox.cmp{x y:Operand}{bo:BinOp}{t u:TypeId}{a b:Int}{kd:IntKind}{r:Bool}(e:o.op = .binOp bo t x y u)(j:aU st x=some (.int kd a))(l:aU st y=some (.int kd b))(f:vq bo a b=some r)
  (hd:bA o.dst c.n) (i:aA (bC o.dst (.bool r) st) st') (h:C R H st'):aS P B c o R H st C :=
 Ox.fb (s:=λ d=>do eqGuard bo t x y (d x) (d y); binOp bo t (d x) (d y)) (by rw [e]; rfl) hd (λ d=>by simp only [execOp,e]) (λ d g=>by
  rw [g x _ j,g y _ l]
  refine ah.ba (mQ _ _ _ _ _ _ _ _) ?_
  cases bo <;> simp only [vq,eh,reduceCtorEq] at f <;> subst f <;> simp only [binOp,ne_eq,eK,if_false] <;> exact ah.a0 _) i h
def uJ:BinOp→Int→Int→Option Int
 | .add,x,y=>some (x+y)
 | .sub,x,y=>some (x - y)
 | .mul,x,y=>some (x * y)
 | _,_,_=>none
theorem Ox.not{x:Operand}{t:TypeId}{a:Bool}(d:o.op = .unOp .not t x)(f:aU st x=some (.bool a))
  (hd:bA o.dst c.n) (e:aA (bC o.dst (.bool (!a)) st) st') (h:C R H st'):aS P B c o R H st C :=
 Ox.fb (s:=λ b=>Op.unary .not (b x)) (by rw [d]; rfl) hd (λ b=>by simp only [execOp,d]) (λ b g=>by rw [g x _ f]; exact ah.a0 _) e h
theorem Ox.extract{x:Operand}{j:Nat}{vs:Array Value}{v:Value}(b:o.op = .extract x j)(f:aU st x=some (.tuple vs))(d:vs[j]? = some v)
  (hd:bA o.dst c.n) (e:aA (bC o.dst v st) st') (h:C R H st'):aS P B c o R H st C :=
 Ox.fb (s:=λ a=>Instr.extract (a x) j) (by rw [b]; rfl) hd (λ a=>by simp only [execOp,b]) (λ a g=>by
  rw [g x _ f]
  simp only [Instr.extract,d]; exact ah.a0 _) e h
theorem Ox.makeFunc{fn:Fn}{first captured:Array Operand}{vs us:Array Value}(f:o.op = .makeFunc fn first captured)(h1:first.toList.mapM (aU st)=some vs.toList)(h2:captured.toList.mapM (aU st)=some us.toList)
  (hd:bA o.dst c.n) (i:aA (bC o.dst (.func fn vs us) st) st') (h:C R H st'):aS P B c o R H st C :=
 Ox.fb (s:=λ d=>Instr.makeFunc fn (first.map d) (captured.map d)) (by rw [f]; rfl) hd (λ d=>by simp only [execOp,f]) (λ d j=>by
  have key:∀ (l:List Operand) (r:List Value),l.mapM (aU st)=some r→l.map d=r:=by
   intro l
   induction l with
   | nil=>intro r b; simpa using b
   | cons a l m =>
    intro r b
    rw [List.mapM_cons] at b
    cases e:aU st a with
    | none=>simp [e] at b
    | some u =>
     cases hl:l.mapM (aU st) with
     | none=>simp [e,hl] at b
     | some us =>
      simp [e,hl] at b
      subst b
      simp [j a u e,m us hl]
  have e1:first.map d=vs:=by apply Array.ext'; simpa using key _ _ h1
  have g:captured.map d=us:=by apply Array.ext'; simpa using key _ _ h2
  rw [e1,g]
  exact ah.a0 _) i h
theorem Ox.len{x:Operand}{t e:TypeId}{a:Option Addr}{n cap:Nat}(b:o.op = .call ⟨.builtin .len,#[x],#[t]⟩)(i:aU st x=some (.slice a n cap))(g:P.underlying t=some (.slice e))
  (hd:bA o.dst c.n) (f:aA (bC o.dst (.int .i64 (n:Int)) st) st') (h:C R H st'):aS P B c o R H st C :=
 Ox.val (by rw [b]; rfl) hd (λ d j=>by
  simp only [execOp,b]
  refine ah.ba (a:=⟨.builtin .len #[t] o.type (#[x].map λ | .const _=>true | _=>false),#[x].map d⟩) (ah.a0 _) ?_
  simp only [invoke,builtin]
  refine ah.ba (a:=.int .i64 (n:Int)) ?_ (ah.a0 _)
  have e:(#[x].map d)=#[.slice a n cap]:=by simp [j x _ i]
  rw [e]
  exact ah.ba (ah.underlying g) (ah.a0 _)) f h
theorem Ox.s5{x:Operand}{t:TypeId}{s:ByteArray}(b:o.op = .call ⟨.builtin .len,#[x],#[t]⟩)(i:aU st x=some (.string s))(g:P.underlying t=some .string)
  (hd:bA o.dst c.n) (f:aA (bC o.dst (.int .i64 (s.size:Int)) st) st') (h:C R H st'):aS P B c o R H st C :=
 Ox.val (by rw [b]; rfl) hd (λ d j=>by
  simp only [execOp,b]
  refine ah.ba (a:=⟨.builtin .len #[t] o.type (#[x].map λ | .const _=>true | _=>false),#[x].map d⟩) (ah.a0 _) ?_
  simp only [invoke,builtin]
  refine ah.ba (a:=.int .i64 (s.size:Int)) ?_ (ah.a0 _)
  have e:(#[x].map d)=#[.string s]:=by simp [j x _ i]
  rw [e]
  exact ah.ba (ah.underlying g) (ah.a0 _)) f h
theorem n9{f:FuncId}{fn:Func}{args:Array Value}(a:P.funcs[f]? = some fn)(b:(fn.name == "runtime.NumGoroutine")=false)(hb:fn.body.isNone=false):ah P (callFunc f args) (.enter f args):=by
 unfold callFunc
 refine ah.ba ah.program ?_
 simp only [a,b,hb]
 exact ah.a0 _
structure aV (P:Program) (f:FuncId):Prop where
 ex:∃ fn,P.funcs[f]? = some fn∧(fn.name == "runtime.NumGoroutine")=false∧fn.body.isNone=false
def ev(st:St):List Operand→Option (List Value)
 | []=>some []
 | x::r=>match aU st x,ev st r with
  | some v,some vs=>some (v::vs)
  | _,_=>none
theorem m2{st:St}{d:Operand→Value}(b:Knows st d):∀ (l:List Operand) (r:List Value),ev st l=some r→l.map d=r
 | [],r,h=>by cases h; rfl
 | x::l,r,h=>by
  simp only [ev] at h
  cases a:aU st x with
  | none=>simp [a] at h
  | some v =>
   cases hl:ev st l with
   | none=>simp [a,hl] at h
   | some vs =>
    simp [a,hl] at h
    subst h
    simp [b x v a,m2 b l vs hl]
theorem Ox.cd{b:Call}{x:Operand}{f:FuncId}{first captured:Array Value}{vs:List Value}{args:Array Value}
  (d:o.op = .call b) (j:b.callee = .value x) (m:aU st x=some (.func (.func f) first captured)) (h:ev st b.args.toList=some vs) (he:aV P f) (i:first++vs.toArray++captured=args)
  (hd:bA o.dst c.n) (l:aP ab f args R H λ v R' H'=>∃ st',aA (bC o.dst v st) st'∧C R' H' st'):gS ab c o R H st C :=
 ⟨by rw [d]; rfl,hd,.inr ⟨f,args,λ p g=>by
  obtain ⟨fn,h1,h2,h3⟩:=he.ex
  simp only [execOp,d,resolve,j,g x _ m,Deferred.ofValue]
  have e:b.args.map p=vs.toArray:=by apply Array.ext'; simpa using m2 g _ _ h
  refine ah.ba (a:=⟨.fn (.func f) captured,first++vs.toArray⟩) (by rw [e]; exact ah.a0 _) ?_
  simp only [invoke,i]
  exact n9 h1 h2 h3,l⟩⟩
end
def eu(P:Program)(t:TypeId)(cs:Array Value):Prop:=∃ z,ah P (zeroValue t) z∧z.cells=cs
def dn(P:Program)(t:TypeId):Prop:=ah P (isAgg t) false∧ah P (sizeOf t) 1
def fO(P:Program)(t:TypeId)(n:Nat):Prop:=ah P (isAgg t) true∧ah P (sizeOf t) n
def aH(R:ax)(H:ai)(b o:Nat)(vs:List Value):Prop:=∀ j v,vs[j]? = some v→Cell R H ⟨b,o+j,none⟩ v
theorem aH.known{R:ax}{H:ai}{b o n:Nat}{cs:Array Value}{e:TypeId}{d:Nat × Nat}{vs:List Value}(hm:R b=some (Obj.cells cs e d))(f:(cs.toList.drop o).take n=vs):aH R H b o vs:=by
 intro j v a
 refine ⟨rfl,cs,e,d,.inl hm,?_⟩
 subst f
 rw [List.getElem?_take] at a
 split at a
 ·rw [List.getElem?_drop] at a
  simpa using a
 ·cases a
def dc(cs:Array Value):Nat→List Value→Array Value
 | _,[]=>cs
 | o,v::r=>dc (cs.setIfInBounds o v) (o+1) r
theorem q8:∀ (vs:List Value) (cs:Array Value) (o:Nat),(dc cs o vs).size=cs.size
 | [],_,_=>rfl
 | v::r,cs,o=>by simp only [dc]; rw [q8 r]; simp
theorem cF.mid{H H1 H':ai}{b:Nat}{o o' d:Obj}(h:cF H b o o' H1)(k:cF H b o d H')(a:(H.map (·.1)).Nodup):cF H1 b o' d H':=by
 induction h generalizing H' with
 | @here b o o' H =>
  cases k with
  | here=>exact .here
  | there k =>
   rw [List.map_cons,List.nodup_cons] at a
   exact absurd (List.mem_map.2 ⟨_,k.mem,rfl⟩) a.1
 | @there b o o' p H H1 e f =>
  cases k with
  | here =>
   rw [List.map_cons,List.nodup_cons] at a
   exact absurd (List.mem_map.2 ⟨_,e.mem,rfl⟩) a.1
  | there k =>
   rw [List.map_cons,List.nodup_cons] at a
   exact .there (f k a.2)
section
variable {P:Program} {B:Base} {main:Bool} {ab:Jd P B main} {c:Ctx} {R:ax} {H H':ai} {st st':St} {o:Oper} {C:ax→ai→St→Prop}
theorem aF.rm{b:Nat}{e:TypeId}{K:Unit→ax→ai→Prop}:∀ (vs:List Value) (cs:Array Value) (off i:Nat) (H H':ai),(∀ v∈vs,v.oneCell'=true)→off+i+vs.length≤cs.size →
  cF H b (.cells cs e (0,0)) (.cells (dc cs (off+i) vs) e (0,0)) H'→(H.map (·.1)).Nodup→K () R H'→aF P B R H (storeCells ⟨b,off,none⟩ vs i) K
 | [],cs,off,i,H,H',_,_,a,f,d=>by
  have e1:H'=H:=by
   have:∀ {H H':ai} {o:Obj},cF H b o o H'→H'=H:=by
    intro H H' o h
    induction H generalizing H' with
    | nil=>cases h
    | cons p r j =>
     cases h with
     | here=>rfl
     | there h=>rw [j h]
   exact this a
  subst e1
  simp only [storeCells]
  exact aF.cf d
 | v::r,cs,off,i,H,H',h1,hl,a,f,d=>by
  simp only [storeCells]
  simp only [List.length_cons] at hl
  have hex:∀ (H:ai) (o o':Obj),(b,o)∈H→∃ H1,cF H b o o' H1:=by
   intro H o o' hm
   induction H with
   | nil=>cases hm
   | cons p r j =>
    rcases cJ.1 hm with rfl | hm
    ·exact ⟨_,.here⟩
    ·obtain ⟨H1,h1⟩:=j hm
     exact ⟨_,.there h1⟩
  obtain ⟨H1,g⟩:=hex H _ (.cells (cs.setIfInBounds (off+i) v) e (0,0)) a.mem
  have l:cF H1 b (.cells (cs.setIfInBounds (off+i) v) e (0,0)) (.cells (dc cs (off+i) (v::r)) e (0,0)) H':=cF.mid g a f
  refine aF.b9 ?_
  rw [hT]
  refine aF.store (h1 v (by simp)) rfl (by show off+i < cs.size; omega) g ?_
  exact aF.rm r (cs.setIfInBounds (off+i) v) off (i+1) H1 H' (λ u hu=>h1 u (by simp [hu])) (by simp; omega) (by simpa [dc,Nat.add_assoc] using l) (by rw [g.keys]; exact f) d
theorem aF.given{α:Type}{s:Sem α}{K:α→ax→ai→Prop}(h:(H.map (·.1)).Nodup→aF P B R H s K):aF P B R H s K:=λ w hw=>h hw.nd w hw
theorem aF.storeVar{t:TypeId}{b off n:Nat}{e:TypeId}{v:Value}{cs:Array Value}{K:Unit→ax→ai→Prop}(f:ah P (sizeOf t) n)(a:v.cells.size=n)(h1:∀ u∈v.cells.toList,u.oneCell'=true)(hl:off+n≤cs.size)
  (h:cF H b (.cells cs e (0,0)) (.cells (dc cs off v.cells.toList) e (0,0)) H') (d:K () R H'):aF P B R H (storeVar t ⟨b,off,none⟩ v) K:=by
 refine aF.given λ g=>?_
 unfold Go.storeVar
 refine ah.cr f ?_
 simp only [a,ne_eq,eK,if_false]
 exact aF.rm _ cs off 0 H H' h1 (by simp [a]; exact hl) (by simpa using h) g d
theorem aF.loadCellsFrom{b off:Nat}{K:Array Value→ax→ai→Prop}:∀ (vs:List Value) (i:Nat) (acc:Array Value),aH R H b (off+i) vs→K (acc++vs.toArray) R H→aF P B R H (loadCellsFrom ⟨b,off,none⟩ i vs.length acc) K
 | [],i,acc,_,a=>by
  simp only [List.length_nil,Go.loadCellsFrom]
  exact aF.cf (by simpa using a)
 | v::r,i,acc,d,a=>by
  simp only [List.length_cons,Go.loadCellsFrom]
  refine aF.b9 ?_
  rw [hT]
  refine aF.load (v:=v) (by simpa using d 0 v rfl) ?_
  refine aF.loadCellsFrom r (i+1) (acc.push v) (λ j u e=>?_) (by simpa using a)
  have:=d (j+1) u (by simpa using e)
  simpa [Nat.add_assoc,Nat.add_comm,Nat.add_left_comm] using this
theorem Ox.ia{x:Operand}{t:TypeId}{b off:Nat}{v:Value}(d:o.op = .load t x)(i:aU st x=some (.pointer (some ⟨b,off,none⟩)))(g:dn P t)(e:Cell R H ⟨b,off,none⟩ v)
  (hd:bA o.dst c.n) (f:aA (bC o.dst v st) st') (h:C R H st'):aS P B c o R H st C :=
 Ox.mem (s:=λ a=>Instr.loadAt t (a x)) (by rw [d]; rfl) hd (λ a=>by simp only [execOp,d]) (λ a j=>by
  rw [j x _ i]
  simp only [Instr.loadAt,Instr.sureAddr,loadVar]
  refine ah.cr (ah.a0 _) (ah.cr g.1 ?_)
  exact aF.load e ⟨st',f,h⟩)
theorem Ox.bE{x:Operand}{t:TypeId}{b off n:Nat}{vs:List Value}(d:o.op = .load t x)(j:aU st x=some (.pointer (some ⟨b,off,none⟩)))(e:fO P t n)(g:vs.length=n)(f:aH R H b off vs)
  (hd:bA o.dst c.n) (i:aA (bC o.dst (.agg vs.toArray) st) st') (h:C R H st'):aS P B c o R H st C :=
 Ox.mem (s:=λ a=>Instr.loadAt t (a x)) (by rw [d]; rfl) hd (λ a=>by simp only [execOp,d]) (λ a l=>by
  rw [l x _ j]
  simp only [Instr.loadAt,Instr.sureAddr,loadVar]
  refine ah.cr (ah.a0 _) (ah.cr e.1 ?_)
  simp only [if_true]
  refine ah.cr e.2 (aF.b9 ?_)
  subst g
  exact aF.loadCellsFrom vs 0 #[] (by simpa using f) (aF.cf ⟨st',by simpa using i,h⟩))
theorem Ox.eF{x y:Operand}{t e:TypeId}{b off:Nat}{v:Value}{cs cs':Array Value}(f:o.op = .store t x y)(q:aU st x=some (.pointer (some ⟨b,off,none⟩)))(r:aU st y=some v)(p:dn P t)(g:v.oneCell'=true)(l:cF H b (.cells cs e (0,0)) (.cells cs' e (0,0)) H')(hl:Nat.blt off cs.size=true)(j:cs.setIfInBounds off v=cs')
  (hd:o.dst=none) (m:aA st st') (h:C R H' st'):aS P B c o R H st C :=
 Ox.tB (s:=λ a=>Instr.storeAt t (a x) (a y)) (by rw [f]; rfl) hd (λ a=>by simp only [execOp,f]) m (λ a i=>by
  rw [i x _ q,i y _ r]
  simp only [Instr.storeAt,Instr.sureAddr]
  refine ah.cr (ah.a0 _) ?_
  have d:v.cells=#[v]:=by cases v <;> first | rfl | (simp [Value.oneCell'] at g)
  refine aF.storeVar (cs:=cs) (e:=e) p.2 (by rw [d]; rfl) (by rw [d]; simpa using g) (Nat.le_of_ble_eq_true hl) ?_ h
  rw [d]
  simpa [dc,j] using l)
theorem Ox.cV{x y:Operand}{t e:TypeId}{b off n:Nat}{vs:Array Value}{cs cs':Array Value}(d:o.op = .store t x y)(p:aU st x=some (.pointer (some ⟨b,off,none⟩)))(q:aU st y=some (.agg vs))(m:fO P t n)(i:vs.size=n)(h1:∀ u∈vs.toList,u.oneCell'=true)(j:cF H b (.cells cs e (0,0)) (.cells cs' e (0,0)) H')(hl:Nat.ble (off+n) cs.size=true)(g:dc cs off vs.toList=cs')
  (hd:o.dst=none) (l:aA st st') (h:C R H' st'):aS P B c o R H st C :=
 Ox.tB (s:=λ a=>Instr.storeAt t (a x) (a y)) (by rw [d]; rfl) hd (λ a=>by simp only [execOp,d]) l (λ a f=>by
  rw [f x _ p,f y _ q]
  simp only [Instr.storeAt,Instr.sureAddr]
  refine ah.cr (ah.a0 _) ?_
  exact aF.storeVar (cs:=cs) (e:=e) m.2 i h1 (Nat.le_of_ble_eq_true hl) (by simpa [Value.cells,g] using j) h)
theorem Ox.jj{x:Operand}{t:TypeId}{v:Value}(d:o.op = .box t x)(f:aU st x=some v)(e:v.cells=#[v])(hd:bA o.dst c.n)
  (h:∀ b,R b=none→(∀ x,(b,x) ∉ H)→∃ st',aA (bC o.dst (.pointer (some ⟨b,0,none⟩)) st) st'∧C R ((b,.cells #[v] t)::H) st'):aS P B c o R H st C :=
 Ox.mem (s:=λ a=>Instr.box t (a x)) (by rw [d]; rfl) hd (λ a=>by simp only [execOp,d]) (λ a g=>by
  rw [g x _ f]
  simp only [Instr.box,newVar,newRow,e]
  exact aF.b9 (aF.b9 (aF.new λ b h1 h2=>aF.cf (aF.cf (h b h1 h2)))))
theorem Ox.yB{x:Operand}{t:TypeId}{vs:Array Value}(d:o.op = .box t x)(e:aU st x=some (.agg vs))(hd:bA o.dst c.n)
  (h:∀ b,R b=none→(∀ x,(b,x) ∉ H)→∃ st',aA (bC o.dst (.pointer (some ⟨b,0,none⟩)) st) st'∧C R ((b,.cells vs t)::H) st'):aS P B c o R H st C :=
 Ox.mem (s:=λ a=>Instr.box t (a x)) (by rw [d]; rfl) hd (λ a=>by simp only [execOp,d]) (λ a f=>by
  rw [f x _ e]
  simp only [Instr.box,newVar,newRow,Value.cells]
  exact aF.b9 (aF.b9 (aF.new λ b h1 h2=>aF.cf (aF.cf (h b h1 h2)))))
theorem Ox.alloc{t:TypeId}{cs:Array Value}(a:o.op = .alloc t)(d:eu P t cs)(hd:bA o.dst c.n)
  (h:∀ b,R b=none→(∀ x,(b,x) ∉ H)→∃ st',aA (bC o.dst (.pointer (some ⟨b,0,none⟩)) st) st'∧C R ((b,.cells cs t)::H) st'):aS P B c o R H st C :=
 Ox.mem (s:=λ _=>Instr.alloc t true (.tuple #[])) (by rw [a]; rfl) hd (λ f=>by simp only [execOp,a]) (λ f g=>by
  obtain ⟨z,e,rfl⟩:=d
  simp only [Instr.alloc,newVar,newRow]
  exact ah.cr e (aF.b9 (aF.b9 (aF.new λ b h1 h2=>aF.cf (aF.cf (h b h1 h2))))))
def mD(st:St):List (Nat × Operand)→Option (List (Nat × Value))
 | []=>some []
 | (j,x)::r=>match aU st x,mD st r with
  | some v,some vs=>some ((j,v)::vs)
  | _,_=>none
theorem xm{d:Operand→Value}(b:Knows st d):∀ (l:List (Nat × Operand)) (r:List (Nat × Value)),mD st l=some r→l.map (λ (j,x)=>(j,d x))=r
 | [],r,h=>by cases h; rfl
 | (j,x)::l,r,h=>by
  simp only [mD] at h
  cases a:aU st x with
  | none=>simp [a] at h
  | some v =>
   cases hl:mD st l with
   | none=>simp [a,hl] at h
   | some vs =>
    simp [a,hl] at h
    subst h
    simp [b x v a,xm b l vs hl]
def jQ(P:Program)(t:TypeId)(places:List (Nat × Nat))(z:Array Value):Prop :=
 eu P t z∧∃ a:Array Field,P.underlying t=some (.struct a)∧ah P (a.mapM λ f=>do pure (f.offset,← sizeOf f.type)) places.toArray
theorem Ox.build{t:TypeId}{parts:Array (Nat × Operand)}{b:List (Nat × Value)}{places:List (Nat × Nat)}{z cells:Array Value}(d:o.op = .build t parts)(l:jQ P t places z)(g:mD st parts.toList=some b)(f:Instr.fill (places.toArray[·]?) z b=some cells)
  (hd:bA o.dst c.n) (i:aA (bC o.dst (.agg cells) st) st') (h:C R H st'):aS P B c o R H st C :=
 Ox.fb (s:=λ a=>Instr.build t (parts.map λ (j,x)=>(j,a x))) (by rw [d]; rfl) hd (λ a=>by simp only [execOp,d]) (λ a p=>by
  obtain ⟨⟨z0,m,rfl⟩,q,h1,h2⟩:=l
  have e:(parts.map λ (j,x)=>(j,a x))=b.toArray:=by apply Array.ext'; simpa using xm p _ _ g
  rw [e]
  unfold Instr.build
  refine ah.ba m (ah.ba (ah.underlying h1) (ah.ba h2 ?_))
  simp only [f]
  exact ah.a0 _) i h
def jd(P:Program)(t e n:Nat)(z:Array Value):Prop:=P.underlying t=some (.slice e)∧ah P (sizeOf e) n∧eu P e z∧z.size=n∧0 < n
theorem Ox.buildSlice{t e n len:Nat}{parts:Array (Nat × Operand)}{l:List (Nat × Value)}{z base cells:Array Value}(m:o.op = .buildSlice t len parts)(u:jd P t e n z)(q:mD st parts.toList=some l)(hlen:len * n≤16777216)
  (hb:(Array.range (len * n)).map (z[· % z.size]!)=base) (i:Instr.fill (λ j=>some (j * n,n)) base l=some cells) (hd:bA o.dst c.n)
  (h:∀ b,R b=none→(∀ x,(b,x) ∉ H)→∃ st',aA (bC o.dst (.slice (some ⟨b,0,none⟩) len len) st) st'∧C R ((b,.cells cells e)::H) st'):aS P B c o R H st C :=
 Ox.mem (s:=λ d=>Instr.buildSlice t len (parts.map λ (j,x)=>(j,d x))) (by rw [m]; rfl) hd (λ d=>by simp only [execOp,m]) (λ d y=>by
  subst hb
  obtain ⟨h1,h2,⟨z0,w,rfl⟩,h3,h4⟩:=u
  have p:(parts.map λ (j,x)=>(j,d x))=l.toArray:=by apply Array.ext'; simpa using xm y _ _ q
  rw [p]
  unfold Instr.buildSlice
  refine ah.cr (ah.underlying h1) (ah.cr h2 ?_)
  have hl:¬ (len * n > 2 ^ 24):=by omega
  simp only [hl,if_false]
  have last:aF P B R H (do let a ← newRow e cells; pure (.slice (some a) len len)) λ v R' H'=>∃ st',aA (bC o.dst v st) st'∧C R' H' st':=by
   simp only [newRow]
   exact aF.b9 (aF.b9 (aF.new λ b h1 h2=>aF.cf (aF.cf (h b h1 h2))))
  by_cases g:len * n=0
  ·simp only [g,if_true]
   refine ah.cr (ah.a0 _) ?_
   have r:∀ f:Nat→Value,(Array.range 0).map f=#[]:=λ f=>by simp [Array.range]
   simp only [g,r] at i ⊢
   simp only [i]
   exact last
  ·simp only [g,if_false]
   refine ah.cr w (ah.cr (ah.a0 _) ?_)
   simp only [i]
   exact last)
end
def aJ(R R':ax):Prop:=∀ b o,R b=some o→R' b=some o
theorem aJ.refl(R:ax):aJ R R:=λ _ _ h=>h
theorem aJ.trans{R R' bR:ax}(h:aJ R R')(k:aJ R' bR):aJ R bR:=λ b o x=>k b o (h b o x)
section
variable {P:Program} {B:Base} {main:Bool} (ab:Jd P B main)
def mT(c:Ctx)(S:ai)(ops:Array Oper)(i:Nat)(tmps:Array Value)(R:ax)(H:ai)(K:Array Value→ax→ai→Prop):Prop :=
 ∃ o,ops[i]? = some o∧fU o.op=false ∧
  ((Region.wanted o (yielded ops tmps)=false∧K (c7 o.dst undef tmps) R H) ∨
   (Region.wanted o (yielded ops tmps)=true ∧
   ((aF P B R H (execOp (aN c tmps []).eval o) λ nx R' H'=>∃ v,(nx = .value v∨(nx = .skip∧v=undef))∧aJ R R'∧(∀ p∈S,p∈H→p∈H')∧K (c7 o.dst v tmps) R' H') ∨
    (∃ f args,ah P (execOp (aN c tmps []).eval o) (.enter f args)∧aP ab f args R H λ v R' H'=>aJ R R'∧(∀ p∈S,p∈H→p∈H')∧K (c7 o.dst v tmps) R' H'))))
theorem J.given{R:ax}{H:ai}{g:Goroutine}(b:g.status = .running)(h:(∃ w,Fits B R H w)→ab.J R H g):ab.J R H g:=by
 by_cases hw:∃ w,Fits B R H w
 ·exact h hw
 ·exact ab.step b λ w a=>absurd ⟨w,a⟩ hw
def ga(ops:Array Oper)(rem:List Nat)(i:Nat):Bool:=match ops[i]? with
 | some o=>o.after.all λ e=>!Region.binds .any e || !rem.contains e.on
 | none=>false
def oh(c:Ctx)(S:Nat→ai)(ops:Array Oper)(Q:Array Value→ax→ai→Prop):Nat→List Nat→Array Value→ax→ai→Prop
 | 0,rem,t,R,H=>rem=[]∧Q t R H
 | n+1,rem,t,R,H=>(rem=[]∧Q t R H)∨(rem≠[]∧((∃ w,Fits B R H w)→∀ i∈rem,ga ops rem i=true→mT ab c (S i) ops i t R H λ t' R' H'=>oh c S ops Q n (rem.erase i) t' R' H'))
variable {ab}
def backward(ops:Array Oper):Bool:=(List.range ops.size).all λ i=>match ops[i]? with
 | some o=>o.after.all λ e=>!Region.binds .any e || decide (e.on < i)
 | none=>true
theorem Ah(c:Ctx)(tmps:Array Value)(todo:List Item):(aN c tmps todo).eval=(aN c tmps []).eval:=by
 funext x; cases x <;> rfl
theorem DY{c:Ctx}{S:ai}{ops:Array Oper}{i:Nat}{rest:List Nat}{k:List Item}{tmps:Array Value}{R:ax}{H:ai}{K:Array Value→ax→ai→Prop}(q:(c.kind == CallKind.early)=false)(h:mT ab c S ops i tmps R H K)
  (b:∀ t R' H',K t R' H'→ab.J R' H' (aO (aN c t (.inRegion ops rest::k)) c.cs)):ab.J R H (aO (aN c tmps (.inRegion ops (i::rest)::k)) c.cs):=by
 obtain ⟨o,ho,hd,h⟩:=h
 have d:(aN c tmps (.inRegion ops (i::rest)::k)).kind ≠ .early:=by show c.kind≠_; simpa using q
 rcases h with ⟨h1,h2⟩ | ⟨h1,h2 | ⟨f,args,h2,h3⟩⟩
 ·exact Jd.ctl rfl (λ w=>xH ho h1) (b _ _ _ h2)
 ·refine ab.step rfl λ w g=>?_
  obtain ⟨nx,w',R',H',e1,j,l,v,a,_,_,m⟩:=h2 w g
  refine ⟨aO (aN c (c7 o.dst v tmps) (.inRegion ops rest::k)) c.cs,w',seen P c.fn ((execOp (aN c tmps []).eval o).events P w #[]),R',H',?_,λ e he=>j e (mem_seen he),l,b _ _ _ m⟩
  rw [g7 ho h1 hd,← hx (rest:=rest) (k:=k) (c:=c) (tmps:=tmps) (v:=v) ho,Ah]
  rcases a with rfl | ⟨rfl,rfl⟩
  ·exact m0 d e1
  ·exact uI d e1
 ·refine ab.step rfl λ w g=>?_
  have a:=h2 w
  refine ⟨aO (Frame.enter P f args .normal) (aN c tmps (.inRegion ops (i::rest)::k)::c.cs),w,seen P c.fn ((execOp (aN c tmps []).eval o).events P w #[]),R,H,?_,?_,dg.refl g,h3 _ _ λ v R' H' r=>?_⟩
  ·rw [g7 ho h1 hd,Ah]
   exact pR rfl d a.1
  ·intro e p
   have:=mem_seen p
   rw [a.2] at this
   simp at this
  ·rw [hx ho]
   exact b _ _ _ r.2.2
def pE(ops:Array Oper)(listed:Array Bool)(rem:List Nat):Prop:=listed.size=ops.size∧rem.Nodup∧(∀ i,i∈rem↔(i < ops.size∧listed.getD i true=false))
theorem Ih{listed:Array Bool}{i j:Nat}{d:Bool}(hi:i < listed.size):(listed.setIfInBounds i true).getD j d=if i=j then true else listed.getD j d:=by
 simp only [Array.getD_eq_getD_getElem?]
 by_cases h:i=j
 ·subst h; simp [hi]
 ·rw [if_neg h,fN h]
theorem pE.erase{ops:Array Oper}{listed:Array Bool}{rem:List Nat}(h:pE ops listed rem){i:Nat}(hi:i∈rem):pE ops (listed.setIfInBounds i true) (rem.erase i):=by
 obtain ⟨h1,h2,h3⟩:=h
 have a:i < listed.size:=by rw [h1]; exact ((h3 i).1 hi).1
 refine ⟨by simp [h1],h2.erase _,λ j=>?_⟩
 rw [h2.mem_erase_iff,h3 j,Ih a]
 by_cases e:i=j
 ·subst e; simp
 ·simp [e,Ne.symm e]
theorem AS:∀ (l:List Nat),l≠[]→∃ m∈l,∀ x∈l,m≤x
 | [],h=>absurd rfl h
 | [a],_=>⟨a,by simp,by simp⟩
 | a::b::r,_=>by
  obtain ⟨m,hm,hl⟩:=AS (b::r) (by simp)
  by_cases h:a≤m
  ·exact ⟨a,by simp,λ x d=>by
    rcases cJ.1 d with rfl | d
    ·exact b6 _
    ·exact Nat.le_trans h (hl x d)⟩
  ·exact ⟨m,List.mem_cons_of_mem _ hm,λ x d=>by
    rcases cJ.1 d with rfl | d
    ·omega
    ·exact hl x d⟩
theorem yg{c:Ctx}{S:Nat→ai}{ops:Array Oper}{k:List Item}{Q:Array Value→ax→ai→Prop}(v:(c.kind == CallKind.early)=false)(hb:backward ops=true)
  (j:∀ t R H,Q t R H→ab.J R H (aO (aN c t k) c.cs)):∀ (fuel t:Nat) (listed:Array Bool) (acc:List Nat) (rem:List Nat) (tmps:Array Value) (R:ax) (H:ai),pE ops listed rem→rem.length≤fuel →
   oh ab c S ops Q fuel rem tmps R H→∃ is,Region.linearise.go .any ops fuel t listed acc=acc.reverse++is∧ab.J R H (aO (aN c tmps (.inRegion ops is::k)) c.cs)
 | 0,t,listed,acc,rem,tmps,R,H,_,_,h=>⟨[],by simp [Region.linearise.go],Jd.ctl rfl (λ w=>by simp [stepG,stepG.exec,aO,aN]) (j _ _ _ h.2)⟩
 | fuel+1,t,listed,acc,rem,tmps,R,H,b,hl,h=>by
  generalize g:((List.range ops.size).filter λ i=>!listed.getD i true && ((ops[i]?).map (·.after.all λ e=>!Region.binds .any e || listed.getD e.on false)).getD false)=rs
  have y:∀ i,i∈rs→i∈rem∧ga ops rem i=true:=by
   intro i hi
   rw [← g] at hi
   simp only [List.mem_filter,List.mem_range,cM,Bool.not_eq_true'] at hi
   obtain ⟨h1,h2,h3⟩:=hi
   refine ⟨(b.2.2 i).2 ⟨h1,h2⟩,?_⟩
   unfold ga
   cases ho:ops[i]? with
   | none=>simp [ho] at h3
   | some o =>
    simp only [ho,Option.map_some,gh,Array.all_eq_true_iff_forall_mem] at h3 ⊢
    intro e he
    have:=h3 e he
    rcases Bool.or_eq_true_iff.1 this with x | x
    ·simp [x]
    ·have q:e.on ∉ rem:=λ hm=>by
      have:=((b.2.2 e.on).1 hm).2
      have f:e.on < listed.size:=by rw [b.1]; exact ((b.2.2 e.on).1 hm).1
      simp only [Array.getD_eq_getD_getElem?,hc f,gh] at this x
      rw [x] at this; cases this
     simp [q]
  rcases h with ⟨rfl,I⟩ | ⟨G,A⟩
  ·have L:rs=[]:=by
    cases rs with
    | nil=>rfl
    | cons a r=>exact absurd (y a (by simp)).1 (by simp)
   refine ⟨[],?_,Jd.ctl rfl (λ w=>by simp [stepG,stepG.exec,aO,aN]) (j _ _ _ I)⟩
   unfold Region.linearise.go
   simp only [g,L]
   simp
  ·
   have M:rs≠[]:=by
    obtain ⟨m,hm,E⟩:=AS rem G
    have p:=((b.2.2 m).1 hm).1
    have:m∈rs:=by
     rw [← g]
     simp only [List.mem_filter,List.mem_range,cM,Bool.not_eq_true']
     refine ⟨p,((b.2.2 m).1 hm).2,?_⟩
     have ho:ops[m]? = some ops[m]:=hc p
     simp only [ho,Option.map_some,gh,Array.all_eq_true_iff_forall_mem]
     intro e he
     unfold backward at hb
     rw [List.all_eq_true] at hb
     have s:=hb m (List.mem_range.2 p)
     simp only [ho,Array.all_eq_true_iff_forall_mem] at s
     rcases Bool.or_eq_true_iff.1 (s e he) with x | x
     ·simp [x]
     ·have f:e.on < m:=by simpa using x
      have q:e.on ∉ rem:=λ F=>by have:=E _ F; omega
      have hl':e.on < listed.size:=by rw [b.1]; omega
      have h1:listed.getD e.on true=true:=by
       cases D:listed.getD e.on true with
       | true=>rfl
       | false=>exact absurd ((b.2.2 e.on).2 ⟨by omega,D⟩) q
      simp only [Array.getD_eq_getD_getElem?,hc hl',gh] at h1 ⊢
      simp [h1]
    intro e; rw [e] at this; cases this
   have hlen:t % rs.length < rs.length:=Nat.mod_lt _ (by
    cases rs with
    | nil=>exact absurd rfl M
    | cons _ _=>simp)
   have hi:rs[t % rs.length]? = some rs[t % rs.length]:=ez hlen
   generalize rs[t % rs.length]=i at hi
   obtain ⟨l,K⟩:=y i (List.mem_of_getElem? hi)
   have N:=λ hw=>A hw i l K
   have f:(rem.erase i).length≤fuel:=by rw [List.length_erase_of_mem l]; omega
   have hgo:∀ d,∃ is,Region.linearise.go .any ops fuel (t / rs.length) (listed.setIfInBounds i true) d=d.reverse++is:=λ d=>⟨_,linearise_go_acc .any ops fuel (t / rs.length) (listed.setIfInBounds i true) d⟩
   obtain ⟨is,u⟩:=hgo (i::acc)
   refine ⟨i::is,?_,?_⟩
   ·rw [Region.linearise.go]
    simp only [g,hi]
    rw [u]; simp
   ·refine J.given ab rfl λ hw=>?_
    refine DY v (N hw) λ t' R' H' z=>?_
    obtain ⟨O,h1,h2⟩:=yg v hb j fuel (t / rs.length) (listed.setIfInBounds i true) (i::acc) (rem.erase i) t' R' H' (b.erase l) f z
    rw [u] at h1
    have:is=O:=by simpa using h1
    rw [this]; exact h2
end
section
variable {P:Program} {B:Base} {main:Bool} {ab:Jd P B main}
def noSelect(o:Oper):Bool:=match o.op with | .select _ _=>false | _=>true
def looks(ops:Array Oper)(o:Oper):List Nat :=
 (o.op.operands.toList.filterMap λ | .tmp t=>some t | _=>none)++(match o.guard with | some (j,_)=>((ops[j]?).bind (·.dst)).toList | none=>[])
def pQ(ops:Array Oper)(a b:Oper):Bool :=
 (match a.dst with | some d=>!(looks ops b).contains d && b.dst != some d | none=>true) && (match b.dst with | some d=>!(looks ops a).contains d | none=>true)
theorem NK{a b:Option Tmp}{v u:Value}{t:Array Value}(h:∀ d,a=some d→b≠some d):c7 a v (c7 b u t)=c7 b u (c7 a v t):=by
 cases a with
 | none=>rfl
 | some x=>cases b with
  | none=>rfl
  | some y =>
   have f:x≠y:=λ e=>h x rfl (by rw [e])
   simp only [c7]
   exact Array.setIfInBounds_comm u v (Ne.symm f)
theorem Hk{c:Ctx}{t:Array Value}{dst:Option Tmp}{v:Value}{x:Operand}(h:∀ d,dst=some d→x ≠ .tmp d):(aN c (c7 dst v t) []).eval x=(aN c t []).eval x:=by
 cases dst with
 | none=>rfl
 | some d=>cases x with
  | tmp y =>
   have a:d≠y:=λ e=>h d rfl (by rw [e])
   simp only [aN,Frame.eval,c7,Array.getD_eq_getD_getElem?]
   rw [fN a]
  | _=>rfl
theorem Ai{c:Ctx}{ops:Array Oper}{t:Array Value}{dst:Option Tmp}{v:Value}{o:Oper}(a:noSelect o=true)(h:∀ d,dst=some d→d ∉ looks ops o):execOp (aN c (c7 dst v t) []).eval o=execOp (aN c t []).eval o:=by
 refine execOp_congr o (λ cs b e=>by rw [noSelect,e] at a; cases a) λ x f=>Hk λ d hd e=>h d hd ?_
 subst e
 unfold looks
 exact b5 _ (List.mem_filterMap.2 ⟨_,Array.mem_toList_iff.2 f,rfl⟩)
theorem DD{ops:Array Oper}{t:Array Value}{dst:Option Tmp}{v:Value}{o:Oper}(h:∀ d,dst=some d→d ∉ looks ops o):Region.wanted o (yielded ops (c7 dst v t))=Region.wanted o (yielded ops t):=by
 unfold Region.wanted
 cases a:o.guard with
 | none=>rfl
 | some g =>
  obtain ⟨j,want⟩:=g
  simp only [yielded]
  cases hd:(ops[j]?).bind (·.dst) with
  | none=>rfl
  | some d =>
   simp only [aG]
   cases dst with
   | none=>rfl
   | some d' =>
    have b:d'≠d:=λ e=>h d' rfl (by
     subst e
     unfold looks
     rw [a]
     exact e3 _ (by simp [hd]))
    simp only [c7]
    rw [fN b]
theorem yt{ops:Array Oper}{a b:Oper}(h:pQ ops a b=true):(∀ d,a.dst=some d→d ∉ looks ops b∧b.dst≠some d)∧(∀ d,b.dst=some d→d ∉ looks ops a):=by
 unfold pQ at h
 rw [cM] at h
 refine ⟨λ d hd=>?_,λ d hd=>?_⟩
 ·rw [hd] at h; simpa using h.1
 ·rw [hd] at h; simpa using h.2
theorem mT.c7{c:Ctx}{S:ai}{ops:Array Oper}{j:Nat}{oi e:Oper}{t:Array Value}{v:Value}{R:ax}{H:ai}{K1 K:Array Value→ax→ai→Prop}(w:ops[j]? = some e)(A:noSelect e=true)(s:pQ ops oi e=true){F:ai}(l:∀ p∈F,p∈H)(q:∀ p∈F,p∈S)
  (h:mT ab c S ops j (c7 oi.dst v t) R H K1) (i:∀ u R' H',aJ R R'→(∀ p∈F,p∈H')→K1 (Go.Lg.c7 e.dst u (Go.Lg.c7 oi.dst v t)) R' H'→K (Go.Lg.c7 e.dst u t) R' H'):mT ab c S ops j t R H K:=by
 obtain ⟨h1,h2⟩:=yt s
 obtain ⟨o,ho,hd,h⟩:=h
 obtain rfl:o=e:=ed (ho.symm.trans w)
 rw [DD (λ d hd=>(h1 d hd).1),Ai A (λ d hd=>(h1 d hd).1)] at h
 refine ⟨o,ho,hd,?_⟩
 rcases h with ⟨a,b⟩ | ⟨a,b | ⟨f,args,b,r⟩⟩
 ·exact .inl ⟨a,i _ _ _ (aJ.refl _) l b⟩
 ·exact .inr ⟨a,.inl (b.mono λ nx R' H' ⟨u,x,y,z,m⟩=>⟨u,x,y,z,i _ _ _ y (λ p g=>z p (q p g) (l p g)) m⟩)⟩
 ·exact .inr ⟨a,.inr ⟨f,args,b,r.mono λ u R' H' ⟨y,z,m⟩=>⟨y,z,i _ _ _ y (λ p g=>z p (q p g) (l p g)) m⟩⟩⟩
def yf(P:Program)(B:Base)(S:ai)(R:ax)(a:Operand→Value)(o:Oper)(v:Value):Prop :=
 ∀ R' H',aJ R R'→(∀ p∈S,p∈H')→aF P B R' H' (execOp a o) λ nx bR cq=>(nx = .value v∨(nx = .skip∧v=undef))∧bR=R'∧cq=H'
def g8(ops:Array Oper)(rem:List Nat)(i:Nat)(D:List Nat):Bool :=
 rem.contains i && ga ops rem i && !D.contains i && D.all (λ j=>rem.contains j && match ops[j]? with | some o=>o.after.any λ e=>Region.binds .any e && (e.on == i || D.contains e.on) | none=>false) &&
 (match ops[i]? with | some oi=>noSelect oi && rem.all (λ j=>j == i || D.contains j || match ops[j]? with | some a=>noSelect a && pQ ops oi a | none=>false) | none=>false)
theorem Pt{ops:Array Oper}{rem:List Nat}{i j:Nat}{D:List Nat}(h:g8 ops rem i D=true)(d:j≠i)(b:j ∉ D):g8 ops (rem.erase j) i D=true:=by
 unfold g8 at h ⊢
 simp only [cM,Bool.not_eq_true',List.all_eq_true,List.contains_iff_mem] at h ⊢
 obtain ⟨⟨⟨⟨h1,h2⟩,h3⟩,h4⟩,h5⟩:=h
 refine ⟨⟨⟨⟨(List.mem_erase_of_ne (Ne.symm d)).2 h1,?_⟩,h3⟩,λ x a=>⟨(List.mem_erase_of_ne (λ e=>b (by rw [← e]; exact a))).2 (h4 x a).1,(h4 x a).2⟩⟩,?_⟩
 ·unfold ga at h2 ⊢
  cases ho:ops[i]? with
  | none=>simp [ho] at h2
  | some o =>
   simp only [ho,Array.all_eq_true_iff_forall_mem] at h2 ⊢
   intro e he
   have:=h2 e he
   rcases Bool.or_eq_true_iff.1 this with x | x
   ·simp [x]
   ·have f:e.on ∉ rem:=by simpa using x
    have:e.on ∉ rem.erase j:=λ hm=>f (List.mem_of_mem_erase hm)
    simp [this]
 ·cases ho:ops[i]? with
  | none=>simp [ho] at h5
  | some oi =>
   simp only [ho,cM,List.all_eq_true] at h5 ⊢
   exact ⟨h5.1,λ x a=>h5.2 x (List.mem_of_mem_erase a)⟩
theorem yr{c:Ctx}{S:Nat→ai}{ops:Array Oper}{Q:Array Value→ax→ai→Prop}{i:Nat}{oi:Oper}{D:List Nat}{N:ai}{v:Value}(hi:ops[i]? = some oi)(hd:fU oi.op=false):∀ (n:Nat) (rem:List Nat) (t:Array Value) (R:ax) (H:ai),
  g8 ops rem i D=true→rem.Nodup→(∀ p∈N,p∈H)→(∀ j∈rem,j≠i→j ∉ D→∀ p∈N,p∈S j)→((Region.wanted oi (yielded ops t)=true∧yf P B N R (aN c t []).eval oi v)∨(Region.wanted oi (yielded ops t)=false∧v=undef))→oh ab c S ops Q n (rem.erase i) (c7 oi.dst v t) R H→oh ab c S ops Q (n+1) rem t R H:=by
 intro n
 induction n with
 | zero =>
  intro rem t R H l O A J F h
  unfold g8 at l
  simp only [cM,List.contains_iff_mem] at l
  have w:i∈rem:=l.1.1.1.1
  refine .inr ⟨(λ e=>by rw [e] at w; cases w),λ _ j q _=>?_⟩
  have g:j=i:=by
   by_cases e:j=i
   ·exact e
   ·exact absurd ((List.mem_erase_of_ne e).2 q) (by rw [h.1]; simp)
  subst g
  rcases F with ⟨hw,z⟩ | ⟨hw,rfl⟩
  ·exact ⟨oi,hi,hd,.inr ⟨hw,.inl ((z R H (aJ.refl _) A).mono λ nx R' H' ⟨e1,G,I⟩=>by subst G I; exact ⟨v,e1,aJ.refl _,(λ _ _ h=>h),h⟩)⟩⟩
  ·exact ⟨oi,hi,hd,.inl ⟨hw,h⟩⟩
 | succ n ao =>
  intro rem t R H l O A J F h
  have al:=l
  unfold g8 at l
  simp only [cM,List.contains_iff_mem,Bool.not_eq_true',List.all_eq_true] at l
  obtain ⟨⟨⟨⟨w,aq⟩,ap⟩,K⟩,y⟩:=l
  rw [hi] at y
  simp only [cM,List.all_eq_true] at y
  obtain ⟨af,y⟩:=y
  refine .inr ⟨(λ e=>by rw [e] at w; cases w),λ am j q s=>?_⟩
  by_cases g:j=i
  ·subst g
   rcases F with ⟨hw,z⟩ | ⟨hw,rfl⟩
   ·exact ⟨oi,hi,hd,.inr ⟨hw,.inl ((z R H (aJ.refl _) A).mono λ nx R' H' ⟨e1,G,I⟩=>by subst G I; exact ⟨v,e1,aJ.refl _,(λ _ _ h=>h),h⟩)⟩⟩
   ·exact ⟨oi,hi,hd,.inl ⟨hw,h⟩⟩
  ·
   have r:j ∉ D:=λ r=>by
    obtain ⟨_,f⟩:=K j r
    unfold ga at s
    cases ho:ops[j]? with
    | none=>simp [ho] at f
    | some o =>
     simp only [ho,Array.all_eq_true_iff_forall_mem] at s f
     rw [Array.any_eq_true'] at f
     obtain ⟨e,he,f⟩:=f
     have ag:=s e he
     rw [cM] at f
     have aa:e.on∈rem:=by
      rcases Bool.or_eq_true_iff.1 f.2 with x | x
      ·have:e.on=i:=by simpa using x
       rw [this]; exact w
      ·have an:e.on∈D:=by simpa using x
       exact (K _ an).1
     simp [f.1,aa] at ag
   have E:=y j q
   have ad:∃ m,ops[j]? = some m∧noSelect m=true∧pQ ops oi m=true:=by
    cases ho:ops[j]? with
    | none=>simp [g,r,ho] at E
    | some m=>simp [g,r,ho] at E; exact ⟨m,rfl,E.1,E.2⟩
   obtain ⟨m,T,ah,M⟩:=ad
   rcases h with ⟨he,_⟩ | ⟨_,ak⟩
   ·exact absurd ((List.mem_erase_of_ne g).2 q) (by rw [he]; simp)
   have ac:ga ops (rem.erase i) j=true:=by
    unfold ga at s ⊢
    simp only [T,Array.all_eq_true_iff_forall_mem] at s ⊢
    intro e he
    have:=s e he
    rcases Bool.or_eq_true_iff.1 this with x | x
    ·simp [x]
    ·have ae:e.on ∉ rem:=by simpa using x
     have:e.on ∉ rem.erase i:=λ hm=>ae (List.mem_of_mem_erase hm)
     simp [this]
   have aj:=ak am j ((List.mem_erase_of_ne g).2 q) ac
   obtain ⟨Z,L⟩:=yt M
   refine mT.c7 (oi:=oi) (v:=v) T ah M A (J j q g r) aj λ u R' H' V X U=>?_
   refine ao (rem.erase j) (c7 m.dst u t) R' H' (Pt al g r) (O.erase _) X (λ x f=>J x (List.mem_of_mem_erase f)) ?_ ?_
   ·rw [DD (λ d hd=>L d hd)]
    refine F.imp (λ ⟨hw,z⟩=>⟨hw,λ bR cq W Y=>?_⟩) id
    rw [Ai (ops:=ops) af (λ d hd=>L d hd)]
    exact z bR cq (V.trans W) Y
   ·rw [List.erase_comm,NK (a:=oi.dst) (b:=m.dst) (λ d hd=>(Z d hd).2)]
    exact U
variable {c:Ctx} {S:Nat→ai} {ops:Array Oper} {k:List Item} {R:ax} {H:ai} {st st':St} {rem:List Nat} {n:Nat}
def Any(ab:Jd P B main)(c:Ctx)(S:Nat→ai)(ops:Array Oper)(k:List Item)(n:Nat)(rem:List Nat)(R:ax)(H:ai)(st:St):Prop :=
 rem.Nodup∧∀ tmps,bV c.n st tmps→oh ab c S ops (λ t R H=>ab.J R H (aO (aN c t k) c.cs)) n rem tmps R H
theorem U.draw{id:Nat}{is:List Nat}{n:Nat}(S:Nat→ai)(hm:P.follows .mixedOrders=true)(d:(c.kind == CallKind.early)=false)(hb:backward ops=true)(e:ops.size=n)(b:List.range n=is)(h:Any ab c S ops k n is R H st):U ab c R H st (.code (.region id ops true)::k):=by
 intro tmps g
 subst e; subst b
 refine ab.step rfl λ w hw=>?_
 have a:pE ops (Array.replicate ops.size false) (List.range ops.size):=⟨by simp,List.nodup_range,λ i=>by
  simp only [List.mem_range,Array.getD_eq_getD_getElem?]
  constructor
  ·intro hi; exact ⟨hi,by simp [hi]⟩
  ·exact λ x=>x.1⟩
 have key:=λ t=>yg (ab:=ab) (k:=k) d hb (λ _ _ _ f=>f) ops.size t _ [] _ tmps R H a (by simp) (h.2 tmps g)
 obtain ⟨is,h1,h2⟩:=key (if (Question.order c.fn id).forced then 0 else (Question.order c.fn id).cut (w.tape w.drawn (.order c.fn id)))
 refine ⟨aO (aN c tmps (.inRegion ops is::k)) c.cs,{ w with drawn:=w.drawn+1 },#[],R,H,?_,by simp,⟨⟨hw.r,hw.h,hw.nd,hw.dj,hw.os,hw.tape,hw.out⟩,λ _ _ x=>x,b6 _,λ _ _ _=>rfl,λ _ _ x=>.inl x,λ _ o x=>.inl ⟨o,x⟩⟩,h2⟩
 simp only [Question.forced,fi,if_false,List.reverse_nil,List.nil_append] at h1
 simp [stepG,stepG.exec,aO,aN,choose,Sem.run,Question.forced,Region.schedule,hm,Region.linearise,h1]
theorem U.Fe{id:Nat}{is:List Nat}{n:Nat}(hm:P.follows .mixedOrders=true)(b:(c.kind == CallKind.early)=false)(hb:backward ops=true)(d:ops.size=n)(a:List.range n=is)(h:Any ab c (λ _=>H) ops k n is R H st):U ab c R H st (.code (.region id ops true)::k):=U.draw (λ _=>H) hm b hb d a h
theorem gS.po{o:Oper}{i:Nat}{tmps:Array Value}(h:gS ab c o R H st λ R' H' st'=>aJ R R'∧(∀ p∈S i,p∈H→p∈H')∧Any ab c S ops k n rem R' H' st')(ho:ops[i]? = some o)(hw:Region.wanted o (yielded ops tmps)=true)(a:bV c.n st tmps) :
  mT ab c (S i) ops i tmps R H λ t' R' H'=>oh ab c S ops (λ t R H=>ab.J R H (aO (aN c t k) c.cs)) n rem t' R' H':=by
 obtain ⟨hd,j,h | ⟨f,args,h1,h2⟩⟩:=h
 ·exact ⟨o,ho,hd,.inr ⟨hw,.inl ((h _ (a.knows c [])).mono λ nx R' H' ⟨v,l,st',g,d,e,b⟩=>⟨v,l,d,e,b.2 _ ((a.put v j).sub g)⟩)⟩⟩
 ·exact ⟨o,ho,hd,.inr ⟨hw,.inr ⟨f,args,h1 _ (a.knows c []),h2.mono λ v R' H' ⟨st',g,d,e,b⟩=>⟨d,e,b.2 _ ((a.put v j).sub g)⟩⟩⟩⟩
theorem Any.done(h:U ab c R H st k):Any ab c S ops k n [] R H st:=⟨List.nodup_nil,λ tmps a=>by
 cases n with
 | zero=>exact ⟨rfl,h tmps a⟩
 | succ n=>exact .inl ⟨rfl,h tmps a⟩⟩
theorem Any.take{i:Nat}{o:Oper}{v:Value}{N:ai}(D:List Nat)(ho:ops[i]? = some o)(r:g8 ops rem i D=true)(hd:fU o.op=false)(g:bA o.dst c.n)(hw:bQ ops st o=some true)(f:∀ j∈rem,j≠i→j ∉ D→∀ p∈N,p∈S j)(e:∀ p∈N,p∈H)(l:∀ d,Knows st d→yf P B N R d o v)(q:aA (bC o.dst v st) st')(b:rem.Nodup)
  {g5:List Nat} (m:rem.erase i=g5) (h:Any ab c S ops k n g5 R H st'):Any ab c S ops k (n+1) rem R H st:=by
 subst m
 exact ⟨b,λ tmps a=>yr ho hd n rem tmps R H r b e f (.inl ⟨e2 a hw,l _ (a.knows c [])⟩) (h.2 _ ((a.put v g).sub q))⟩
theorem Any.n6{i d:Nat}{o:Oper}{v:Value}{N:ai}(D:List Nat)(ho:ops[i]? = some o)(e:o.dst=some d)(hw:bQ ops st o=some true)(z:g8 ops rem i D=true)(t:∀ j∈rem,j≠i→j ∉ D→∀ p∈N,p∈S j)(b:∀ p∈N,p∈H)
  (f:∀ R' H',aJ R R'→(∀ p∈N,p∈H')→aS P B c o R' H' st λ R1 H1 l=>R1=R'∧H1=H'∧l=[(d,v)]) (y:aA ((d,v)::st) st') (w:rem.Nodup)
  {g5:List Nat} (x:rem.erase i=g5) (h:Any ab c S ops k n g5 R H st'):Any ab c S ops k (n+1) rem R H st:=by
 have a:=f R H (aJ.refl _) b
 refine Any.take (v:=v) D ho z a.1 a.2.1 hw t b (λ F E R' H' r s=>?_) (by rw [e]; exact y) w x h
 refine ((f R' H' r s).2.2 F E).mono λ nx bR cq ⟨u,hu,l,g,e1,m,q⟩=>?_
 subst q
 rw [e] at g
 have A:u=v:=by
  have:=g d v (by simp)
  simp only [bC,List.lookup_cons,beq_self_eq_true] at this
  exact ed this
 subst A
 exact ⟨hu,e1,m⟩
theorem Any.Ps{i:Nat}{o:Oper}(D:List Nat)(ho:ops[i]? = some o)(g:g8 ops rem i D=true)(hd:fU o.op=false)(d:bA o.dst c.n)(hw:bQ ops st o=some false)(f:aA (bC o.dst undef st) st')(a:rem.Nodup)
  {g5:List Nat} (e:rem.erase i=g5) (h:Any ab c S ops k n g5 R H st'):Any ab c S ops k (n+1) rem R H st:=by
 subst e
 exact ⟨a,λ tmps b=>yr (v:=undef) (N:=[]) ho hd n rem tmps R H g a (by simp) (by simp) (.inr ⟨e2 b hw,rfl⟩) (h.2 _ ((b.put undef d).sub f))⟩
theorem Any.one{i:Nat}{o:Oper}(ho:ops[i]? = some o)(a:rem.filter (ga ops rem)=[i])(hw:bQ ops st o=some true)(g:rem.Nodup){g5:List Nat}(l:rem.erase i=g5)
  (h:gS ab c o R H st λ R' H' st'=>aJ R R'∧(∀ p∈S i,p∈H→p∈H')∧Any ab c S ops k n g5 R' H' st'):Any ab c S ops k (n+1) rem R H st:=by
 subst l
 refine ⟨g,λ tmps b=>.inr ⟨(λ e=>by rw [e] at a; cases a),λ _ j d f=>?_⟩⟩
 have:j∈rem.filter (ga ops rem):=List.mem_filter.2 ⟨d,f⟩
 rw [a] at this
 obtain rfl:j=i:=by simpa using this
 exact h.po ho (e2 b hw) b
theorem IK{H H':ai}(h:∀ p∈H,p∈H'){X:ai}:∀ p∈H,p∈X→p∈H':=λ p a _=>h p a
end
section
variable {P:Program} {B:Base} {main:Bool} {ab:Jd P B main} {c:Ctx} {R:ax} {H H':ai} {st st':St} {k:List Item}
theorem uo{w:World}(a:List.Sublist H' H)(hw:Fits B R H w):dg B R H w R H' w :=
 ⟨⟨hw.r,λ b o h=>hw.h b o (a.subset h),(a.map _).nodup hw.nd,λ b o h=>hw.dj b o (a.subset h),hw.os,hw.tape,hw.out⟩,λ _ _ x=>x,b6 _,λ _ _ _=>rfl,λ _ _ x=>.inl x,λ _ o x=>.inl ⟨o,a.subset x⟩⟩
theorem U.bd{todo:List Item}(a:List.Sublist H' H)(h:U ab c R H' st todo):U ab c R H st todo:=U.ghost (λ _ hw=>uo a hw) h
theorem J.drop{g:Goroutine}(a:List.Sublist H' H)(h:ab.J R H' g):ab.J R H g:=ab.ghost (λ _ hw=>uo a hw) h
theorem xT{w:World}(a:List.Perm H' H)(hw:Fits B R H w):dg B R H w R H' w :=
 ⟨⟨hw.r,λ b o h=>hw.h b o (a.subset h),(a.map _).nodup_iff.2 hw.nd,λ b o h=>hw.dj b o (a.subset h),hw.os,hw.tape,hw.out⟩,λ _ _ x=>x,b6 _,λ _ _ _=>rfl,λ _ _ x=>.inl x,λ _ o x=>.inl ⟨o,a.subset x⟩⟩
theorem U.perm{todo:List Item}(a:List.Perm H' H)(h:U ab c R H' st todo):U ab c R H st todo:=U.ghost (λ _ hw=>xT a hw) h
theorem J.perm{g:Goroutine}(a:List.Perm H' H)(h:ab.J R H' g):ab.J R H g:=ab.ghost (λ _ hw=>xT a hw) h
def ax.ins(R:ax)(b:Nat)(o:Obj):ax:=λ x=>if x=b then some o else R x
theorem ax.IC(R:ax)(b:Nat)(o:Obj):R.ins b o b=some o:=by simp [ax.ins]
theorem ax.AA{R:ax}{b:Nat}{o:Obj}(h:R b=none):aJ R (R.ins b o):=λ x u a=>by
 unfold ax.ins
 split
 ·subst_vars; rw [h] at a; cases a
 ·exact a
theorem PF{w:World}{b:Nat}{o:Obj}(hw:Fits B R ((b,o)::H) w):dg B R ((b,o)::H) w (R.ins b o) H w:=by
 have hb:R b=none:=hw.dj b o (by simp)
 have d:=hw.nd
 rw [List.map_cons,List.nodup_cons] at d
 refine ⟨⟨λ x u a=>?_,λ x u a=>hw.h x u (by simp [a]),d.2,λ x u a=>?_,hw.os,hw.tape,hw.out⟩,ax.AA hb,b6 _,λ _ _ _=>rfl,λ x u a=>?_,λ x u a=>.inl ⟨u,by simp [a]⟩⟩
 ·unfold ax.ins at a
  split at a
  ·subst_vars; cases a; exact hw.h _ _ (by simp)
  ·exact hw.r x u a
 ·have f:x≠b:=λ e=>d.1 (List.mem_map.2 ⟨(x,u),a,e⟩)
  unfold ax.ins
  rw [if_neg f]
  exact hw.dj x u (by simp [a])
 ·unfold ax.ins at a
  split at a
  ·subst_vars; exact .inr (.inl ⟨o,by simp⟩)
  ·exact .inl a
theorem J.freeze{g:Goroutine}{b:Nat}{o:Obj}(h:∀ R',aJ R R'→R' b=some o→ab.J R' H g)(hb:R b=none):ab.J R ((b,o)::H) g :=
 ab.ghost (λ _ hw=>PF hw) (h _ (ax.AA hb) (ax.IC R b o))
theorem J.H7{fr:Frame}{cs:List Frame}{b:Nat}{o:Obj}(h:∀ R',aJ R R'→R' b=some o→ab.J R' H (aO fr cs)):ab.J R ((b,o)::H) (aO fr cs):=by
 cases hb:R b with
 | none=>exact J.freeze h hb
 | some x =>
  refine ab.step rfl λ w hw=>?_
  have:=hw.dj b o (by simp)
  rw [hb] at this
  cases this
theorem U.freeze{todo:List Item}{b:Nat}{o:Obj}(h:∀ R',aJ R R'→R' b=some o→U ab c R' H st todo):U ab c R ((b,o)::H) st todo :=
 λ tmps a=>J.H7 λ R' h1 h2=>h R' h1 h2 tmps a
theorem bV.CU{n t:Nat}{x:Value}{tmps:Array Value}(a:st.lookup t=some x)(h:bV n st tmps):bV n ((t,x)::st) tmps:=by
 refine ⟨h.1,λ u v hu=>?_⟩
 rw [List.lookup_cons] at hu
 split at hu
 ·rename_i heq
  have:u=t:=by simpa using heq
  subst this
  cases hu
  exact h.2 _ _ a
 ·exact h.2 u v hu
theorem U.loop{body:Code}(I:Nat→ax→ai→St→Prop)
  (e:∀ n R H st,I n R H st→(∀ m R' H' st',m < n→I m R' H' st'→U ab c R' H' st' (.inLoop body::k))→U ab c R H st (.code body :: .inLoop body::k))
  {n:Nat} (a:I n R H st):U ab c R H st (.code (.loop body)::k):=by
 have key:∀ n R H st,I n R H st→U ab c R H st (.code body :: .inLoop body::k):=by
  intro n
  induction n using Nat.strongRecOn with
  | ind n f=>exact λ R H st b=>e n R H st b λ m R' H' st' hm d=>U.inLoop (f m hm R' H' st' d)
 exact U.enterLoop (key n R H st a)
end
theorem Cell.mono{R R':ax}{H:ai}{a:Addr}{v:Value}(h:Cell R [] a v)(d:aJ R R'):Cell R' H a v:=by
 obtain ⟨h1,cs,e,b,h2,h3⟩:=h
 exact ⟨h1,cs,e,b,.inl (h2.elim (d _ _) (λ x=>by cases x)),h3⟩
theorem aH.up{R R':ax}{H:ai}{b o:Nat}{vs:List Value}(h:aH R [] b o vs)(a:aJ R R'):aH R' H b o vs:=λ j v d=>(h j v d).mono a
theorem aH.any{R:ax}{H:ai}{b o:Nat}{vs:List Value}(h:aH R [] b o vs):aH R H b o vs:=h.up (aJ.refl R)
theorem aH.one{R:ax}{H:ai}{b o j:Nat}{v:Value}{vs:List Value}(h:aH R H b o vs)(a:vs[j]? = some v):Cell R H ⟨b,o+j,none⟩ v:=h j v a
end Go.Lg
