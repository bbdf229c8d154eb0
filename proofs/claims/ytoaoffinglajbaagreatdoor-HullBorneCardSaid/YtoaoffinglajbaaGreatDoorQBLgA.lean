/- The base of a logic of goroutines in company. Conditions: none. -/
import Derived.Conc.Beside
import Derived.Conc.Events
import Derived.Conc.Listed
import Derived.Orders
namespace Go.Lg
theorem aD{α β:Type}(a:α)(f:α→Option β):(some a).bind f=f a:=rfl
theorem cm(n:Nat):((n:Int)).toNat=n:=rfl
theorem bT{α:Type}{a:α}{as:List α}(d:List α)(h:a∈as):a∈as++d:=List.mem_append_left d h
theorem bH{α:Type}{b:α}(as:List α){d:List α}(h:b∈d):b∈as++d:=List.mem_append_right as h
theorem ep{α:Type}{i:Nat}{a:α}{l:List α}:l[i]? = some a↔∃ h:i < l.length,l[i]=a:=List.getElem?_eq_some_iff
theorem eG{α:Type}{xs:Array α}{i j:Nat}(h:i≠j){a:α}:(xs.setIfInBounds i a)[j]? = xs[j]? := Array.getElem?_setIfInBounds_ne h
theorem e3{α:Type}{l:List α}{i:Nat}(h:i < l.length):l[i]? = some l[i]:=List.getElem?_eq_getElem h
theorem cr{p:Prop}[Decidable p](h:p):decide p=true:=decide_eq_true h
theorem cY{p:Prop}[Decidable p](h:¬p):decide p=false:=decide_eq_false h
theorem fB{α:Type}{xs:Array α}{i:Nat}{a:α}(h:i < xs.size):(xs.setIfInBounds i a)[i]? = some a:=Array.getElem?_setIfInBounds_self_of_lt h
theorem fC{α:Type}{l₁ iO:List α}{i:Nat}(h:l₁.length≤i):(l₁++iO)[i]? = iO[i - l₁.length]? := List.getElem?_append_right h
theorem eO{α:Type}(a b:α):(some a=some b)=(a=b):=Option.some.injEq a b
theorem ew{α:Type}{as d:List α}:(as++d).length=as.length+d.length:=List.length_append
theorem dn(a b:Bool):((a && b)=true)=(a=true∧b=true):=Bool.and_eq_true a b
theorem gK{α:Type}{i:Nat}{l:List α}:(List.take i l).length=min i l.length:=List.length_take
theorem ct(n:Nat):n≤n:=Nat.le_refl n
theorem eW:(¬True)=False:=not_true_eq_false
theorem ey{α:Type}{a b:α}(h:some a=some b):a=b:=Option.some.inj h
theorem fU{α:Type}{l₁ iO:List α}{i:Nat}(h:i < l₁.length):(l₁++iO)[i]? = l₁[i]? := List.getElem?_append_left h
theorem fq{α:Type}{i:Nat}{l:List α}{a:α}:l.getD i a=(l[i]?).getD a:=List.getD_eq_getElem?_getD
theorem hX{α:Type}{xs:Array α}{i:Nat}(h:i < xs.size):xs[i]? = some xs[i]:=Array.getElem?_eq_getElem h
theorem cO{α:Type}{a b:α}{l:List α}:a∈b::l↔a=b∨a∈l:=List.mem_cons
theorem ji:(true=false)=False:=Bool.true_eq_false
theorem gq:(false=true)=False:=Bool.false_eq_true
theorem hs{α:Type}{a b:α}:(some a).getD b=a:=rfl
open Go.Conc
abbrev ay:=Nat→Option Obj
abbrev aj:=List (Nat × Obj)
structure Base where
 os:Os
 tape:Nat→Question→Nat
 out:Array (Nat × ByteArray)
structure Fits (B:Base) (R:ay) (H:aj) (w:World):Prop where
 r:∀ b o,R b=some o→w.heap[b]? = some o
 h:∀ b o,(b,o)∈H→w.heap[b]? = some o
 nd:(H.map (·.1)).Nodup
 dj:∀ b o,(b,o)∈H→R b=none
 os:w.os=B.os
 tape:w.tape=B.tape
 out:w.output=B.out
theorem eQ{w:World}{b:Nat}{o:Obj}(h:w.heap[b]? = some o):b < w.heap.size:=(Array.getElem?_eq_some_iff.1 h).1
structure c5 (B:Base) (R:ay) (H:aj) (w:World) (R':ay) (H':aj) (w':World):Prop where
 fits:Fits B R' H' w'
 Ao:∀ b o,R b=some o→R' b=some o
 size:w.heap.size≤w'.heap.size
 same:∀ b,b < w.heap.size→(∀ o,(b,o) ∉ H)→w'.heap[b]? = w.heap[b]?
 oj:∀ b o,R' b=some o→R b=some o∨(∃ o',(b,o')∈H)∨w.heap.size≤b
 kh:∀ b o,(b,o)∈H'→(∃ o',(b,o')∈H)∨w.heap.size≤b
theorem c5.refl{B:Base}{R:ay}{H:aj}{w:World}(h:Fits B R H w):c5 B R H w R H w :=
 ⟨h,λ _ _ x=>x,ct _,λ _ _ _=>rfl,λ _ _ x=>.inl x,λ _ o x=>.inl ⟨o,x⟩⟩
theorem c5.trans{B:Base}{R R' bM:ay}{H H' b3:aj}{w w' f:World}(h:c5 B R H w R' H' w')(k:c5 B R' H' w' bM b3 f):c5 B R H w bM b3 f:=by
 refine ⟨k.fits,λ b o x=>k.Ao b o (h.Ao b o x),Nat.le_trans h.size k.size,λ b hb d=>?_,λ b o x=>?_,λ b o x=>?_⟩
 ·rw [k.same b (Nat.lt_of_lt_of_le hb h.size) (λ o g=>?_),h.same b hb d]
  rcases h.kh b o g with ⟨o',m⟩ | s
  ·exact d o' m
  ·omega
 ·rcases k.oj b o x with x | ⟨o',x⟩ | x
  ·exact h.oj b o x
  ·exact .inr (h.kh b o' x)
  ·exact .inr (.inr (Nat.le_trans h.size x))
 ·rcases k.kh b o x with ⟨o',x⟩ | x
  ·exact h.kh b o' x
  ·exact .inr (Nat.le_trans h.size x)
def lR(R:ay)(H:aj)(n:Nat)(write:Bool)(b:Nat):Prop:=(write=false∧(R b).isSome=true)∨(∃ o,(b,o)∈H)∨n≤b
def eP(R:ay)(H:aj)(n m:Nat)(e:Event):Prop :=
 match e.loc with
 | .cell a=>e.sync=false∧a.block < m∧lR R H n e.write a.block
 | .obj b=>e.sync=false∧b < m∧lR R H n e.write b
 | .mark .noRoom=>True
 | _=>False
theorem lR.up{B:Base}{R R':ay}{H H':aj}{w w':World}(h:c5 B R H w R' H' w'){wr:Bool}{b:Nat}(k:lR R' H' w'.heap.size wr b):lR R H w.heap.size wr b:=by
 rcases k with ⟨k1,k2⟩ | ⟨o,k⟩ | k
 ·obtain ⟨o,d⟩:=Option.isSome_iff_exists.1 k2
  rcases h.oj b o d with x | x | x
  ·exact .inl ⟨k1,by simp [x]⟩
  ·exact .inr (.inl x)
  ·exact .inr (.inr x)
 ·exact .inr (h.kh b o k)
 ·exact .inr (.inr (Nat.le_trans h.size k))
theorem eP.up{B:Base}{R R':ay}{H H':aj}{w w':World}(h:c5 B R H w R' H' w'){m:Nat}{e:Event}(k:eP R' H' w'.heap.size m e):eP R H w.heap.size m e:=by
 unfold eP at k ⊢
 split at k
 ·exact ⟨k.1,k.2.1,k.2.2.up h⟩
 ·exact ⟨k.1,k.2.1,k.2.2.up h⟩
 ·trivial
 ·exact k.elim
theorem eP.more{R:ay}{H:aj}{n m d:Nat}{e:Event}(hm:m≤d)(k:eP R H n m e):eP R H n d e:=by
 unfold eP at k ⊢
 split at k
 ·exact ⟨k.1,by omega,k.2.2⟩
 ·exact ⟨k.1,by omega,k.2.2⟩
 ·trivial
 ·exact k.elim
def aE{α:Type}(P:Program)(B:Base)(R:ay)(H:aj)(s:Sem α)(K:α→ay→aj→Prop):Prop :=
 ∀ w,Fits B R H w→∃ a w' R' H',s.run P w = .ok a w'∧(∀ e∈s.events P w #[],eP R H w.heap.size w'.heap.size e)∧c5 B R H w R' H' w'∧K a R' H'
section
variable {P:Program} {B:Base} {R:ay} {H:aj}
theorem aE.mono{α:Type}{s:Sem α}{K d:α→ay→aj→Prop}(h:aE P B R H s K)(z:∀ a R' H',K a R' H'→d a R' H'):aE P B R H s d:=by
 intro w hw
 obtain ⟨a,w',R',H',f,g,m,y⟩:=h w hw
 exact ⟨a,w',R',H',f,g,m,z _ _ _ y⟩
theorem aE.bR{α:Type}{a:α}{K:α→ay→aj→Prop}(h:K a R H):aE P B R H (Pure.pure a:Sem α) K :=
 λ w hw=>⟨a,w,R,H,rfl,by simp,c5.refl hw,h⟩
theorem aE.bK{α β:Type}{s:Sem α}{f:α→Sem β}{K:β→ay→aj→Prop}(h:aE P B R H s λ a R' H'=>aE P B R' H' (f a) K):aE P B R H (s >>= f) K:=by
 intro w hw
 obtain ⟨a,w',R',H',g,m,d,y⟩:=h w hw
 obtain ⟨b,z,bM,b3,k1,k2,k3,k4⟩:=y w' d.fits
 refine ⟨b,z,bM,b3,by simp [g,k1],λ e he=>?_,d.trans k3,k4⟩
 rw [Sem.events_bind,g,Result.evThen_ok,Sem.events_acc] at he
 rcases Array.mem_append.1 he with he | he
 ·exact (m e he).more k3.size
 ·exact (k2 e he).up d
theorem aE.map{α β:Type}{s:Sem α}{f:α→β}{K:β→ay→aj→Prop}(h:aE P B R H s λ a R' H'=>K (f a) R' H'):aE P B R H (f <$> s) K:=by
 intro w hw
 obtain ⟨a,w',R',H',d,g,m,y⟩:=h w hw
 exact ⟨f a,w',R',H',by simp [d],by simpa using g,m,y⟩
def al{α:Type}(P:Program)(s:Sem α)(a:α):Prop:=∀ w,s.run P w = .ok a w∧s.events P w #[]=#[]
theorem al.ok{α:Type}{s:Sem α}{a:α}{K:α→ay→aj→Prop}(h:al P s a)(d:K a R H):aE P B R H s K :=
 λ w hw=>⟨a,w,R,H,(h w).1,by rw [(h w).2]; simp,c5.refl hw,d⟩
theorem al.bc{α:Type}(a:α):al P (Pure.pure a:Sem α) a:=λ _=>⟨rfl,rfl⟩
theorem al.bj{α β:Type}{s:Sem α}{f:α→Sem β}{a:α}{b:β}(h:al P s a)(k:al P (f a) b):al P (s >>= f) b :=
 λ w=>⟨by simp [(h w).1,(k w).1],by rw [Sem.events_bind,(h w).1,(h w).2]; exact (k w).2⟩
theorem al.map{α β:Type}{s:Sem α}{f:α→β}{a:α}(h:al P s a):al P (f <$> s) (f a) :=
 λ w=>⟨by simp [(h w).1],by simpa using (h w).2⟩
theorem al.program:al P program P:=λ _=>⟨rfl,rfl⟩
theorem al.underlying{t:TypeId}{d:TypeDesc}(h:P.underlying t=some d):al P (underlying t) d:=λ w=>⟨by simp [Go.underlying,h],by simp⟩
theorem al.typeInfo{t:TypeId}{i:TypeInfo}(h:P.info? t=some i):al P (typeInfo t) i:=λ w=>⟨by simp [Go.typeInfo,h],by simp⟩
theorem al.bV{α β:Type}{s:Sem α}{f:α→Sem β}{a:α}{K:β→ay→aj→Prop}(h:al P s a)(d:aE P B R H (f a) K):aE P B R H (s >>= f) K :=
 aE.bK (h.ok d)
def Cell(R:ay)(H:aj)(a:Addr)(v:Value):Prop :=
 a.spot=none∧∃ cs e d,(R a.block=some (.cells cs e d)∨(a.block,Obj.cells cs e d)∈H)∧cs[a.off]? = some v
theorem Cell.at_{w:World}{a:Addr}{v:Value}(h:Cell R H a v)(hw:Fits B R H w):w.cell? a=some v:=by
 obtain ⟨s,cs,e,d,f,g⟩:=h
 have m:w.heap[a.block]? = some (.cells cs e d):=f.elim (hw.r _ _) (hw.h _ _)
 simp [World.cell?,m,s,g]
theorem Cell.touch{a:Addr}{v:Value}(h:Cell R H a v)(n:Nat):lR R H n false a.block:=by
 obtain ⟨_,cs,e,f,d,_⟩:=h
 rcases d with d | d
 ·exact .inl ⟨rfl,by simp [d]⟩
 ·exact .inr (.inl ⟨_,d⟩)
theorem GU{w:World}{a:Addr}{v:Value}(h:w.cell? a=some v):a.block < w.heap.size:=by
 unfold World.cell? at h
 split at h
 ·exact eQ ‹_›
 ·cases h
theorem aE.load{a:Addr}{v:Value}{K:Value→ay→aj→Prop}(h:Cell R H a v)(f:K v R H):aE P B R H (load a) K:=by
 intro w hw
 have d:=h.at_ hw
 refine ⟨v,w,R,H,by simp [d],?_,c5.refl hw,f⟩
 intro e he
 simp only [events_load,d] at he
 simp at he
 subst he
 exact ⟨rfl,GU d,h.touch _⟩
theorem aE.new{o:Obj}{K:Nat→ay→aj→Prop}(y:∀ r,R r=none→(∀ x,(r,x) ∉ H)→K r R ((r,o)::H)):aE P B R H (newObj o) K:=by
 intro w hw
 have g:R w.heap.size=none:=by
  cases h:R w.heap.size with
  | none=>rfl
  | some x=>exact absurd (eQ (hw.r _ _ h)) (Nat.lt_irrefl _)
 have f:∀ x,(w.heap.size,x) ∉ H:=λ x d=>absurd (eQ (hw.h _ _ d)) (Nat.lt_irrefl _)
 have m:∀ b (x:Obj),w.heap[b]? = some x→(w.heap.push o)[b]? = some x:=λ b x d=>by
  have:=eQ d
  rw [Array.getElem?_push]
  rw [if_neg (by omega)]; exact d
 refine ⟨w.heap.size,{ w with heap:=w.heap.push o },R,(w.heap.size,o)::H,by simp,by simp,⟨⟨?_,?_,?_,?_,hw.os,hw.tape,hw.out⟩,λ _ _ x=>x,by simp,?_,λ _ _ x=>.inl x,?_⟩,y _ g f⟩
 ·exact λ b x d=>m b x (hw.r b x d)
 ·intro b x d
  rcases cO.1 d with d | d
  ·cases d; simp
  ·exact m b x (hw.h b x d)
 ·rw [List.map_cons,List.nodup_cons]
  refine ⟨λ hm=>?_,hw.nd⟩
  obtain ⟨p,z,he⟩:=List.mem_map.1 hm
  have s:p.1=w.heap.size:=he
  exact f p.2 (by rw [← s]; exact z)
 ·intro b x d
  rcases cO.1 d with d | d
  ·cases d; exact g
  ·exact hw.dj b x d
 ·intro b hb _
  show (w.heap.push o)[b]? = _
  rw [Array.getElem?_push,if_neg (by omega)]
 ·intro b x d
  rcases cO.1 d with d | d
  ·cases d; exact .inr (ct _)
  ·exact .inl ⟨x,d⟩
inductive cU:aj→Nat→Obj→Obj→aj→Prop
 | here {b:Nat} {o o':Obj} {H:aj}:cU ((b,o)::H) b o o' ((b,o')::H)
 | there {b:Nat} {o o':Obj} {p:Nat × Obj} {H H':aj}:cU H b o o' H'→cU (p::H) b o o' (p::H')
theorem cU.keys{H H':aj}{b:Nat}{o o':Obj}(h:cU H b o o' H'):H'.map (·.1)=H.map (·.1):=by
 induction h with
 | here=>rfl
 | there _ d=>simp [d]
theorem cU.mem{H H':aj}{b:Nat}{o o':Obj}(h:cU H b o o' H'):(b,o)∈H:=by
 induction h with
 | here=>simp
 | there _ d=>exact List.mem_cons_of_mem _ d
theorem cU.old{H H':aj}{b:Nat}{o o':Obj}(h:cU H b o o' H')(f:(H.map (·.1)).Nodup):∀ c x,(c,x)∈H'→(c=b∧x=o')∨(c≠b∧(c,x)∈H):=by
 induction h with
 | @here b o o' H =>
  intro c x d
  rw [List.map_cons,List.nodup_cons] at f
  rcases cO.1 d with g | g
  ·cases g; exact .inl ⟨rfl,rfl⟩
  ·refine .inr ⟨λ e=>f.1 ?_,List.mem_cons_of_mem _ g⟩
   rw [← e]
   exact List.mem_map.2 ⟨(c,x),g,rfl⟩
 | @there b o o' p H H' m s =>
  intro c x d
  rw [List.map_cons,List.nodup_cons] at f
  rcases cO.1 d with d | d
  ·subst d
   refine .inr ⟨λ e=>f.1 ?_,by simp⟩
   simp only at e ⊢
   subst e
   exact List.mem_map.2 ⟨_,m.mem,rfl⟩
  ·exact (s f.2 c x d).imp id λ y=>⟨y.1,List.mem_cons_of_mem _ y.2⟩
theorem Fits.jX{H':aj}{b:Nat}{o o':Obj}{w:World}(hw:Fits B R H w)(h:cU H b o o' H') :
  c5 B R H w R H' { w with heap:=w.heap.setIfInBounds b o' }:=by
 have hb:w.heap[b]? = some o:=hw.h _ _ h.mem
 have m:=eQ hb
 have f:∀ c,c≠b→(w.heap.setIfInBounds b o')[c]? = w.heap[c]? := λ c g=>eG (by omega)
 refine ⟨⟨?_,?_,by rw [h.keys]; exact hw.nd,?_,hw.os,hw.tape,hw.out⟩,λ _ _ x=>x,by simp,?_,λ _ _ x=>.inl x,?_⟩
 ·intro c x d
  show (w.heap.setIfInBounds b o')[c]? = _
  rw [f c (λ e=>by subst e; have:=hw.dj _ _ h.mem; rw [d] at this; cases this)]
  exact hw.r c x d
 ·intro c x d
  show (w.heap.setIfInBounds b o')[c]? = _
  rcases h.old hw.nd c x d with ⟨rfl,rfl⟩ | ⟨g,d⟩
  ·rw [fB m]
  ·rw [f c g]; exact hw.h c x d
 ·intro c x d
  rcases h.old hw.nd c x d with ⟨rfl,_⟩ | ⟨_,d⟩
  ·exact hw.dj _ _ h.mem
  ·exact hw.dj c x d
 ·intro c _ s
  exact f c (λ e=>by subst e; exact s _ h.mem)
 ·intro c x d
  rcases h.old hw.nd c x d with ⟨rfl,_⟩ | ⟨_,d⟩
  ·exact .inl ⟨_,h.mem⟩
  ·exact .inl ⟨_,d⟩
theorem aE.store{a:Addr}{v:Value}{cs:Array Value}{e:TypeId}{H':aj}{K:Unit→ay→aj→Prop}(f:v.oneCell'=true)(g:a.spot=none)(z:a.off < cs.size)
  (d:cU H a.block (.cells cs e (0,0)) (.cells (cs.setIfInBounds a.off v) e (0,0)) H') (y:K () R H'):aE P B R H (store a v) K:=by
 intro w hw
 have hb:w.heap[a.block]? = some (.cells cs e (0,0)):=hw.h _ _ d.mem
 have m:w.cell? a=some cs[a.off]:=by simp [World.cell?,hb,g,z]
 have s:w.frozen? a=false:=by simp [World.frozen?,hb]
 have jX:w.setCell a v={ w with heap:=w.heap.setIfInBounds a.block (.cells (cs.setIfInBounds a.off v) e (0,0)) }:=by
  simp only [World.setCell]
  congr 1
  apply Array.ext_getElem?
  intro i
  rw [Array.getElem?_modify]
  by_cases hi:a.block=i
  ·subst hi
   rw [fB (eQ hb),hb]
   simp [g]
  ·simp [hi,eG hi]
 refine ⟨(),w.setCell a v,R,H',by rw [run_store P w a v _ f]; simp [m,s],?_,?_,y⟩
 ·intro e he
  rw [events_store P w #[] a v _ f] at he
  simp [m,s] at he
  subst he
  refine ⟨rfl,?_,.inr (.inl ⟨_,d.mem⟩)⟩
  simpa [World.setCell] using eQ hb
 ·rw [jX]; exact hw.jX d
def Obj.plain:Obj→Bool
 | .cells .. => false
 | .chan .. => false
 | _=>true
theorem aE.getObj{r:Nat}{o:Obj}{K:Obj→ay→aj→Prop}(s:Obj.plain o=true)(h:R r=some o∨(r,o)∈H)(g:K o R H):aE P B R H (getObj r) K:=by
 intro w hw
 have f:w.heap[r]? = some o:=h.elim (hw.r _ _) (hw.h _ _)
 have m:(Go.getObj r).run P w = .ok o w:=by
  cases o <;> simp_all [Obj.plain,Go.getObj,Sem.run]
 have d:(Go.getObj r).events P w #[]=#[⟨.obj r,false,false⟩]:=by
  cases o <;> simp_all [Obj.plain,Go.getObj,Sem.events,Sem.runT,Obj.isChan,-Sem.runT_eq]
 refine ⟨o,w,R,H,m,?_,c5.refl hw,g⟩
 intro e he
 rw [d] at he
 simp at he
 subst he
 exact ⟨rfl,eQ f,h.elim (λ x=>.inl ⟨rfl,by simp [x]⟩) (λ x=>.inr (.inl ⟨_,x⟩))⟩
theorem aE.setObj{r:Nat}{o o':Obj}{H':aj}{K:Unit→ay→aj→Prop}(y:Obj.plain o=true)(z:Obj.plain o'=true)(d:cU H r o o' H')(m:K () R H'):aE P B R H (setObj r o') K:=by
 intro w hw
 have g:w.heap[r]? = some o:=hw.h _ _ d.mem
 have s:(Go.setObj r o').run P w = .ok () { w with heap:=w.heap.setIfInBounds r o' }:=by
  cases o <;> simp_all [Obj.plain,Go.setObj,Sem.run]
 have f:(Go.setObj r o').events P w #[]=#[⟨.obj r,true,false⟩]:=by
  cases o <;> simp_all [Obj.plain,Go.setObj,Sem.events,Sem.runT,-Sem.runT_eq] <;> (cases o' <;> simp_all [Obj.isChan])
 refine ⟨(),_,R,H',s,?_,hw.jX d,m⟩
 intro e he
 rw [f] at he
 simp at he
 subst he
 exact ⟨rfl,by simpa using eQ g,.inr (.inl ⟨_,d.mem⟩)⟩
theorem aE.choose{q:Question}{K:Nat→ay→aj→Prop}(f:∀ t,K (if q.forced then 0 else q.cut t) R H):aE P B R H (choose q) K:=by
 intro w hw
 cases d:q.forced with
 | true =>
  have:=f 0
  rw [d] at this
  exact ⟨0,w,R,H,by simp [Go.choose,Sem.run,d],by simp,c5.refl hw,by simpa using this⟩
 | false =>
  have:=f (w.tape w.drawn q)
  rw [d] at this
  exact ⟨q.cut (w.tape w.drawn q),{ w with drawn:=w.drawn+1 },R,H,by simp [Go.choose,Sem.run,d],by simp,⟨⟨hw.r,hw.h,hw.nd,hw.dj,hw.os,hw.tape,hw.out⟩,λ _ _ x=>x,ct _,λ _ _ _=>rfl,λ _ _ x=>.inl x,λ _ o x=>.inl ⟨o,x⟩⟩,by simpa using this⟩
theorem aE.JH{K:Unit→ay→aj→Prop}(d:K () R H):aE P B R H (mark .noRoom) K :=
 λ w hw=>⟨(),w,R,H,rfl,by simp [eP],c5.refl hw,d⟩
theorem aE.shape{r:Nat}{K:Option (TypeId × Nat)→ay→aj→Prop}(d:∀ x,K x R H):aE P B R H (shape r) K :=
 λ w hw=>⟨_,w,R,H,rfl,by simp,c5.refl hw,d _⟩
end
structure Jd (P:Program) (B:Base) (main:Bool) where
 J:ay→aj→Goroutine→Prop
 step:∀ {R H g},g.status = .running→(∀ w,Fits B R H w→∃ g' w' es R' H',stepG P main g w = .go g' w' es∧(∀ e∈es,eP R H w.heap.size w'.heap.size e)∧c5 B R H w R' H' w'∧J R' H' g')→J R H g
 ghost:∀ {R H R' H' g},(∀ w,Fits B R H w→c5 B R H w R' H' w)→J R' H' g→J R H g
abbrev St:=List (Nat × Value)
structure Ctx where
 fn:FuncId
 kind:CallKind
 ro:Option Nat
 n:Nat
 defers:List Deferred
 cs:List Frame
def bk(fr:Frame)(cs:List Frame):Goroutine:={ frame:=fr,callers:=cs,status:=.running,dying:=none }
def bf(c:Ctx)(tmps:Array Value)(todo:List Item):Frame:={ fn:=c.fn,tmps,todo,defers:=c.defers,mode:=.run,kind:=c.kind,roundOf:=c.ro }
def eg(n:Nat)(st:St)(tmps:Array Value):Prop:=tmps.size=n∧∀ t v,st.lookup t=some v→tmps[t]? = some v
def cV(st:St):St→Prop
 | []=>True
 | p::r=>st.lookup p.1=some p.2∧cV st r
def aA(st aa:St):Prop:=∀ t v,aa.lookup t=some v→st.lookup t=some v
theorem cV.sub{st:St}:∀ {aa:St},cV st aa→aA st aa
 | [],_,_,_,h=>by cases h
 | p::r,d,t,v,h=>by
  rw [List.lookup_cons] at h
  split at h
  ·rename_i heq
   cases h
   have:t=p.1:=by simpa using heq
   subst this
   exact d.1
  ·exact cV.sub d.2 t v h
theorem aA.refl(st:St):aA st st:=λ _ _ h=>h
theorem eg.sub{n:Nat}{st aa:St}{tmps:Array Value}(h:eg n st tmps)(d:aA st aa):eg n aa tmps:=⟨h.1,λ t v x=>h.2 t v (d t v x)⟩
def bJ(dst:Option Tmp)(v:Value)(st:St):St:=match dst with | some d=>(d,v)::st | none=>st
theorem aA.put{dst:Option Tmp}{d:Tmp}{v:Value}{st:St}(h:dst=some d):aA (bJ dst v st) ((d,v)::st):=by subst h; exact aA.refl _
theorem aA.J0{dst:Option Tmp}{v:Value}{st:St}(h:dst=none):aA (bJ dst v st) st:=by subst h; exact aA.refl _
def dQ(dst:Option Tmp)(v:Value)(tmps:Array Value):Array Value:=match dst with | some d=>tmps.setIfInBounds d v | none=>tmps
def Cw(dst:Option Tmp)(n:Nat):Bool:=match dst with | some d=>Nat.blt d n | none=>true
def bQ(dst:Option Tmp)(n:Nat):Prop:=Cw dst n=true
theorem bQ.lt{d n:Nat}(h:bQ (some d) n):d < n:=by
 have:Nat.blt d n=true:=h
 simpa [Nat.blt_eq] using this
theorem eg.put{n:Nat}{st:St}{tmps:Array Value}(h:eg n st tmps){dst:Option Tmp}(v:Value)(f:bQ dst n):eg n (bJ dst v st) (dQ dst v tmps):=by
 cases dst with
 | none=>exact h
 | some d =>
  refine ⟨by simp [dQ,h.1],λ t u hu=>?_⟩
  have g:d < tmps.size:=by rw [h.1]; exact f.lt
  simp only [bJ,List.lookup_cons] at hu
  split at hu
  ·rename_i heq
   cases hu
   have:t=d:=by simpa using heq
   subst this
   simp [dQ,g]
  ·rename_i heq
   have m:t≠d:=by simpa using heq
   simp only [dQ]
   rw [eG (Ne.symm m)]
   exact h.2 t u hu
def a2(st:St):Operand→Option Value
 | .tmp t=>st.lookup t
 | .const v=>some v
 | .global g=>some (.pointer (some ⟨g,0,none⟩))
 | .func f=>some (.func (.func f) #[] #[])
def Knows(st:St)(d:Operand→Value):Prop:=∀ x v,a2 st x=some v→d x=v
theorem eg.knows{n:Nat}{st:St}{tmps:Array Value}(h:eg n st tmps)(c:Ctx)(todo:List Item):Knows st (bf c tmps todo).eval:=by
 intro x v d
 cases x with
 | tmp t =>
  have:=h.2 t v d
  simp [bf,Frame.eval,Array.getD_eq_getD_getElem?,this]
 | const u=>cases d; rfl
 | global g=>cases d; rfl
 | func f=>cases d; rfl
section
variable {P:Program} {B:Base} {main:Bool} (af:Jd P B main)
def U(c:Ctx)(R:ay)(H:aj)(st:St)(todo:List Item):Prop:=∀ tmps,eg c.n st tmps→af.J R H (bk (bf c tmps todo) c.cs)
variable {af} {c:Ctx} {R:ay} {H:aj} {st:St} {k:List Item}
theorem U.sub{aa:St}{todo:List Item}(d:aA st aa)(h:U af c R H aa todo):U af c R H st todo:=λ tmps f=>h tmps (f.sub d)
theorem U.ghost{R':ay}{H':aj}{todo:List Item}(d:∀ w,Fits B R H w→c5 B R H w R' H' w)(h:U af c R' H' st todo):U af c R H st todo:=λ tmps f=>af.ghost d (h tmps f)
theorem Jd.ctl{R:ay}{H:aj}{g g':Goroutine}(f:g.status = .running)(h:∀ w,stepG P main g w = .go g' w)(d:af.J R H g'):af.J R H g :=
 af.step f λ w hw=>⟨g',w,#[],R,H,h w,by simp,c5.refl hw,d⟩
theorem U.skip(h:U af c R H st k):U af c R H st (.code .skip::k):=λ tmps d=>Jd.ctl rfl (λ w=>by simp [stepG,stepG.exec,bk,bf]) (h tmps d)
theorem U.label{l:Nat}(h:U af c R H st k):U af c R H st (.code (.label l)::k):=λ tmps d=>Jd.ctl rfl (λ w=>by simp [stepG,stepG.exec,bk,bf]) (h tmps d)
theorem U.a0{id:Nat}(h:U af c R H st k):U af c R H st (.inBlock id::k):=λ tmps d=>Jd.ctl rfl (λ w=>by simp [stepG,stepG.exec,bk,bf]) (h tmps d)
theorem U.inScope{x:Code}(h:U af c R H st k):U af c R H st (.inScope x::k):=λ tmps d=>Jd.ctl rfl (λ w=>by simp [stepG,stepG.exec,bk,bf]) (h tmps d)
theorem U.seq{x y:Code}(h:U af c R H st (.code x :: .code y::k)):U af c R H st (.code (.seq x y)::k):=λ tmps d=>Jd.ctl rfl (λ w=>by simp [stepG,stepG.exec,bk,bf]) (h tmps d)
theorem U.aP{id:Nat}{x:Code}(h:U af c R H st (.code x :: .inBlock id::k)):U af c R H st (.code (.block id x)::k):=λ tmps d=>Jd.ctl rfl (λ w=>by simp [stepG,stepG.exec,bk,bf]) (h tmps d)
theorem U.scope{x:Code}(h:U af c R H st (.code x :: .inScope x::k)):U af c R H st (.code (.scope x)::k):=λ tmps d=>Jd.ctl rfl (λ w=>by simp [stepG,stepG.exec,bk,bf]) (h tmps d)
theorem U.enterLoop{x:Code}(h:U af c R H st (.code x :: .inLoop x::k)):U af c R H st (.code (.loop x)::k):=λ tmps d=>Jd.ctl rfl (λ w=>by simp [stepG,stepG.exec,bk,bf]) (h tmps d)
theorem U.inLoop{x:Code}(h:U af c R H st (.code x :: .inLoop x::k)):U af c R H st (.inLoop x::k):=λ tmps d=>Jd.ctl rfl (λ w=>by simp [stepG,stepG.exec,bk,bf]) (h tmps d)
theorem U.bw{id:Nat}{d:List Item}(he:exitTo id k=some d)(h:U af c R H st d):U af c R H st (.code (.exit id)::k):=λ tmps f=>Jd.ctl rfl (λ w=>by simp [stepG,stepG.exec,bk,bf,he]) (h tmps f)
theorem U.region{id:Nat}{ops:Array Oper}(h:U af c R H st (.inRegion ops (List.range ops.size)::k)):U af c R H st (.code (.region id ops false)::k):=λ tmps d=>Jd.ctl rfl (λ w=>by simp [stepG,stepG.exec,bk,bf]) (h tmps d)
theorem U.ds{ops:Array Oper}(h:U af c R H st k):U af c R H st (.inRegion ops []::k):=λ tmps d=>Jd.ctl rfl (λ w=>by simp [stepG,stepG.exec,bk,bf]) (h tmps d)
theorem U.cond{x:Operand}{th el:Code}{t:Bool}(m:a2 st x=some (.bool t))(f:t=true→U af c R H st (.code th::k))(g:t=false→U af c R H st (.code el::k)):U af c R H st (.code (.cond x th el)::k):=by
 intro tmps d
 have he:=d.knows c (.code (.cond x th el)::k) x _ m
 cases t with
 | true=>exact Jd.ctl rfl (λ w=>by simp only [bf] at he; simp [stepG,stepG.exec,bk,bf,he]) (f rfl tmps d)
 | false=>exact Jd.ctl rfl (λ w=>by simp only [bf] at he; simp [stepG,stepG.exec,bk,bf,he]) (g rfl tmps d)
theorem U.cond_true{x:Operand}{th el:Code}(d:a2 st x=some (.bool true))(h:U af c R H st (.code th::k)):U af c R H st (.code (.cond x th el)::k):=U.cond d (λ _=>h) (λ e=>by cases e)
theorem U.cond_false{x:Operand}{th el:Code}(d:a2 st x=some (.bool false))(h:U af c R H st (.code el::k)):U af c R H st (.code (.cond x th el)::k):=U.cond d (λ e=>by cases e) (λ _=>h)
def gA:Op→Bool
 | .defer _=>true
 | _=>false
theorem kr{tmps:Array Value}{ops:Array Oper}{i:Nat}{rest:List Nat}{o:Oper}{w:World}(f:ops[i]? = some o)(hw:Region.wanted o (yielded ops tmps)=true)(d:gA o.op=false) :
  stepG P main (bk (bf c tmps (.inRegion ops (i::rest)::k)) c.cs) w=stepG.apply P true (bf c tmps (.inRegion ops (i::rest)::k)) c.cs none (execOp (bf c tmps (.inRegion ops (i::rest)::k)).eval o) w:=by
 cases g:c.ro with
 | none=>simp [bk,stepG,stepG.exec,stepG.oper,Frame.oper?,bf,f,hw,g]
 | some l =>
  simp only [bk,stepG,stepG.exec,stepG.oper,Frame.oper?,bf,f,hw,g,Option.map_some,hs,if_true]
  split
  ·rename_i s m; rw [m] at d; cases d
  ·rfl
theorem AK{tmps:Array Value}{ops:Array Oper}{i:Nat}{rest:List Nat}{o:Oper}{w:World}(d:ops[i]? = some o)(hw:Region.wanted o (yielded ops tmps)=false) :
  stepG P main (bk (bf c tmps (.inRegion ops (i::rest)::k)) c.cs) w = .go (bk (bf c (dQ o.dst undef tmps) (.inRegion ops rest::k)) c.cs) w:=by
 simp only [bk,stepG,stepG.exec,bf,d,hw,Option.map_some,hs,Frame.finish,aD,dQ]
 cases o.dst <;> rfl
theorem jo{tmps:Array Value}{ops:Array Oper}{i:Nat}{rest:List Nat}{o:Oper}{v:Value}(d:ops[i]? = some o) :
  (bf c tmps (.inRegion ops (i::rest)::k)).finish v=bf c (dQ o.dst v tmps) (.inRegion ops rest::k):=by
 simp only [Frame.finish,bf,d,aD,dQ]
 cases o.dst <;> rfl
def cJ(ops:Array Oper)(st:St)(o:Oper):Option Bool :=
 match o.guard with
 | none=>some true
 | some (j,want)=>match ((ops[j]?).bind (·.dst)).bind (st.lookup ·) with
  | some (.bool b)=>some (b == want)
  | some (.tuple _)=>some false
  | _=>none
theorem gJ{n:Nat}{ops:Array Oper}{tmps:Array Value}{o:Oper}{b:Bool}(s:eg n st tmps)(h:cJ ops st o=some b):Region.wanted o (yielded ops tmps)=b:=by
 unfold cJ at h
 unfold Region.wanted
 split at h
 ·rename_i f; simp only [f]; exact ey h
 ·rename_i j want f
  simp only [f,yielded]
  cases m:(ops[j]?).bind (·.dst) with
  | none=>simp [m] at h
  | some d =>
   simp only [m,aD] at h ⊢
   cases g:st.lookup d with
   | none=>simp [g] at h
   | some v =>
    rw [g] at h
    rw [s.2 d v g]
    cases v <;> simp at h ⊢ <;> first | (rw [← h]; done) | exact h.symm | (subst h; rfl)
theorem sE{fr:Frame}{cs:List Frame}{s:Sem Next}{w w':World}{v:Value}(d:fr.kind ≠ .early)(g:s.run P w = .ok (.value v) w') :
  stepG.apply P true fr cs none s w = .go (bk (fr.finish v) cs) w' (seen P fr.fn (s.events P w #[])):=by
 have f:(fr.kind == CallKind.early)=false:=by simpa using d
 simp [stepG.apply,g,bk,f,GStep.after]
theorem sD{fr:Frame}{cs:List Frame}{s:Sem Next}{w w':World}(d:fr.kind ≠ .early)(g:s.run P w = .ok .skip w') :
  stepG.apply P true fr cs none s w = .go (bk (fr.finish undef) cs) w' (seen P fr.fn (s.events P w #[])):=by
 have f:(fr.kind == CallKind.early)=false:=by simpa using d
 simp [stepG.apply,g,bk,f,GStep.after]
theorem we{fr:Frame}{cs:List Frame}{s:Sem Next}{w w':World}{f:FuncId}{args:Array Value}{ops:Array Oper}{is:List Nat}{k:List Item}(y:fr.todo = .inRegion ops is::k)(d:fr.kind ≠ .early)(m:s.run P w = .ok (.enter f args) w') :
  stepG.apply P true fr cs none s w = .go (bk (Frame.enter P f args .normal) (fr::cs)) w' (seen P fr.fn (s.events P w #[])):=by
 have g:(fr.kind == CallKind.early)=false:=by simpa using d
 simp [stepG.apply,m,bk,g,GStep.after,y]
theorem U.op{ops:Array Oper}{i:Nat}{rest:List Nat}{o:Oper}(m:ops[i]? = some o)(hw:cJ ops st o=some true)(D:gA o.op=false)(g:c.kind ≠ .early)
  (h:∀ s,Knows st s→aE P B R H (execOp s o) λ nx R' H'=>∃ v,(nx = .value v∨(nx = .skip∧v=undef))∧bQ o.dst c.n∧∃ aa,aA (bJ o.dst v st) aa∧U af c R' H' aa (.inRegion ops rest::k)) :
  U af c R H st (.inRegion ops (i::rest)::k):=by
 intro tmps d
 refine af.step rfl λ w I=>?_
 obtain ⟨nx,w',R',H',f,y,z,v,G,E,aa,F,A⟩:=h _ (d.knows c _) w I
 refine ⟨bk (bf c (dQ o.dst v tmps) (.inRegion ops rest::k)) c.cs,w',seen P c.fn ((execOp (bf c tmps (.inRegion ops (i::rest)::k)).eval o).events P w #[]),R',H',?_,λ e he=>y e (mem_seen he),z,A _ ((d.put v E).sub F)⟩
 rw [kr m (gJ d hw) D,← jo (rest:=rest) (k:=k) (c:=c) (tmps:=tmps) (v:=v) m]
 rcases G with rfl | ⟨rfl,rfl⟩
 ·exact sE g f
 ·exact sD g f
theorem U.unwanted{ops:Array Oper}{i:Nat}{rest:List Nat}{o:Oper}{aa:St}(g:ops[i]? = some o)(hw:cJ ops st o=some false)(f:bQ o.dst c.n)(m:aA (bJ o.dst undef st) aa)
  (h:U af c R H aa (.inRegion ops rest::k)):U af c R H st (.inRegion ops (i::rest)::k) :=
 λ _ d=>Jd.ctl rfl (λ _=>AK g (gJ d hw)) (h _ ((d.put undef f).sub m))
def aL(af:Jd P B main)(f:FuncId)(args:Array Value)(R:ay)(H:aj)(bP:Value→ay→aj→Prop):Prop :=
 ∀ fr cs,(∀ v R' H',bP v R' H'→af.J R' H' (bk (fr.finish v) cs))→af.J R H (bk (Frame.enter P f args .normal) (fr::cs))
theorem aL.mono{f:FuncId}{args:Array Value}{bP d:Value→ay→aj→Prop}(h:aL af f args R H bP)(m:∀ v R' H',bP v R' H'→d v R' H'):aL af f args R H d :=
 λ fr cs g=>h fr cs λ v R' H' s=>g v R' H' (m v R' H' s)
theorem U.enters{ops:Array Oper}{i:Nat}{rest:List Nat}{o:Oper}{f:FuncId}{args:Array Value}{bP:Value→ay→aj→Prop}(g:ops[i]? = some o)(hw:cJ ops st o=some true)(z:gA o.op=false)(F:c.kind ≠ .early)(A:bQ o.dst c.n)
  (he:∀ s,Knows st s→al P (execOp s o) (.enter f args)) (E:aL af f args R H bP)
  (h:∀ v R' H',bP v R' H'→∃ aa,aA (bJ o.dst v st) aa∧U af c R' H' aa (.inRegion ops rest::k)) :
  U af c R H st (.inRegion ops (i::rest)::k):=by
 intro tmps d
 refine af.step rfl λ w J=>?_
 have m:=he _ (d.knows c (.inRegion ops (i::rest)::k)) w
 refine ⟨bk (Frame.enter P f args .normal) (bf c tmps (.inRegion ops (i::rest)::k)::c.cs),w,seen P c.fn ((execOp (bf c tmps (.inRegion ops (i::rest)::k)).eval o).events P w #[]),R,H,?_,?_,c5.refl J,E _ _ λ v R' H' G=>?_⟩
 ·rw [kr g (gJ d hw) z]
  exact we rfl F m.1
 ·intro e D
  have:=mem_seen D
  rw [m.2] at this
  simp at this
 ·obtain ⟨aa,I,y⟩:=h v R' H' G
  rw [jo g]
  exact y _ ((d.put v A).sub I)
def gM(af:Jd P B main)(c:Ctx)(o:Oper)(R:ay)(H:aj)(st:St)(C:ay→aj→St→Prop):Prop :=
 gA o.op=false∧bQ o.dst c.n ∧
  ((∀ d,Knows st d→aE P B R H (execOp d o) λ nx R' H'=>∃ v,(nx = .value v∨(nx = .skip∧v=undef))∧∃ aa,aA (bJ o.dst v st) aa∧C R' H' aa) ∨
   (∃ f args,(∀ d,Knows st d→al P (execOp d o) (.enter f args))∧aL af f args R H λ v R' H'=>∃ aa,aA (bJ o.dst v st) aa∧C R' H' aa))
def aJ(P:Program)(B:Base)(c:Ctx)(o:Oper)(R:ay)(H:aj)(st:St)(C:ay→aj→St→Prop):Prop :=
 gA o.op=false∧bQ o.dst c.n∧∀ d,Knows st d→aE P B R H (execOp d o) λ nx R' H'=>∃ v,(nx = .value v∨(nx = .skip∧v=undef))∧∃ aa,aA (bJ o.dst v st) aa∧C R' H' aa
theorem aJ.to{o:Oper}{C:ay→aj→St→Prop}(h:aJ P B c o R H st C):gM af c o R H st C:=⟨h.1,h.2.1,.inl h.2.2⟩
theorem U.step{ops:Array Oper}{i:Nat}{rest:List Nat}{o:Oper}(y:ops[i]? = some o)(hw:cJ ops st o=some true)(s:(c.kind == CallKind.early)=false)
  (h:gM af c o R H st λ R' H' aa=>U af c R' H' aa (.inRegion ops rest::k)):U af c R H st (.inRegion ops (i::rest)::k):=by
 obtain ⟨g,m,h | ⟨f,args,z,A⟩⟩:=h
 ·exact U.op y hw g (by simpa using s) λ F E=>(h F E).mono λ nx R' H' ⟨v,D,d⟩=>⟨v,D,m,d⟩
 ·exact U.enters y hw g (by simpa using s) m z A λ v R' H' d=>d
theorem U.cI{ops:Array Oper}{i:Nat}{rest:List Nat}{o:Oper}(f:ops[i]? = some o)(hw:cJ ops st o=some true)(d:(c.kind == CallKind.early)=false)
  (h:aJ P B c o R H st λ R' H' aa=>U af c R' H' aa (.inRegion ops rest::k)):U af c R H st (.inRegion ops (i::rest)::k):=U.step f hw d h.to
theorem U.eZ{id n:Nat}{is:List Nat}{ops:Array Oper}(f:ops.size=n)(d:List.range n=is)(h:U af c R H st (.inRegion ops is::k)):U af c R H st (.code (.region id ops false)::k):=by
 subst f; subst d; exact U.region h
def lU:Nat→List Value→St
 | _,[]=>[]
 | i,v::r=>(i,v)::lU (i+1) r
theorem qB:∀ (args:List Value) (i t:Nat) (v:Value),(lU i args).lookup t=some v→i≤t∧args[t - i]? = some v
 | [],_,_,_,h=>by cases h
 | a::r,i,t,v,h=>by
  simp only [lU,List.lookup_cons] at h
  split at h
  ·rename_i heq
   cases h
   have:t=i:=by simpa using heq
   subst this
   simp
  ·rename_i heq
   have g:t≠i:=by simpa using heq
   obtain ⟨f,d⟩:=qB r (i+1) t v h
   refine ⟨by omega,?_⟩
   have:t - i=(t - (i+1))+1:=by omega
   rw [this]
   simpa using d
theorem aL.rQ{f:FuncId}{fn:Func}{body:Code}{args:List Value}{n:Nat}{bP:Value→ay→aj→Prop}(m:P.funcs[f]? = some fn)(hb:fn.body=some body)(z:fn.ntmps=n)(g:Nat.ble args.length n=true)
  (h:∀ fr cs,(∀ v R' H',bP v R' H'→af.J R' H' (bk (fr.finish v) cs))→U af ⟨f,.normal,none,n,[],fr::cs⟩ R H (lU 0 args) [.code body]):aL af f args.toArray R H bP:=by
 subst z
 intro fr cs s
 have g:args.length≤fn.ntmps:=by simpa [Nat.ble_eq] using g
 have:=h fr cs s (args.toArray++Array.replicate (fn.ntmps - args.length) undef) ⟨by simp; omega,λ t v A=>?_⟩
 ·have e:Frame.enter P f args.toArray .normal=bf ⟨f,.normal,none,fn.ntmps,[],fr::cs⟩ (args.toArray++Array.replicate (fn.ntmps - args.length) undef) [.code body]:=by
   simp [Frame.enter,bf,m,hb]
  rw [e]
  exact this
 ·obtain ⟨_,d⟩:=qB args 0 t v A
  have y:t < args.length:=by
   have:=(ep.1 d).1
   simpa using this
  rw [Array.getElem?_append_left (by simpa using y)]
  simpa using d
def qd(st:St):List ResultVar→Option (List Value)
 | []=>some []
 | .tmp t::r=>match st.lookup t,qd st r with
  | some v,some vs=>some (v::vs)
  | _,_=>none
 | .cell _ _::_=>none
def hU:List Value→Value
 | [v]=>v
 | vs=>.tuple vs.toArray
theorem Bg{st:St}{tmps:Array Value}{n:Nat}(g:eg n st tmps):∀ (l:List ResultVar) (vs:List Value),qd st l=some vs →
  al P (l.mapM (m:=Sem) λ
   | .tmp t=>pure (tmps.getD t undef)
   | .cell a t=>do loadVar t (← asAddr (tmps.getD a undef))) vs
 | [],vs,h=>by cases h; exact al.bc _
 | .tmp t::r,vs,h=>by
  simp only [qd] at h
  cases d:st.lookup t with
  | none=>simp [d] at h
  | some v =>
   cases f:qd st r with
   | none=>simp [d,f] at h
   | some us =>
    simp only [d,f,eO] at h
    subst h
    rw [List.mapM_cons]
    refine al.bj (a:=v) ?_ (al.bj (Bg g r us f) (al.bc _))
    have:tmps.getD t undef=v:=by simp [Array.getD_eq_getD_getElem?,g.2 t v d]
    show al P (pure (tmps.getD t undef)) v
    rw [this]; exact al.bc _
 | .cell _ _::_,_,h=>by cases h
theorem Mh{fn:Func}{st:St}{tmps:Array Value}{n:Nat}{vs:List Value}(d:eg n st tmps)(h:qd st fn.results.toList=some vs):al P (results fn tmps) (hU vs):=by
 unfold results
 rw [← Array.toArray_toList (xs:=fn.results),List.mapM_toArray]
 refine al.bj (al.map (Bg d _ _ h)) ?_
 cases vs with
 | nil=>exact al.bc _
 | cons v r=>cases r with
  | nil=>exact al.bc _
  | cons _ _=>exact al.bc _
end
theorem h0(b o n:Nat):(⟨b,o,none⟩:Addr).add n=⟨b,o+n,none⟩:=by
 unfold Addr.add; split
 ·subst_vars; rfl
 ·rfl
def cM(P:Program)(s f off:Nat):Prop:=∀ b o:Nat,al P (Instr.fieldAt s (.pointer (some ⟨b,o,none⟩)) f) (.pointer (some ⟨b,o+off,none⟩))
def fs(P:Program)(t e n:Nat):Prop:=P.underlying t=some (.slice e)∧al P (sizeOf e) n
def jj(P:Program)(t len e n:Nat):Prop:=P.underlying t=some (.array len e)∧al P (sizeOf e) n
def BA(z:Int):Prop:=-9223372036854775808≤z∧z≤9223372036854775807
theorem Mq{z:Int}(h:BA z):IntKind.wrap .i64 z=z:=by
 obtain ⟨d,f⟩:=h
 simp only [IntKind.wrap,IntKind.bits,IntKind.signed]
 simp
 omega
section
variable {P:Program} {B:Base} {main:Bool} {af:Jd P B main} {c:Ctx} {R:ay} {H:aj} {st aa:St} {o:Oper} {C:ay→aj→St→Prop}
theorem Ox.val{v:Value}(g:gA o.op=false)(f:bQ o.dst c.n)
  (s:∀ d,Knows st d→al P (execOp d o) (.value v)) (m:aA (bJ o.dst v st) aa) (h:C R H aa):aJ P B c o R H st C :=
 ⟨g,f,λ d y=>(s d y).ok ⟨v,.inl rfl,aa,m,h⟩⟩
theorem Ox.e2{s:(Operand→Value)→Sem Value}{v:Value}(g:gA o.op=false)(f:bQ o.dst c.n)
  (he:∀ d,execOp d o=(do let x ← s d; pure (.value x))) (y:∀ d,Knows st d→al P (s d) v) (m:aA (bJ o.dst v st) aa) (h:C R H aa):aJ P B c o R H st C :=
 Ox.val g f (λ d z=>by rw [he]; exact al.bj (y d z) (al.bc _)) m h
theorem Ox.mem{s:(Operand→Value)→Sem Value}(g:gA o.op=false)(f:bQ o.dst c.n)
  (he:∀ d,execOp d o=(do let x ← s d; pure (.value x)))
  (y:∀ d,Knows st d→aE P B R H (s d) λ v R' H'=>∃ aa,aA (bJ o.dst v st) aa∧C R' H' aa):aJ P B c o R H st C :=
 ⟨g,f,λ d z=>by
  rw [he]
  exact aE.bK ((y d z).mono λ v R' H' ⟨aa,m,h⟩=>aE.bR ⟨v,.inl rfl,aa,m,h⟩)⟩
theorem Ox.od{s:(Operand→Value)→Sem Unit}(g:gA o.op=false)(f:o.dst=none)
  (he:∀ d,execOp d o=(do s d; pure .skip)) (m:aA st aa)
  (y:∀ d,Knows st d→aE P B R H (s d) λ _ R' H'=>C R' H' aa):aJ P B c o R H st C :=
 ⟨g,by rw [f]; rfl,λ d z=>by
  rw [he]
  exact aE.bK ((y d z).mono λ v R' H' h=>aE.bR ⟨undef,.inr ⟨rfl,rfl⟩,aa,by rw [f]; exact m,h⟩)⟩
theorem Ox.move{x:Operand}{v:Value}(d:o.op = .move x)(m:a2 st x=some v)(f:bQ o.dst c.n)
  (g:aA (bJ o.dst v st) aa) (h:C R H aa):aJ P B c o R H st C :=
 Ox.val (by rw [d]; rfl) f (λ y s=>by simp only [execOp,d,s x v m]; exact al.bc _) g h
theorem Ox.assign{x:Operand}{v:Value}(d:o.op = .assign x)(m:a2 st x=some v)(f:bQ o.dst c.n)
  (g:aA (bJ o.dst v st) aa) (h:C R H aa):aJ P B c o R H st C :=
 Ox.val (by rw [d]; rfl) f (λ y s=>by simp only [execOp,d,s x v m]; exact al.bc _) g h
theorem Ox.Kj{x y z:Operand}{v:Value}(d:o.op = .pick x y z)(s:a2 st x=some (.bool true))(A:a2 st y=some v)(g:bQ o.dst c.n)
  (m:aA (bJ o.dst v st) aa) (h:C R H aa):aJ P B c o R H st C :=
 Ox.val (by rw [d]; rfl) g (λ D f=>by
  simp only [execOp,d,f x _ s,f y v A,asBool]
  exact al.bj (al.bc true) (al.bc _)) m h
theorem Ox.Ki{x y z:Operand}{v:Value}(d:o.op = .pick x y z)(s:a2 st x=some (.bool false))(A:a2 st z=some v)(g:bQ o.dst c.n)
  (m:aA (bJ o.dst v st) aa) (h:C R H aa):aJ P B c o R H st C :=
 Ox.val (by rw [d]; rfl) g (λ D f=>by
  simp only [execOp,d,f x _ s,f z v A,asBool]
  exact al.bj (al.bc false) (al.bc _)) m h
theorem Ox.fieldAddr{x:Operand}{s f off b n:Nat}(g:o.op = .fieldAddr s x f)(A:a2 st x=some (.pointer (some ⟨b,n,none⟩)))(y:cM P s f off)(m:bQ o.dst c.n)
  (z:aA (bJ o.dst (.pointer (some ⟨b,n+off,none⟩)) st) aa) (h:C R H aa):aJ P B c o R H st C :=
 Ox.e2 (s:=λ d=>Instr.fieldAt s (d x) f) (by rw [g]; rfl) m (λ d=>by simp only [execOp,g]) (λ d D=>by rw [D x _ A]; exact y b n) z h
theorem vF{t e n b m len cap:Nat}{kd:IntKind}{j:Nat}(d:fs P t e n)(g:j < len) :
  al P (Instr.indexAt t (.slice (some ⟨b,m,none⟩) len cap) (.int kd (j:Int))) (.pointer (some ⟨b,m+j * n,none⟩)):=by
 unfold Instr.indexAt
 refine al.bj (a:=(kd,(j:Int))) (al.bc _) (al.bj (al.underlying d.1) (al.bj (a:=(some (⟨b,m,none⟩:Addr),len,e)) (al.bc _) (al.bj (al.underlying d.1) ?_)))
 have f:(0:Int)≤(j:Int)∧(j:Int) < (len:Int):=by omega
 simp only [f,and_self,if_true,cm]
 refine al.bj d.2 ?_
 rw [h0]
 exact al.bc _
theorem Mg{t e n b m len:Nat}{kd:IntKind}{j:Nat}(d:jj P t len e n)(g:j < len) :
  al P (Instr.indexAt t (.pointer (some ⟨b,m,none⟩)) (.int kd (j:Int))) (.pointer (some ⟨b,m+j * n,none⟩)):=by
 unfold Instr.indexAt
 refine al.bj (a:=(kd,(j:Int))) (al.bc _) (al.bj (al.underlying d.1) (al.bj (a:=(⟨b,m,none⟩:Addr)) (al.bc _) (al.bj (a:=(some (⟨b,m,none⟩:Addr),len,e)) (al.bc _) (al.bj (al.underlying d.1) ?_))))
 have f:(0:Int)≤(j:Int)∧(j:Int) < (len:Int):=by omega
 simp only [f,and_self,if_true,cm]
 refine al.bj d.2 ?_
 rw [h0]
 exact al.bc _
theorem mX(op:BinOp)(t:TypeId)(x y:Operand)(ka kb:IntKind)(a b:Int):al P (eqGuard op t x y (.int ka a) (.int kb b)) ():=by
 unfold eqGuard
 cases op <;> exact al.bc _
def s9:BinOp→Int→Int→Option Bool
 | .eql,x,y=>some (x == y)
 | .neq,x,y=>some (x != y)
 | .lss,x,y=>some (decide (x < y))
 | .leq,x,y=>some (decide (x≤y))
 | .gtr,x,y=>some (decide (x > y))
 | .geq,x,y=>some (decide (x ≥ y))
 | _,_,_=>none
theorem Ox.cmp{x y:Operand}{f:BinOp}{t u:TypeId}{a b:Int}{kd:IntKind}{r:Bool}(g:o.op = .binOp f t x y u)(E:a2 st x=some (.int kd a))(F:a2 st y=some (.int kd b))(m:s9 f a b=some r)
  (A:bQ o.dst c.n) (D:aA (bJ o.dst (.bool r) st) aa) (h:C R H aa):aJ P B c o R H st C :=
 Ox.e2 (s:=λ d=>do eqGuard f t x y (d x) (d y); binOp f t (d x) (d y)) (by rw [g]; rfl) A (λ d=>by simp only [execOp,g]) (λ d z=>by
  rw [z x _ E,z y _ F]
  refine al.bj (mX _ _ _ _ _ _ _ _) ?_
  cases f <;> simp only [s9,eO,reduceCtorEq] at m <;> subst m <;> simp only [binOp,ne_eq,eW,if_false] <;> exact al.bc _) D h
def sF:BinOp→Int→Int→Option Int
 | .add,x,y=>some (x+y)
 | .sub,x,y=>some (x - y)
 | .mul,x,y=>some (x * y)
 | _,_,_=>none
theorem Ox.not{x:Operand}{t:TypeId}{a:Bool}(f:o.op = .unOp .not t x)(y:a2 st x=some (.bool a))
  (g:bQ o.dst c.n) (m:aA (bJ o.dst (.bool (!a)) st) aa) (h:C R H aa):aJ P B c o R H st C :=
 Ox.e2 (s:=λ d=>Op.unary .not (d x)) (by rw [f]; rfl) g (λ d=>by simp only [execOp,f]) (λ d z=>by rw [z x _ y]; exact al.bc _) m h
theorem Ox.extract{x:Operand}{j:Nat}{vs:Array Value}{v:Value}(f:o.op = .extract x j)(z:a2 st x=some (.tuple vs))(m:vs[j]? = some v)
  (g:bQ o.dst c.n) (y:aA (bJ o.dst v st) aa) (h:C R H aa):aJ P B c o R H st C :=
 Ox.e2 (s:=λ d=>Instr.extract (d x) j) (by rw [f]; rfl) g (λ d=>by simp only [execOp,f]) (λ d A=>by
  rw [A x _ z]
  simp only [Instr.extract,m]; exact al.bc _) y h
theorem Ox.makeFunc{fn:Fn}{first captured:Array Operand}{vs us:Array Value}(y:o.op = .makeFunc fn first captured)(A:first.toList.mapM (a2 st)=some vs.toList)(D:captured.toList.mapM (a2 st)=some us.toList)
  (E:bQ o.dst c.n) (F:aA (bJ o.dst (.func fn vs us) st) aa) (h:C R H aa):aJ P B c o R H st C :=
 Ox.e2 (s:=λ f=>Instr.makeFunc fn (first.map f) (captured.map f)) (by rw [y]; rfl) E (λ f=>by simp only [execOp,y]) (λ f G=>by
  have key:∀ (l:List Operand) (r:List Value),l.mapM (a2 st)=some r→l.map f=r:=by
   intro l
   induction l with
   | nil=>intro r d; simpa using d
   | cons a l I =>
    intro r d
    rw [List.mapM_cons] at d
    cases g:a2 st a with
    | none=>simp [g] at d
    | some u =>
     cases m:l.mapM (a2 st) with
     | none=>simp [g,m] at d
     | some us =>
      simp [g,m] at d
      subst d
      simp [G a u g,I us m]
  have e1:first.map f=vs:=by apply Array.ext'; simpa using key _ _ A
  have z:captured.map f=us:=by apply Array.ext'; simpa using key _ _ D
  rw [e1,z]
  exact al.bc _) F h
theorem Ox.len{x:Operand}{t e:TypeId}{a:Option Addr}{n cap:Nat}(d:o.op = .call ⟨.builtin .len,#[x],#[t]⟩)(y:a2 st x=some (.slice a n cap))(s:P.underlying t=some (.slice e))
  (g:bQ o.dst c.n) (m:aA (bJ o.dst (.int .i64 (n:Int)) st) aa) (h:C R H aa):aJ P B c o R H st C :=
 Ox.val (by rw [d]; rfl) g (λ f z=>by
  simp only [execOp,d]
  refine al.bj (a:=⟨.builtin .len #[t] o.type (#[x].map λ | .const _=>true | _=>false),#[x].map f⟩) (al.bc _) ?_
  simp only [invoke,builtin]
  refine al.bj (a:=.int .i64 (n:Int)) ?_ (al.bc _)
  have e:(#[x].map f)=#[.slice a n cap]:=by simp [z x _ y]
  rw [e]
  exact al.bj (al.underlying s) (al.bc _)) m h
theorem Ox.pe{x:Operand}{t:TypeId}{s:ByteArray}(d:o.op = .call ⟨.builtin .len,#[x],#[t]⟩)(z:a2 st x=some (.string s))(y:P.underlying t=some .string)
  (g:bQ o.dst c.n) (m:aA (bJ o.dst (.int .i64 (s.size:Int)) st) aa) (h:C R H aa):aJ P B c o R H st C :=
 Ox.val (by rw [d]; rfl) g (λ f A=>by
  simp only [execOp,d]
  refine al.bj (a:=⟨.builtin .len #[t] o.type (#[x].map λ | .const _=>true | _=>false),#[x].map f⟩) (al.bc _) ?_
  simp only [invoke,builtin]
  refine al.bj (a:=.int .i64 (s.size:Int)) ?_ (al.bc _)
  have e:(#[x].map f)=#[.string s]:=by simp [A x _ z]
  rw [e]
  exact al.bj (al.underlying y) (al.bc _)) m h
theorem vD{f:FuncId}{fn:Func}{args:Array Value}(d:P.funcs[f]? = some fn)(g:(fn.name == "runtime.NumGoroutine")=false)(hb:fn.body.isNone=false):al P (callFunc f args) (.enter f args):=by
 unfold callFunc
 refine al.bj al.program ?_
 simp only [d,g,hb]
 exact al.bc _
structure aT (P:Program) (f:FuncId):Prop where
 ex:∃ fn,P.funcs[f]? = some fn∧(fn.name == "runtime.NumGoroutine")=false∧fn.body.isNone=false
def iD(st:St):List Operand→Option (List Value)
 | []=>some []
 | x::r=>match a2 st x,iD st r with
  | some v,some vs=>some (v::vs)
  | _,_=>none
theorem oT{st:St}{m:Operand→Value}(g:Knows st m):∀ (l:List Operand) (r:List Value),iD st l=some r→l.map m=r
 | [],r,h=>by cases h; rfl
 | x::l,r,h=>by
  simp only [iD] at h
  cases d:a2 st x with
  | none=>simp [d] at h
  | some v =>
   cases f:iD st l with
   | none=>simp [d,f] at h
   | some vs =>
    simp [d,f] at h
    subst h
    simp [g x v d,oT g l vs f]
theorem Ox.b5{d:Call}{x:Operand}{f:FuncId}{first captured:Array Value}{vs:List Value}{args:Array Value}
  (g:o.op = .call d) (E:d.callee = .value x) (I:a2 st x=some (.func (.func f) first captured)) (A:iD st d.args.toList=some vs) (he:aT P f) (D:first++vs.toArray++captured=args)
  (F:bQ o.dst c.n) (G:aL af f args R H λ v R' H'=>∃ aa,aA (bJ o.dst v st) aa∧C R' H' aa):gM af c o R H st C :=
 ⟨by rw [g]; rfl,F,.inr ⟨f,args,λ J m=>by
  obtain ⟨fn,s,y,z⟩:=he.ex
  simp only [execOp,g,resolve,E,m x _ I,Deferred.ofValue]
  have e:d.args.map J=vs.toArray:=by apply Array.ext'; simpa using oT m _ _ A
  refine al.bj (a:=⟨.fn (.func f) captured,first++vs.toArray⟩) (by rw [e]; exact al.bc _) ?_
  simp only [invoke,D]
  exact vD s y z,G⟩⟩
end
def dH(P:Program)(t:TypeId)(cs:Array Value):Prop:=∃ z,al P (zeroValue t) z∧z.cells=cs
def dr(P:Program)(t:TypeId):Prop:=al P (isAgg t) false∧al P (sizeOf t) 1
def ek(P:Program)(t:TypeId)(n:Nat):Prop:=al P (isAgg t) true∧al P (sizeOf t) n
def aK(R:ay)(H:aj)(b o:Nat)(vs:List Value):Prop:=∀ j v,vs[j]? = some v→Cell R H ⟨b,o+j,none⟩ v
theorem aK.known{R:ay}{H:aj}{b o n:Nat}{cs:Array Value}{e:TypeId}{f:Nat × Nat}{vs:List Value}(hm:R b=some (Obj.cells cs e f))(g:(cs.toList.drop o).take n=vs):aK R H b o vs:=by
 intro j v d
 refine ⟨rfl,cs,e,f,.inl hm,?_⟩
 subst g
 rw [List.getElem?_take] at d
 split at d
 ·rw [List.getElem?_drop] at d
  simpa using d
 ·cases d
def dD(cs:Array Value):Nat→List Value→Array Value
 | _,[]=>cs
 | o,v::r=>dD (cs.setIfInBounds o v) (o+1) r
theorem qb:∀ (vs:List Value) (cs:Array Value) (o:Nat),(dD cs o vs).size=cs.size
 | [],_,_=>rfl
 | v::r,cs,o=>by simp only [dD]; rw [qb r]; simp
theorem cU.mid{H H1 H':aj}{b:Nat}{o o' f:Obj}(h:cU H b o o' H1)(k:cU H b o f H')(d:(H.map (·.1)).Nodup):cU H1 b o' f H':=by
 induction h generalizing H' with
 | @here b o o' H =>
  cases k with
  | here=>exact .here
  | there k =>
   rw [List.map_cons,List.nodup_cons] at d
   exact absurd (List.mem_map.2 ⟨_,k.mem,rfl⟩) d.1
 | @there b o o' p H H1 g m =>
  cases k with
  | here =>
   rw [List.map_cons,List.nodup_cons] at d
   exact absurd (List.mem_map.2 ⟨_,g.mem,rfl⟩) d.1
  | there k =>
   rw [List.map_cons,List.nodup_cons] at d
   exact .there (m k d.2)
section
variable {P:Program} {B:Base} {main:Bool} {af:Jd P B main} {c:Ctx} {R:ay} {H H':aj} {st aa:St} {o:Oper} {C:ay→aj→St→Prop}
theorem aE.qh{b:Nat}{e:TypeId}{K:Unit→ay→aj→Prop}:∀ (vs:List Value) (cs:Array Value) (off i:Nat) (H H':aj),(∀ v∈vs,v.oneCell'=true)→off+i+vs.length≤cs.size →
  cU H b (.cells cs e (0,0)) (.cells (dD cs (off+i) vs) e (0,0)) H'→(H.map (·.1)).Nodup→K () R H'→aE P B R H (storeCells ⟨b,off,none⟩ vs i) K
 | [],cs,off,i,H,H',_,_,f,m,g=>by
  have e1:H'=H:=by
   have:∀ {H H':aj} {o:Obj},cU H b o o H'→H'=H:=by
    intro H H' o h
    induction H generalizing H' with
    | nil=>cases h
    | cons p r y =>
     cases h with
     | here=>rfl
     | there h=>rw [y h]
   exact this f
  subst e1
  simp only [storeCells]
  exact aE.bR g
 | v::r,cs,off,i,H,H',d,z,f,m,g=>by
  simp only [storeCells]
  simp only [List.length_cons] at z
  have hex:∀ (H:aj) (o o':Obj),(b,o)∈H→∃ H1,cU H b o o' H1:=by
   intro H o o' hm
   induction H with
   | nil=>cases hm
   | cons p r y =>
    rcases cO.1 hm with rfl | hm
    ·exact ⟨_,.here⟩
    ·obtain ⟨H1,d⟩:=y hm
     exact ⟨_,.there d⟩
  obtain ⟨H1,s⟩:=hex H _ (.cells (cs.setIfInBounds (off+i) v) e (0,0)) f.mem
  have A:cU H1 b (.cells (cs.setIfInBounds (off+i) v) e (0,0)) (.cells (dD cs (off+i) (v::r)) e (0,0)) H':=cU.mid s f m
  refine aE.bK ?_
  rw [h0]
  refine aE.store (d v (by simp)) rfl (by show off+i < cs.size; omega) s ?_
  exact aE.qh r (cs.setIfInBounds (off+i) v) off (i+1) H1 H' (λ u hu=>d u (by simp [hu])) (by simp; omega) (by simpa [dD,Nat.add_assoc] using A) (by rw [s.keys]; exact m) g
theorem aE.given{α:Type}{s:Sem α}{K:α→ay→aj→Prop}(h:(H.map (·.1)).Nodup→aE P B R H s K):aE P B R H s K:=λ w hw=>h hw.nd w hw
theorem aE.storeVar{t:TypeId}{b off n:Nat}{e:TypeId}{v:Value}{cs:Array Value}{K:Unit→ay→aj→Prop}(s:al P (sizeOf t) n)(d:v.cells.size=n)(f:∀ u∈v.cells.toList,u.oneCell'=true)(m:off+n≤cs.size)
  (z:cU H b (.cells cs e (0,0)) (.cells (dD cs off v.cells.toList) e (0,0)) H') (g:K () R H'):aE P B R H (storeVar t ⟨b,off,none⟩ v) K:=by
 refine aE.given λ y=>?_
 unfold Go.storeVar
 refine al.bV s ?_
 simp only [d,ne_eq,eW,if_false]
 exact aE.qh _ cs off 0 H H' f (by simp [d]; exact m) (by simpa using z) y g
theorem aE.loadCellsFrom{b off:Nat}{K:Array Value→ay→aj→Prop}:∀ (vs:List Value) (i:Nat) (acc:Array Value),aK R H b (off+i) vs→K (acc++vs.toArray) R H→aE P B R H (loadCellsFrom ⟨b,off,none⟩ i vs.length acc) K
 | [],i,acc,_,d=>by
  simp only [List.length_nil,Go.loadCellsFrom]
  exact aE.bR (by simpa using d)
 | v::r,i,acc,f,d=>by
  simp only [List.length_cons,Go.loadCellsFrom]
  refine aE.bK ?_
  rw [h0]
  refine aE.load (v:=v) (by simpa using f 0 v rfl) ?_
  refine aE.loadCellsFrom r (i+1) (acc.push v) (λ j u g=>?_) (by simpa using d)
  have:=f (j+1) u (by simpa using g)
  simpa [Nat.add_assoc,Nat.add_comm,Nat.add_left_comm] using this
theorem Ox.gQ{x:Operand}{t:TypeId}{b off:Nat}{v:Value}(f:o.op = .load t x)(A:a2 st x=some (.pointer (some ⟨b,off,none⟩)))(z:dr P t)(g:Cell R H ⟨b,off,none⟩ v)
  (m:bQ o.dst c.n) (y:aA (bJ o.dst v st) aa) (h:C R H aa):aJ P B c o R H st C :=
 Ox.mem (s:=λ d=>Instr.loadAt t (d x)) (by rw [f]; rfl) m (λ d=>by simp only [execOp,f]) (λ d D=>by
  rw [D x _ A]
  simp only [Instr.loadAt,Instr.sureAddr,loadVar]
  refine al.bV (al.bc _) (al.bV z.1 ?_)
  exact aE.load g ⟨aa,y,h⟩)
theorem Ox.bB{x:Operand}{t:TypeId}{b off n:Nat}{vs:List Value}(f:o.op = .load t x)(D:a2 st x=some (.pointer (some ⟨b,off,none⟩)))(g:ek P t n)(z:vs.length=n)(m:aK R H b off vs)
  (y:bQ o.dst c.n) (A:aA (bJ o.dst (.agg vs.toArray) st) aa) (h:C R H aa):aJ P B c o R H st C :=
 Ox.mem (s:=λ d=>Instr.loadAt t (d x)) (by rw [f]; rfl) y (λ d=>by simp only [execOp,f]) (λ d E=>by
  rw [E x _ D]
  simp only [Instr.loadAt,Instr.sureAddr,loadVar]
  refine al.bV (al.bc _) (al.bV g.1 ?_)
  simp only [if_true]
  refine al.bV g.2 (aE.bK ?_)
  subst z
  exact aE.loadCellsFrom vs 0 #[] (by simpa using m) (aE.bR ⟨aa,by simpa using A,h⟩))
theorem Ox.dE{x y:Operand}{t e:TypeId}{b off:Nat}{v:Value}{cs cs':Array Value}(g:o.op = .store t x y)(J:a2 st x=some (.pointer (some ⟨b,off,none⟩)))(K:a2 st y=some v)(I:dr P t)(m:v.oneCell'=true)(F:cU H b (.cells cs e (0,0)) (.cells cs' e (0,0)) H')(E:Nat.blt off cs.size=true)(A:cs.setIfInBounds off v=cs')
  (D:o.dst=none) (G:aA st aa) (h:C R H' aa):aJ P B c o R H st C :=
 Ox.od (s:=λ d=>Instr.storeAt t (d x) (d y)) (by rw [g]; rfl) D (λ d=>by simp only [execOp,g]) G (λ d z=>by
  rw [z x _ J,z y _ K]
  simp only [Instr.storeAt,Instr.sureAddr]
  refine al.bV (al.bc _) ?_
  have f:v.cells=#[v]:=by cases v <;> first | rfl | (simp [Value.oneCell'] at m)
  refine aE.storeVar (cs:=cs) (e:=e) I.2 (by rw [f]; rfl) (by rw [f]; simpa using m) (Nat.le_of_ble_eq_true E) ?_ h
  rw [f]
  simpa [dD,A] using F)
theorem Ox.cG{x y:Operand}{t e:TypeId}{b off n:Nat}{vs:Array Value}{cs cs':Array Value}(f:o.op = .store t x y)(J:a2 st x=some (.pointer (some ⟨b,off,none⟩)))(K:a2 st y=some (.agg vs))(I:ek P t n)(E:vs.size=n)(m:∀ u∈vs.toList,u.oneCell'=true)(F:cU H b (.cells cs e (0,0)) (.cells cs' e (0,0)) H')(D:Nat.ble (off+n) cs.size=true)(z:dD cs off vs.toList=cs')
  (A:o.dst=none) (G:aA st aa) (h:C R H' aa):aJ P B c o R H st C :=
 Ox.od (s:=λ d=>Instr.storeAt t (d x) (d y)) (by rw [f]; rfl) A (λ d=>by simp only [execOp,f]) G (λ d g=>by
  rw [g x _ J,g y _ K]
  simp only [Instr.storeAt,Instr.sureAddr]
  refine al.bV (al.bc _) ?_
  exact aE.storeVar (cs:=cs) (e:=e) I.2 E m (Nat.le_of_ble_eq_true D) (by simpa [Value.cells,z] using F) h)
theorem Ox.iF{x:Operand}{t:TypeId}{v:Value}(f:o.op = .box t x)(A:a2 st x=some v)(z:v.cells=#[v])(y:bQ o.dst c.n)
  (h:∀ b,R b=none→(∀ x,(b,x) ∉ H)→∃ aa,aA (bJ o.dst (.pointer (some ⟨b,0,none⟩)) st) aa∧C R ((b,.cells #[v] t)::H) aa):aJ P B c o R H st C :=
 Ox.mem (s:=λ d=>Instr.box t (d x)) (by rw [f]; rfl) y (λ d=>by simp only [execOp,f]) (λ d D=>by
  rw [D x _ A]
  simp only [Instr.box,newVar,newRow,z]
  exact aE.bK (aE.bK (aE.new λ b g m=>aE.bR (aE.bR (h b g m)))))
theorem Ox.wo{x:Operand}{t:TypeId}{vs:Array Value}(f:o.op = .box t x)(z:a2 st x=some (.agg vs))(y:bQ o.dst c.n)
  (h:∀ b,R b=none→(∀ x,(b,x) ∉ H)→∃ aa,aA (bJ o.dst (.pointer (some ⟨b,0,none⟩)) st) aa∧C R ((b,.cells vs t)::H) aa):aJ P B c o R H st C :=
 Ox.mem (s:=λ d=>Instr.box t (d x)) (by rw [f]; rfl) y (λ d=>by simp only [execOp,f]) (λ d A=>by
  rw [A x _ z]
  simp only [Instr.box,newVar,newRow,Value.cells]
  exact aE.bK (aE.bK (aE.new λ b g m=>aE.bR (aE.bR (h b g m)))))
theorem Ox.alloc{t:TypeId}{cs:Array Value}(d:o.op = .alloc t)(y:dH P t cs)(m:bQ o.dst c.n)
  (h:∀ b,R b=none→(∀ x,(b,x) ∉ H)→∃ aa,aA (bJ o.dst (.pointer (some ⟨b,0,none⟩)) st) aa∧C R ((b,.cells cs t)::H) aa):aJ P B c o R H st C :=
 Ox.mem (s:=λ _=>Instr.alloc t true (.tuple #[])) (by rw [d]; rfl) m (λ D=>by simp only [execOp,d]) (λ D E=>by
  obtain ⟨z,A,rfl⟩:=y
  simp only [Instr.alloc,newVar,newRow]
  exact al.bV A (aE.bK (aE.bK (aE.new λ b f g=>aE.bR (aE.bR (h b f g))))))
def lD(st:St):List (Nat × Operand)→Option (List (Nat × Value))
 | []=>some []
 | (j,x)::r=>match a2 st x,lD st r with
  | some v,some vs=>some ((j,v)::vs)
  | _,_=>none
theorem vd{m:Operand→Value}(g:Knows st m):∀ (l:List (Nat × Operand)) (r:List (Nat × Value)),lD st l=some r→l.map (λ (j,x)=>(j,m x))=r
 | [],r,h=>by cases h; rfl
 | (j,x)::l,r,h=>by
  simp only [lD] at h
  cases d:a2 st x with
  | none=>simp [d] at h
  | some v =>
   cases f:lD st l with
   | none=>simp [d,f] at h
   | some vs =>
    simp [d,f] at h
    subst h
    simp [g x v d,vd g l vs f]
def fE(P:Program)(t:TypeId)(places:List (Nat × Nat))(z:Array Value):Prop :=
 dH P t z∧∃ d:Array Field,P.underlying t=some (.struct d)∧al P (d.mapM λ f=>do pure (f.offset,← sizeOf f.type)) places.toArray
theorem Ox.build{t:TypeId}{parts:Array (Nat × Operand)}{f:List (Nat × Value)}{places:List (Nat × Nat)}{z cells:Array Value}(g:o.op = .build t parts)(G:fE P t places z)(E:lD st parts.toList=some f)(D:Instr.fill (places.toArray[·]?) z f=some cells)
  (A:bQ o.dst c.n) (F:aA (bJ o.dst (.agg cells) st) aa) (h:C R H aa):aJ P B c o R H st C :=
 Ox.e2 (s:=λ d=>Instr.build t (parts.map λ (j,x)=>(j,d x))) (by rw [g]; rfl) A (λ d=>by simp only [execOp,g]) (λ d J=>by
  obtain ⟨⟨z0,I,rfl⟩,K,m,y⟩:=G
  have e:(parts.map λ (j,x)=>(j,d x))=f.toArray:=by apply Array.ext'; simpa using vd J _ _ E
  rw [e]
  unfold Instr.build
  refine al.bj I (al.bj (al.underlying m) (al.bj y ?_))
  simp only [D]
  exact al.bc _) F h
def iz(P:Program)(t e n:Nat)(z:Array Value):Prop:=P.underlying t=some (.slice e)∧al P (sizeOf e) n∧dH P e z∧z.size=n∧0 < n
theorem Ox.buildSlice{t e n len:Nat}{parts:Array (Nat × Operand)}{D:List (Nat × Value)}{z base cells:Array Value}(E:o.op = .buildSlice t len parts)(L:iz P t e n z)(J:lD st parts.toList=some D)(hlen:len * n≤16777216)
  (hb:(Array.range (len * n)).map (z[· % z.size]!)=base) (A:Instr.fill (λ j=>some (j * n,n)) base D=some cells) (G:bQ o.dst c.n)
  (h:∀ b,R b=none→(∀ x,(b,x) ∉ H)→∃ aa,aA (bJ o.dst (.slice (some ⟨b,0,none⟩) len len) st) aa∧C R ((b,.cells cells e)::H) aa):aJ P B c o R H st C :=
 Ox.mem (s:=λ d=>Instr.buildSlice t len (parts.map λ (j,x)=>(j,d x))) (by rw [E]; rfl) G (λ d=>by simp only [execOp,E]) (λ d N=>by
  subst hb
  obtain ⟨m,y,⟨z0,M,rfl⟩,O,Q⟩:=L
  have F:(parts.map λ (j,x)=>(j,d x))=D.toArray:=by apply Array.ext'; simpa using vd N _ _ J
  rw [F]
  unfold Instr.buildSlice
  refine al.bV (al.underlying m) (al.bV y ?_)
  have I:¬ (len * n > 2 ^ 24):=by omega
  simp only [I,if_false]
  have last:aE P B R H (do let a ← newRow e cells; pure (.slice (some a) len len)) λ v R' H'=>∃ aa,aA (bJ o.dst v st) aa∧C R' H' aa:=by
   simp only [newRow]
   exact aE.bK (aE.bK (aE.new λ b m y=>aE.bR (aE.bR (h b m y))))
  by_cases g:len * n=0
  ·simp only [g,if_true]
   refine al.bV (al.bc _) ?_
   have K:∀ f:Nat→Value,(Array.range 0).map f=#[]:=λ f=>by simp [Array.range]
   simp only [g,K] at A ⊢
   simp only [A]
   exact last
  ·simp only [g,if_false]
   refine al.bV M (al.bV (al.bc _) ?_)
   simp only [A]
   exact last)
end
def aH(R R':ay):Prop:=∀ b o,R b=some o→R' b=some o
theorem aH.refl(R:ay):aH R R:=λ _ _ h=>h
theorem aH.trans{R R' bM:ay}(h:aH R R')(k:aH R' bM):aH R bM:=λ b o x=>k b o (h b o x)
section
variable {P:Program} {B:Base} {main:Bool} (af:Jd P B main)
def lQ(c:Ctx)(S:aj)(ops:Array Oper)(i:Nat)(tmps:Array Value)(R:ay)(H:aj)(K:Array Value→ay→aj→Prop):Prop :=
 ∃ o,ops[i]? = some o∧gA o.op=false ∧
  ((Region.wanted o (yielded ops tmps)=false∧K (dQ o.dst undef tmps) R H) ∨
   (Region.wanted o (yielded ops tmps)=true ∧
   ((aE P B R H (execOp (bf c tmps []).eval o) λ nx R' H'=>∃ v,(nx = .value v∨(nx = .skip∧v=undef))∧aH R R'∧(∀ p∈S,p∈H→p∈H')∧K (dQ o.dst v tmps) R' H') ∨
    (∃ f args,al P (execOp (bf c tmps []).eval o) (.enter f args)∧aL af f args R H λ v R' H'=>aH R R'∧(∀ p∈S,p∈H→p∈H')∧K (dQ o.dst v tmps) R' H'))))
theorem J.given{R:ay}{H:aj}{g:Goroutine}(f:g.status = .running)(h:(∃ w,Fits B R H w)→af.J R H g):af.J R H g:=by
 by_cases hw:∃ w,Fits B R H w
 ·exact h hw
 ·exact af.step f λ w d=>absurd ⟨w,d⟩ hw
def fJ(ops:Array Oper)(rem:List Nat)(i:Nat):Bool:=match ops[i]? with
 | some o=>o.after.all λ e=>!Region.binds .any e || !rem.contains e.on
 | none=>false
def kD(c:Ctx)(S:Nat→aj)(ops:Array Oper)(Q:Array Value→ay→aj→Prop):Nat→List Nat→Array Value→ay→aj→Prop
 | 0,rem,t,R,H=>rem=[]∧Q t R H
 | n+1,rem,t,R,H=>(rem=[]∧Q t R H)∨(rem≠[]∧((∃ w,Fits B R H w)→∀ i∈rem,fJ ops rem i=true→lQ af c (S i) ops i t R H λ d R' H'=>kD c S ops Q n (rem.erase i) d R' H'))
variable {af}
def backward(ops:Array Oper):Bool:=(List.range ops.size).all λ i=>match ops[i]? with
 | some o=>o.after.all λ e=>!Region.binds .any e || decide (e.on < i)
 | none=>true
theorem xQ(c:Ctx)(tmps:Array Value)(todo:List Item):(bf c tmps todo).eval=(bf c tmps []).eval:=by
 funext x; cases x <;> rfl
theorem BC{c:Ctx}{S:aj}{ops:Array Oper}{i:Nat}{rest:List Nat}{k:List Item}{tmps:Array Value}{R:ay}{H:aj}{K:Array Value→ay→aj→Prop}(M:(c.kind == CallKind.early)=false)(h:lQ af c S ops i tmps R H K)
  (y:∀ t R' H',K t R' H'→af.J R' H' (bk (bf c t (.inRegion ops rest::k)) c.cs)):af.J R H (bk (bf c tmps (.inRegion ops (i::rest)::k)) c.cs):=by
 obtain ⟨o,g,D,h⟩:=h
 have z:(bf c tmps (.inRegion ops (i::rest)::k)).kind ≠ .early:=by show c.kind≠_; simpa using M
 rcases h with ⟨m,d⟩ | ⟨m,d | ⟨f,args,d,G⟩⟩
 ·exact Jd.ctl rfl (λ w=>AK g m) (y _ _ _ d)
 ·refine af.step rfl λ w A=>?_
  obtain ⟨nx,w',R',H',e1,E,F,v,s,_,_,I⟩:=d w A
  refine ⟨bk (bf c (dQ o.dst v tmps) (.inRegion ops rest::k)) c.cs,w',seen P c.fn ((execOp (bf c tmps []).eval o).events P w #[]),R',H',?_,λ e he=>E e (mem_seen he),F,y _ _ _ I⟩
  rw [kr g m D,← jo (rest:=rest) (k:=k) (c:=c) (tmps:=tmps) (v:=v) g,xQ]
  rcases s with rfl | ⟨rfl,rfl⟩
  ·exact sE z e1
  ·exact sD z e1
 ·refine af.step rfl λ w A=>?_
  have s:=d w
  refine ⟨bk (Frame.enter P f args .normal) (bf c tmps (.inRegion ops (i::rest)::k)::c.cs),w,seen P c.fn ((execOp (bf c tmps []).eval o).events P w #[]),R,H,?_,?_,c5.refl A,G _ _ λ v R' H' N=>?_⟩
  ·rw [kr g m D,xQ]
   exact we rfl z s.1
  ·intro e L
   have:=mem_seen L
   rw [s.2] at this
   simp at this
  ·rw [jo g]
   exact y _ _ _ N.2.2
def oD(ops:Array Oper)(listed:Array Bool)(rem:List Nat):Prop:=listed.size=ops.size∧rem.Nodup∧(∀ i,i∈rem↔(i < ops.size∧listed.getD i true=false))
theorem Fx{listed:Array Bool}{i j:Nat}{d:Bool}(hi:i < listed.size):(listed.setIfInBounds i true).getD j d=if i=j then true else listed.getD j d:=by
 simp only [Array.getD_eq_getD_getElem?]
 by_cases h:i=j
 ·subst h; simp [hi]
 ·rw [if_neg h,eG h]
theorem oD.erase{ops:Array Oper}{listed:Array Bool}{rem:List Nat}(h:oD ops listed rem){i:Nat}(hi:i∈rem):oD ops (listed.setIfInBounds i true) (rem.erase i):=by
 obtain ⟨d,f,g⟩:=h
 have m:i < listed.size:=by rw [d]; exact ((g i).1 hi).1
 refine ⟨by simp [d],f.erase _,λ j=>?_⟩
 rw [f.mem_erase_iff,g j,Fx m]
 by_cases e:i=j
 ·subst e; simp
 ·simp [e,Ne.symm e]
theorem yz:∀ (l:List Nat),l≠[]→∃ m∈l,∀ x∈l,m≤x
 | [],h=>absurd rfl h
 | [a],_=>⟨a,by simp,by simp⟩
 | a::b::r,_=>by
  obtain ⟨m,hm,f⟩:=yz (b::r) (by simp)
  by_cases h:a≤m
  ·exact ⟨a,by simp,λ x d=>by
    rcases cO.1 d with rfl | d
    ·exact ct _
    ·exact Nat.le_trans h (f x d)⟩
  ·exact ⟨m,List.mem_cons_of_mem _ hm,λ x d=>by
    rcases cO.1 d with rfl | d
    ·omega
    ·exact f x d⟩
theorem vR{c:Ctx}{S:Nat→aj}{ops:Array Oper}{k:List Item}{Q:Array Value→ay→aj→Prop}(M:(c.kind == CallKind.early)=false)(hb:backward ops=true)
  (E:∀ t R H,Q t R H→af.J R H (bk (bf c t k) c.cs)):∀ (fuel t:Nat) (listed:Array Bool) (acc:List Nat) (rem:List Nat) (tmps:Array Value) (R:ay) (H:aj),oD ops listed rem→rem.length≤fuel →
   kD af c S ops Q fuel rem tmps R H→∃ is,Region.linearise.go .any ops fuel t listed acc=acc.reverse++is∧af.J R H (bk (bf c tmps (.inRegion ops is::k)) c.cs)
 | 0,t,listed,acc,rem,tmps,R,H,_,_,h=>⟨[],by simp [Region.linearise.go],Jd.ctl rfl (λ w=>by simp [stepG,stepG.exec,bk,bf]) (E _ _ _ h.2)⟩
 | fuel+1,t,listed,acc,rem,tmps,R,H,d,ao,h=>by
  generalize z:((List.range ops.size).filter λ i=>!listed.getD i true && ((ops[i]?).map (·.after.all λ e=>!Region.binds .any e || listed.getD e.on false)).getD false)=rs
  have N:∀ i,i∈rs→i∈rem∧fJ ops rem i=true:=by
   intro i hi
   rw [← z] at hi
   simp only [List.mem_filter,List.mem_range,dn,Bool.not_eq_true'] at hi
   obtain ⟨f,A,D⟩:=hi
   refine ⟨(d.2.2 i).2 ⟨f,A⟩,?_⟩
   unfold fJ
   cases g:ops[i]? with
   | none=>simp [g] at D
   | some o =>
    simp only [g,Option.map_some,hs,Array.all_eq_true_iff_forall_mem] at D ⊢
    intro e he
    have:=D e he
    rcases Bool.or_eq_true_iff.1 this with x | x
    ·simp [x]
    ·have I:e.on ∉ rem:=λ hm=>by
      have:=((d.2.2 e.on).1 hm).2
      have y:e.on < listed.size:=by rw [d.1]; exact ((d.2.2 e.on).1 hm).1
      simp only [Array.getD_eq_getD_getElem?,hX y,hs] at this x
      rw [x] at this; cases this
     simp [I]
  rcases h with ⟨rfl,ac⟩ | ⟨ab,T⟩
  ·have ae:rs=[]:=by
    cases rs with
    | nil=>rfl
    | cons a r=>exact absurd (N a (by simp)).1 (by simp)
   refine ⟨[],?_,Jd.ctl rfl (λ w=>by simp [stepG,stepG.exec,bk,bf]) (E _ _ _ ac)⟩
   unfold Region.linearise.go
   simp only [z,ae]
   simp
  ·
   have ag:rs≠[]:=by
    obtain ⟨m,hm,Y⟩:=yz rem ab
    have G:=((d.2.2 m).1 hm).1
    have:m∈rs:=by
     rw [← z]
     simp only [List.mem_filter,List.mem_range,dn,Bool.not_eq_true']
     refine ⟨G,((d.2.2 m).1 hm).2,?_⟩
     have g:ops[m]? = some ops[m]:=hX G
     simp only [g,Option.map_some,hs,Array.all_eq_true_iff_forall_mem]
     intro e he
     unfold backward at hb
     rw [List.all_eq_true] at hb
     have K:=hb m (List.mem_range.2 G)
     simp only [g,Array.all_eq_true_iff_forall_mem] at K
     rcases Bool.or_eq_true_iff.1 (K e he) with x | x
     ·simp [x]
     ·have y:e.on < m:=by simpa using x
      have I:e.on ∉ rem:=λ Z=>by have:=Y _ Z; omega
      have W:e.on < listed.size:=by rw [d.1]; omega
      have f:listed.getD e.on true=true:=by
       cases V:listed.getD e.on true with
       | true=>rfl
       | false=>exact absurd ((d.2.2 e.on).2 ⟨by omega,V⟩) I
      simp only [Array.getD_eq_getD_getElem?,hX W,hs] at f ⊢
      simp [f]
    intro e; rw [e] at this; cases this
   have hlen:t % rs.length < rs.length:=Nat.mod_lt _ (by
    cases rs with
    | nil=>exact absurd rfl ag
    | cons _ _=>simp)
   have hi:rs[t % rs.length]? = some rs[t % rs.length]:=e3 hlen
   generalize rs[t % rs.length]=i at hi
   obtain ⟨F,ad⟩:=N i (List.mem_of_getElem? hi)
   have ak:=λ hw=>T hw i F ad
   have y:(rem.erase i).length≤fuel:=by rw [List.length_erase_of_mem F]; omega
   have hgo:∀ s,∃ is,Region.linearise.go .any ops fuel (t / rs.length) (listed.setIfInBounds i true) s=s.reverse++is:=λ s=>⟨_,linearise_go_acc .any ops fuel (t / rs.length) (listed.setIfInBounds i true) s⟩
   obtain ⟨is,L⟩:=hgo (i::acc)
   refine ⟨i::is,?_,?_⟩
   ·rw [Region.linearise.go]
    simp only [z,hi]
    rw [L]; simp
   ·refine J.given af rfl λ hw=>?_
    refine BC M (ak hw) λ an R' H' O=>?_
    obtain ⟨am,f,A⟩:=vR M hb E fuel (t / rs.length) (listed.setIfInBounds i true) (i::acc) (rem.erase i) an R' H' (d.erase F) y O
    rw [L] at f
    have:is=am:=by simpa using f
    rw [this]; exact A
end
section
variable {P:Program} {B:Base} {main:Bool} {af:Jd P B main}
def noSelect(o:Oper):Bool:=match o.op with | .select _ _=>false | _=>true
def looks(ops:Array Oper)(o:Oper):List Nat :=
 (o.op.operands.toList.filterMap λ | .tmp t=>some t | _=>none)++(match o.guard with | some (j,_)=>((ops[j]?).bind (·.dst)).toList | none=>[])
def oR(ops:Array Oper)(a b:Oper):Bool :=
 (match a.dst with | some d=>!(looks ops b).contains d && b.dst != some d | none=>true) && (match b.dst with | some d=>!(looks ops a).contains d | none=>true)
theorem Kr{a b:Option Tmp}{v u:Value}{t:Array Value}(h:∀ d,a=some d→b≠some d):dQ a v (dQ b u t)=dQ b u (dQ a v t):=by
 cases a with
 | none=>rfl
 | some x=>cases b with
  | none=>rfl
  | some y =>
   have f:x≠y:=λ e=>h x rfl (by rw [e])
   simp only [dQ]
   exact Array.setIfInBounds_comm u v (Ne.symm f)
theorem EC{c:Ctx}{t:Array Value}{dst:Option Tmp}{v:Value}{x:Operand}(h:∀ d,dst=some d→x ≠ .tmp d):(bf c (dQ dst v t) []).eval x=(bf c t []).eval x:=by
 cases dst with
 | none=>rfl
 | some d=>cases x with
  | tmp y =>
   have f:d≠y:=λ e=>h d rfl (by rw [e])
   simp only [bf,Frame.eval,dQ,Array.getD_eq_getD_getElem?]
   rw [eG f]
  | _=>rfl
theorem xR{c:Ctx}{ops:Array Oper}{t:Array Value}{dst:Option Tmp}{v:Value}{o:Oper}(f:noSelect o=true)(h:∀ d,dst=some d→d ∉ looks ops o):execOp (bf c (dQ dst v t) []).eval o=execOp (bf c t []).eval o:=by
 refine execOp_congr o (λ cs b e=>by rw [noSelect,e] at f; cases f) λ x m=>EC λ d g e=>h d g ?_
 subst e
 unfold looks
 exact bT _ (List.mem_filterMap.2 ⟨_,Array.mem_toList_iff.2 m,rfl⟩)
theorem Bo{ops:Array Oper}{t:Array Value}{dst:Option Tmp}{v:Value}{o:Oper}(h:∀ d,dst=some d→d ∉ looks ops o):Region.wanted o (yielded ops (dQ dst v t))=Region.wanted o (yielded ops t):=by
 unfold Region.wanted
 cases s:o.guard with
 | none=>rfl
 | some g =>
  obtain ⟨j,want⟩:=g
  simp only [yielded]
  cases m:(ops[j]?).bind (·.dst) with
  | none=>rfl
  | some d =>
   simp only [aD]
   cases dst with
   | none=>rfl
   | some f =>
    have y:f≠d:=λ e=>h f rfl (by
     subst e
     unfold looks
     rw [s]
     exact bH _ (by simp [m]))
    simp only [dQ]
    rw [eG y]
theorem wa{ops:Array Oper}{a b:Oper}(h:oR ops a b=true):(∀ d,a.dst=some d→d ∉ looks ops b∧b.dst≠some d)∧(∀ d,b.dst=some d→d ∉ looks ops a):=by
 unfold oR at h
 rw [dn] at h
 refine ⟨λ d f=>?_,λ d f=>?_⟩
 ·rw [f] at h; simpa using h.1
 ·rw [f] at h; simpa using h.2
theorem lQ.dQ{c:Ctx}{S:aj}{ops:Array Oper}{j:Nat}{oi g:Oper}{t:Array Value}{v:Value}{R:ay}{H:aj}{K1 K:Array Value→ay→aj→Prop}(M:ops[j]? = some g)(N:noSelect g=true)(L:oR ops oi g=true){F:aj}(D:∀ p∈F,p∈H)(I:∀ p∈F,p∈S)
  (h:lQ af c S ops j (dQ oi.dst v t) R H K1) (A:∀ u R' H',aH R R'→(∀ p∈F,p∈H')→K1 (Go.Lg.dQ g.dst u (Go.Lg.dQ oi.dst v t)) R' H'→K (Go.Lg.dQ g.dst u t) R' H'):lQ af c S ops j t R H K:=by
 obtain ⟨G,O⟩:=wa L
 obtain ⟨o,J,m,h⟩:=h
 obtain rfl:o=g:=ey (J.symm.trans M)
 rw [Bo (λ d m=>(G d m).1),xR N (λ d m=>(G d m).1)] at h
 refine ⟨o,J,m,?_⟩
 rcases h with ⟨a,b⟩ | ⟨a,b | ⟨f,args,b,b'⟩⟩
 ·exact .inl ⟨a,A _ _ _ (aH.refl _) D b⟩
 ·exact .inr ⟨a,.inl (b.mono λ nx R' H' ⟨u,x,y,z,E⟩=>⟨u,x,y,z,A _ _ _ y (λ p s=>z p (I p s) (D p s)) E⟩)⟩
 ·exact .inr ⟨a,.inr ⟨f,args,b,b'.mono λ u R' H' ⟨y,z,E⟩=>⟨y,z,A _ _ _ y (λ p s=>z p (I p s) (D p s)) E⟩⟩⟩
def vQ(P:Program)(B:Base)(S:aj)(R:ay)(d:Operand→Value)(o:Oper)(v:Value):Prop :=
 ∀ R' H',aH R R'→(∀ p∈S,p∈H')→aE P B R' H' (execOp d o) λ nx bM b3=>(nx = .value v∨(nx = .skip∧v=undef))∧bM=R'∧b3=H'
def gY(ops:Array Oper)(rem:List Nat)(i:Nat)(D:List Nat):Bool :=
 rem.contains i && fJ ops rem i && !D.contains i && D.all (λ j=>rem.contains j && match ops[j]? with | some o=>o.after.any λ e=>Region.binds .any e && (e.on == i || D.contains e.on) | none=>false) &&
 (match ops[i]? with | some oi=>noSelect oi && rem.all (λ j=>j == i || D.contains j || match ops[j]? with | some d=>noSelect d && oR ops oi d | none=>false) | none=>false)
theorem L3{ops:Array Oper}{rem:List Nat}{i j:Nat}{D:List Nat}(h:gY ops rem i D=true)(E:j≠i)(A:j ∉ D):gY ops (rem.erase j) i D=true:=by
 unfold gY at h ⊢
 simp only [dn,Bool.not_eq_true',List.all_eq_true,List.contains_iff_mem] at h ⊢
 obtain ⟨⟨⟨⟨y,g⟩,z⟩,s⟩,m⟩:=h
 refine ⟨⟨⟨⟨(List.mem_erase_of_ne (Ne.symm E)).2 y,?_⟩,z⟩,λ x f=>⟨(List.mem_erase_of_ne (λ e=>A (by rw [← e]; exact f))).2 (s x f).1,(s x f).2⟩⟩,?_⟩
 ·unfold fJ at g ⊢
  cases d:ops[i]? with
  | none=>simp [d] at g
  | some o =>
   simp only [d,Array.all_eq_true_iff_forall_mem] at g ⊢
   intro e he
   have:=g e he
   rcases Bool.or_eq_true_iff.1 this with x | x
   ·simp [x]
   ·have F:e.on ∉ rem:=by simpa using x
    have:e.on ∉ rem.erase j:=λ hm=>F (List.mem_of_mem_erase hm)
    simp [this]
 ·cases d:ops[i]? with
  | none=>simp [d] at m
  | some oi =>
   simp only [d,dn,List.all_eq_true] at m ⊢
   exact ⟨m.1,λ x f=>m.2 x (List.mem_of_mem_erase f)⟩
theorem vZ{c:Ctx}{S:Nat→aj}{ops:Array Oper}{Q:Array Value→ay→aj→Prop}{i:Nat}{oi:Oper}{D:List Nat}{N:aj}{v:Value}(hi:ops[i]? = some oi)(f:gA oi.op=false):∀ (n:Nat) (rem:List Nat) (t:Array Value) (R:ay) (H:aj),
  gY ops rem i D=true→rem.Nodup→(∀ p∈N,p∈H)→(∀ j∈rem,j≠i→j ∉ D→∀ p∈N,p∈S j)→((Region.wanted oi (yielded ops t)=true∧vQ P B N R (bf c t []).eval oi v)∨(Region.wanted oi (yielded ops t)=false∧v=undef))→kD af c S ops Q n (rem.erase i) (dQ oi.dst v t) R H→kD af c S ops Q (n+1) rem t R H:=by
 intro n
 induction n with
 | zero =>
  intro rem t R H s ab K V M h
  unfold gY at s
  simp only [dn,List.contains_iff_mem] at s
  have F:i∈rem:=s.1.1.1.1
  refine .inr ⟨(λ e=>by rw [e] at F; cases F),λ _ j z _=>?_⟩
  have m:j=i:=by
   by_cases e:j=i
   ·exact e
   ·exact absurd ((List.mem_erase_of_ne e).2 z) (by rw [h.1]; simp)
  subst m
  rcases M with ⟨hw,I⟩ | ⟨hw,rfl⟩
  ·exact ⟨oi,hi,f,.inr ⟨hw,.inl ((I R H (aH.refl _) K).mono λ nx R' H' ⟨e1,O,T⟩=>by subst O T; exact ⟨v,e1,aH.refl _,(λ _ _ h=>h),h⟩)⟩⟩
  ·exact ⟨oi,hi,f,.inl ⟨hw,h⟩⟩
 | succ n aF =>
  intro rem t R H s ab K V M h
  have aA:=s
  unfold gY at s
  simp only [dn,List.contains_iff_mem,Bool.not_eq_true',List.all_eq_true] at s
  obtain ⟨⟨⟨⟨F,aI⟩,aG⟩,W⟩,G⟩:=s
  rw [hi] at G
  simp only [dn,List.all_eq_true] at G
  obtain ⟨au,G⟩:=G
  refine .inr ⟨(λ e=>by rw [e] at F; cases F),λ aB j z E=>?_⟩
  by_cases m:j=i
  ·subst m
   rcases M with ⟨hw,I⟩ | ⟨hw,rfl⟩
   ·exact ⟨oi,hi,f,.inr ⟨hw,.inl ((I R H (aH.refl _) K).mono λ nx R' H' ⟨e1,O,T⟩=>by subst O T; exact ⟨v,e1,aH.refl _,(λ _ _ h=>h),h⟩)⟩⟩
   ·exact ⟨oi,hi,f,.inl ⟨hw,h⟩⟩
  ·
   have A:j ∉ D:=λ A=>by
    obtain ⟨_,g⟩:=W j A
    unfold fJ at E
    cases J:ops[j]? with
    | none=>simp [J] at g
    | some o =>
     simp only [J,Array.all_eq_true_iff_forall_mem] at E g
     rw [Array.any_eq_true'] at g
     obtain ⟨e,he,g⟩:=g
     have av:=E e he
     rw [dn] at g
     have ao:e.on∈rem:=by
      rcases Bool.or_eq_true_iff.1 g.2 with x | x
      ·have:e.on=i:=by simpa using x
       rw [this]; exact F
      ·have aC:e.on∈D:=by simpa using x
       exact (W _ aC).1
     simp [g.1,ao] at av
   have L:=G j z
   have aq:∃ y,ops[j]? = some y∧noSelect y=true∧oR ops oi y=true:=by
    cases J:ops[j]? with
    | none=>simp [m,A,J] at L
    | some y=>simp [m,A,J] at L; exact ⟨y,rfl,L.1,L.2⟩
   obtain ⟨y,ac,aw,Z⟩:=aq
   rcases h with ⟨he,_⟩ | ⟨_,az⟩
   ·exact absurd ((List.mem_erase_of_ne m).2 z) (by rw [he]; simp)
   have ap:fJ ops (rem.erase i) j=true:=by
    unfold fJ at E ⊢
    simp only [ac,Array.all_eq_true_iff_forall_mem] at E ⊢
    intro e he
    have:=E e he
    rcases Bool.or_eq_true_iff.1 this with x | x
    ·simp [x]
    ·have ar:e.on ∉ rem:=by simpa using x
     have:e.on ∉ rem.erase i:=λ hm=>ar (List.mem_of_mem_erase hm)
     simp [this]
   have ax:=az aB j ((List.mem_erase_of_ne m).2 z) ap
   obtain ⟨an,Y⟩:=wa Z
   refine lQ.dQ (oi:=oi) (v:=v) ac aw Z K (V j z m A) ax λ u R' H' ae ak ad=>?_
   refine aF (rem.erase j) (dQ y.dst u t) R' H' (L3 aA m A) (ab.erase _) ak (λ x g=>V x (List.mem_of_mem_erase g)) ?_ ?_
   ·rw [Bo (λ d f=>Y d f)]
    refine M.imp (λ ⟨hw,I⟩=>⟨hw,λ bM b3 ag am=>?_⟩) id
    rw [xR (ops:=ops) au (λ d f=>Y d f)]
    exact I bM b3 (ae.trans ag) am
   ·rw [List.erase_comm,Kr (a:=oi.dst) (b:=y.dst) (λ d f=>(an d f).2)]
    exact ad
variable {c:Ctx} {S:Nat→aj} {ops:Array Oper} {k:List Item} {R:ay} {H:aj} {st aa:St} {rem:List Nat} {n:Nat}
def Any(af:Jd P B main)(c:Ctx)(S:Nat→aj)(ops:Array Oper)(k:List Item)(n:Nat)(rem:List Nat)(R:ay)(H:aj)(st:St):Prop :=
 rem.Nodup∧∀ tmps,eg c.n st tmps→kD af c S ops (λ t R H=>af.J R H (bk (bf c t k) c.cs)) n rem tmps R H
theorem U.draw{id:Nat}{is:List Nat}{n:Nat}(S:Nat→aj)(hm:P.follows .mixedOrders=true)(s:(c.kind == CallKind.early)=false)(hb:backward ops=true)(y:ops.size=n)(m:List.range n=is)(h:Any af c S ops k n is R H st):U af c R H st (.code (.region id ops true)::k):=by
 intro tmps A
 subst y; subst m
 refine af.step rfl λ w hw=>?_
 have g:oD ops (Array.replicate ops.size false) (List.range ops.size):=⟨by simp,List.nodup_range,λ i=>by
  simp only [List.mem_range,Array.getD_eq_getD_getElem?]
  constructor
  ·intro hi; exact ⟨hi,by simp [hi]⟩
  ·exact λ x=>x.1⟩
 have key:=λ t=>vR (af:=af) (k:=k) s hb (λ _ _ _ z=>z) ops.size t _ [] _ tmps R H g (by simp) (h.2 tmps A)
 obtain ⟨is,d,f⟩:=key (if (Question.order c.fn id).forced then 0 else (Question.order c.fn id).cut (w.tape w.drawn (.order c.fn id)))
 refine ⟨bk (bf c tmps (.inRegion ops is::k)) c.cs,{ w with drawn:=w.drawn+1 },#[],R,H,?_,by simp,⟨⟨hw.r,hw.h,hw.nd,hw.dj,hw.os,hw.tape,hw.out⟩,λ _ _ x=>x,ct _,λ _ _ _=>rfl,λ _ _ x=>.inl x,λ _ o x=>.inl ⟨o,x⟩⟩,f⟩
 simp only [Question.forced,gq,if_false,List.reverse_nil,List.nil_append] at d
 simp [stepG,stepG.exec,bk,bf,choose,Sem.run,Question.forced,Region.schedule,hm,Region.linearise,d]
theorem U.Cv{id:Nat}{is:List Nat}{n:Nat}(hm:P.follows .mixedOrders=true)(f:(c.kind == CallKind.early)=false)(hb:backward ops=true)(g:ops.size=n)(d:List.range n=is)(h:Any af c (λ _=>H) ops k n is R H st):U af c R H st (.code (.region id ops true)::k):=U.draw (λ _=>H) hm f hb g d h
theorem gM.om{o:Oper}{i:Nat}{tmps:Array Value}(h:gM af c o R H st λ R' H' aa=>aH R R'∧(∀ p∈S i,p∈H→p∈H')∧Any af c S ops k n rem R' H' aa)(D:ops[i]? = some o)(hw:Region.wanted o (yielded ops tmps)=true)(d:eg c.n st tmps) :
  lQ af c (S i) ops i tmps R H λ I R' H'=>kD af c S ops (λ t R H=>af.J R H (bk (bf c t k) c.cs)) n rem I R' H':=by
 obtain ⟨z,A,h | ⟨f,args,E,F⟩⟩:=h
 ·exact ⟨o,D,z,.inr ⟨hw,.inl ((h _ (d.knows c [])).mono λ nx R' H' ⟨v,G,aa,y,m,s,g⟩=>⟨v,G,m,s,g.2 _ ((d.put v A).sub y)⟩)⟩⟩
 ·exact ⟨o,D,z,.inr ⟨hw,.inr ⟨f,args,E _ (d.knows c []),F.mono λ v R' H' ⟨aa,y,m,s,g⟩=>⟨m,s,g.2 _ ((d.put v A).sub y)⟩⟩⟩⟩
theorem Any.done(h:U af c R H st k):Any af c S ops k n [] R H st:=⟨List.nodup_nil,λ tmps d=>by
 cases n with
 | zero=>exact ⟨rfl,h tmps d⟩
 | succ n=>exact .inl ⟨rfl,h tmps d⟩⟩
theorem Any.take{i:Nat}{o:Oper}{v:Value}{N:aj}(D:List Nat)(F:ops[i]? = some o)(J:gY ops rem i D=true)(z:gA o.op=false)(A:bQ o.dst c.n)(hw:cJ ops st o=some true)(y:∀ j∈rem,j≠i→j ∉ D→∀ p∈N,p∈S j)(s:∀ p∈N,p∈H)(E:∀ m,Knows st m→vQ P B N R m o v)(I:aA (bJ o.dst v st) aa)(f:rem.Nodup)
  {g:List Nat} (G:rem.erase i=g) (h:Any af c S ops k n g R H aa):Any af c S ops k (n+1) rem R H st:=by
 subst G
 exact ⟨f,λ tmps d=>vZ F z n rem tmps R H J f s y (.inl ⟨gJ d hw,E _ (d.knows c [])⟩) (h.2 _ ((d.put v A).sub I))⟩
theorem Any.vz{i d:Nat}{o:Oper}{v:Value}{N:aj}(D:List Nat)(L:ops[i]? = some o)(m:o.dst=some d)(hw:cJ ops st o=some true)(Q:gY ops rem i D=true)(J:∀ j∈rem,j≠i→j ∉ D→∀ p∈N,p∈S j)(g:∀ p∈N,p∈H)
  (s:∀ R' H',aH R R'→(∀ p∈N,p∈H')→aJ P B c o R' H' st λ R1 H1 A=>R1=R'∧H1=H'∧A=[(d,v)]) (O:aA ((d,v)::st) aa) (K:rem.Nodup)
  {z:List Nat} (M:rem.erase i=z) (h:Any af c S ops k n z R H aa):Any af c S ops k (n+1) rem R H st:=by
 have f:=s R H (aH.refl _) g
 refine Any.take (v:=v) D L Q f.1 f.2.1 hw J g (λ W V R' H' G I=>?_) (by rw [m]; exact O) K M h
 refine ((s R' H' G I).2.2 W V).mono λ nx bM b3 ⟨u,hu,A,y,e1,E,F⟩=>?_
 subst F
 rw [m] at y
 have T:u=v:=by
  have:=y d v (by simp)
  simp only [bJ,List.lookup_cons,beq_self_eq_true] at this
  exact ey this
 subst T
 exact ⟨hu,e1,E⟩
theorem Any.L2{i:Nat}{o:Oper}(D:List Nat)(y:ops[i]? = some o)(E:gY ops rem i D=true)(m:gA o.op=false)(s:bQ o.dst c.n)(hw:cJ ops st o=some false)(A:aA (bJ o.dst undef st) aa)(d:rem.Nodup)
  {g:List Nat} (z:rem.erase i=g) (h:Any af c S ops k n g R H aa):Any af c S ops k (n+1) rem R H st:=by
 subst z
 exact ⟨d,λ tmps f=>vZ (v:=undef) (N:=[]) y m n rem tmps R H E d (by simp) (by simp) (.inr ⟨gJ f hw,rfl⟩) (h.2 _ ((f.put undef s).sub A))⟩
theorem Any.one{i:Nat}{o:Oper}(z:ops[i]? = some o)(d:rem.filter (fJ ops rem)=[i])(hw:cJ ops st o=some true)(y:rem.Nodup){g:List Nat}(A:rem.erase i=g)
  (h:gM af c o R H st λ R' H' aa=>aH R R'∧(∀ p∈S i,p∈H→p∈H')∧Any af c S ops k n g R' H' aa):Any af c S ops k (n+1) rem R H st:=by
 subst A
 refine ⟨y,λ tmps f=>.inr ⟨(λ e=>by rw [e] at d; cases d),λ _ j m s=>?_⟩⟩
 have:j∈rem.filter (fJ ops rem):=List.mem_filter.2 ⟨m,s⟩
 rw [d] at this
 obtain rfl:j=i:=by simpa using this
 exact h.om z (gJ f hw) f
theorem MM{H H':aj}(h:∀ p∈H,p∈H'){X:aj}:∀ p∈H,p∈X→p∈H':=λ p d _=>h p d
end
section
variable {P:Program} {B:Base} {main:Bool} {af:Jd P B main} {c:Ctx} {R:ay} {H H':aj} {st aa:St} {k:List Item}
theorem se{w:World}(d:List.Sublist H' H)(hw:Fits B R H w):c5 B R H w R H' w :=
 ⟨⟨hw.r,λ b o h=>hw.h b o (d.subset h),(d.map _).nodup hw.nd,λ b o h=>hw.dj b o (d.subset h),hw.os,hw.tape,hw.out⟩,λ _ _ x=>x,ct _,λ _ _ _=>rfl,λ _ _ x=>.inl x,λ _ o x=>.inl ⟨o,d.subset x⟩⟩
theorem U.aR{todo:List Item}(d:List.Sublist H' H)(h:U af c R H' st todo):U af c R H st todo:=U.ghost (λ _ hw=>se d hw) h
theorem J.drop{g:Goroutine}(d:List.Sublist H' H)(h:af.J R H' g):af.J R H g:=af.ghost (λ _ hw=>se d hw) h
theorem ql{w:World}(d:List.Perm H' H)(hw:Fits B R H w):c5 B R H w R H' w :=
 ⟨⟨hw.r,λ b o h=>hw.h b o (d.subset h),(d.map _).nodup_iff.2 hw.nd,λ b o h=>hw.dj b o (d.subset h),hw.os,hw.tape,hw.out⟩,λ _ _ x=>x,ct _,λ _ _ _=>rfl,λ _ _ x=>.inl x,λ _ o x=>.inl ⟨o,d.subset x⟩⟩
theorem U.perm{todo:List Item}(d:List.Perm H' H)(h:U af c R H' st todo):U af c R H st todo:=U.ghost (λ _ hw=>ql d hw) h
theorem J.perm{g:Goroutine}(d:List.Perm H' H)(h:af.J R H' g):af.J R H g:=af.ghost (λ _ hw=>ql d hw) h
def ay.ins(R:ay)(b:Nat)(o:Obj):ay:=λ x=>if x=b then some o else R x
theorem ay.yo(R:ay)(b:Nat)(o:Obj):R.ins b o b=some o:=by simp [ay.ins]
theorem ay.rk{R:ay}{b:Nat}{o:Obj}(h:R b=none):aH R (R.ins b o):=λ x u d=>by
 unfold ay.ins
 split
 ·subst_vars; rw [h] at d; cases d
 ·exact d
theorem AZ{w:World}{b:Nat}{o:Obj}(hw:Fits B R ((b,o)::H) w):c5 B R ((b,o)::H) w (R.ins b o) H w:=by
 have hb:R b=none:=hw.dj b o (by simp)
 have f:=hw.nd
 rw [List.map_cons,List.nodup_cons] at f
 refine ⟨⟨λ x u d=>?_,λ x u d=>hw.h x u (by simp [d]),f.2,λ x u d=>?_,hw.os,hw.tape,hw.out⟩,ay.rk hb,ct _,λ _ _ _=>rfl,λ x u d=>?_,λ x u d=>.inl ⟨u,by simp [d]⟩⟩
 ·unfold ay.ins at d
  split at d
  ·subst_vars; cases d; exact hw.h _ _ (by simp)
  ·exact hw.r x u d
 ·have g:x≠b:=λ e=>f.1 (List.mem_map.2 ⟨(x,u),d,e⟩)
  unfold ay.ins
  rw [if_neg g]
  exact hw.dj x u (by simp [d])
 ·unfold ay.ins at d
  split at d
  ·subst_vars; exact .inr (.inl ⟨o,by simp⟩)
  ·exact .inl d
theorem J.freeze{g:Goroutine}{b:Nat}{o:Obj}(h:∀ R',aH R R'→R' b=some o→af.J R' H g)(hb:R b=none):af.J R ((b,o)::H) g :=
 af.ghost (λ _ hw=>AZ hw) (h _ (ay.rk hb) (ay.yo R b o))
theorem J.Ft{fr:Frame}{cs:List Frame}{b:Nat}{o:Obj}(h:∀ R',aH R R'→R' b=some o→af.J R' H (bk fr cs)):af.J R ((b,o)::H) (bk fr cs):=by
 cases hb:R b with
 | none=>exact J.freeze h hb
 | some x =>
  refine af.step rfl λ w hw=>?_
  have:=hw.dj b o (by simp)
  rw [hb] at this
  cases this
theorem U.freeze{todo:List Item}{b:Nat}{o:Obj}(h:∀ R',aH R R'→R' b=some o→U af c R' H st todo):U af c R ((b,o)::H) st todo :=
 λ tmps g=>J.Ft λ R' d f=>h R' d f tmps g
theorem eg.Ay{n t:Nat}{x:Value}{tmps:Array Value}(d:st.lookup t=some x)(h:eg n st tmps):eg n ((t,x)::st) tmps:=by
 refine ⟨h.1,λ u v hu=>?_⟩
 rw [List.lookup_cons] at hu
 split at hu
 ·rename_i heq
  have:u=t:=by simpa using heq
  subst this
  cases hu
  exact h.2 _ _ d
 ·exact h.2 u v hu
end
theorem Cell.mono{R R':ay}{H:aj}{a:Addr}{v:Value}(h:Cell R [] a v)(s:aH R R'):Cell R' H a v:=by
 obtain ⟨f,cs,e,d,g,m⟩:=h
 exact ⟨f,cs,e,d,.inl (g.elim (s _ _) (λ x=>by cases x)),m⟩
theorem aK.up{R R':ay}{H:aj}{b o:Nat}{vs:List Value}(h:aK R [] b o vs)(d:aH R R'):aK R' H b o vs:=λ j v f=>(h j v f).mono d
theorem aK.any{R:ay}{H:aj}{b o:Nat}{vs:List Value}(h:aK R [] b o vs):aK R H b o vs:=h.up (aH.refl R)
theorem aK.one{R:ay}{H:aj}{b o j:Nat}{v:Value}{vs:List Value}(h:aK R H b o vs)(d:vs[j]? = some v):Cell R H ⟨b,o+j,none⟩ v:=h j v d
end Go.Lg
