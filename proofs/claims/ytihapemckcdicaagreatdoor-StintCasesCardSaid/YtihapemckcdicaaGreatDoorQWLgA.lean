/- The base of a logic of goroutines in company. Conditions: none. -/
import Derived.Conc.Beside
import Derived.Conc.Events
import Derived.Conc.Listed
import Derived.Orders
namespace Go.Lg
theorem aM{α β:Type}(a:α)(f:α→Option β):(some a).bind f=f a:=rfl
theorem eD(n:Nat):((n:Int)).toNat=n:=rfl
theorem c6{α:Type}{a:α}{as:List α}(bs:List α)(h:a∈as):a∈as++bs:=List.mem_append_left bs h
theorem iE{α:Type}{b:α}(as:List α){bs:List α}(h:b∈bs):b∈as++bs:=List.mem_append_right as h
theorem iF{α:Type}{i:Nat}{a:α}{l:List α}:l[i]? = some a↔∃ h:i < l.length,l[i]=a:=List.getElem?_eq_some_iff
theorem nk{α:Type}{xs:Array α}{i j:Nat}(h:i≠j){a:α}:(xs.setIfInBounds i a)[j]? = xs[j]? := Array.getElem?_setIfInBounds_ne h
theorem lz{α:Type}{l:List α}{i:Nat}(h:i < l.length):l[i]? = some l[i]:=List.getElem?_eq_getElem h
theorem fN{p:Prop}[Decidable p](h:p):decide p=true:=decide_eq_true h
theorem gE{p:Prop}[Decidable p](h:¬p):decide p=false:=decide_eq_false h
theorem u6{α:Type}{xs:Array α}{i:Nat}{a:α}(h:i < xs.size):(xs.setIfInBounds i a)[i]? = some a:=Array.getElem?_setIfInBounds_self_of_lt h
theorem oz{α:Type}{l₁ wh:List α}{i:Nat}(h:l₁.length≤i):(l₁++wh)[i]? = wh[i - l₁.length]? := List.getElem?_append_right h
theorem jl{α:Type}(a b:α):(some a=some b)=(a=b):=Option.some.injEq a b
theorem kO{α:Type}{as bs:List α}:(as++bs).length=as.length+bs.length:=List.length_append
theorem jm(a b:Bool):((a && b)=true)=(a=true∧b=true):=Bool.and_eq_true a b
theorem jP{α:Type}{i:Nat}{l:List α}:(List.take i l).length=min i l.length:=List.length_take
theorem dD(n:Nat):n≤n:=Nat.le_refl n
theorem jo:(¬True)=False:=not_true_eq_false
theorem j6{α:Type}{a b:α}(h:some a=some b):a=b:=Option.some.inj h
theorem rR{α:Type}{l₁ wh:List α}{i:Nat}(h:i < l₁.length):(l₁++wh)[i]? = l₁[i]? := List.getElem?_append_left h
theorem rS{α:Type}{i:Nat}{l:List α}{a:α}:l.getD i a=(l[i]?).getD a:=List.getD_eq_getElem?_getD
theorem qT{α:Type}{xs:Array α}{i:Nat}(h:i < xs.size):xs[i]? = some xs[i]:=Array.getElem?_eq_getElem h
theorem fR{α:Type}{a b:α}{l:List α}:a∈b::l↔a=b∨a∈l:=List.mem_cons
theorem nU:(true=false)=False:=Bool.true_eq_false
theorem oA:(false=true)=False:=Bool.false_eq_true
theorem nm{α:Type}{a b:α}:(some a).getD b=a:=rfl
open Go.Conc
abbrev az:=Nat→Option Obj
abbrev ah:=List (Nat × Obj)
structure Base where
 os:Os→Prop
 tape:Nat→Question→Nat
 out:Array (Nat × ByteArray)
structure Fits (B:Base) (R:az) (H:ah) (w:World):Prop where
 r:∀ b o,R b=some o→w.heap[b]? = some o
 h:∀ b o,(b,o)∈H→w.heap[b]? = some o
 nd:(H.map (·.1)).Nodup
 dj:∀ b o,(b,o)∈H→R b=none
 os:B.os w.os
 tape:w.tape=B.tape
 out:w.output=B.out
theorem l9{w:World}{b:Nat}{o:Obj}(h:w.heap[b]? = some o):b < w.heap.size:=(Array.getElem?_eq_some_iff.1 h).1
structure gu (B:Base) (R:az) (H:ah) (w:World) (R':az) (H':ah) (w':World):Prop where
 fits:Fits B R' H' w'
 rle:∀ b o,R b=some o→R' b=some o
 size:w.heap.size≤w'.heap.size
 same:∀ b,b < w.heap.size→(∀ o,(b,o) ∉ H)→w'.heap[b]? = w.heap[b]?
 IF:∀ b o,R' b=some o→R b=some o∨(∃ o',(b,o')∈H)∨w.heap.size≤b
 Aa:∀ b o,(b,o)∈H'→(∃ o',(b,o')∈H)∨w.heap.size≤b
theorem gu.refl{B:Base}{R:az}{H:ah}{w:World}(h:Fits B R H w):gu B R H w R H w :=
 ⟨h,λ _ _ x=>x,dD _,λ _ _ _=>rfl,λ _ _ x=>.inl x,λ _ o x=>.inl ⟨o,x⟩⟩
theorem gu.trans{B:Base}{R R' cY:az}{H H' eG:ah}{w w' TS:World}(h:gu B R H w R' H' w')(k:gu B R' H' w' cY eG TS):gu B R H w cY eG TS:=by
 refine ⟨k.fits,λ b o x=>k.rle b o (h.rle b o x),Nat.le_trans h.size k.size,λ b hb hn=>?_,λ b o x=>?_,λ b o x=>?_⟩
 ·rw [k.same b (Nat.lt_of_lt_of_le hb h.size) (λ o ho=>?_),h.same b hb hn]
  rcases h.Aa b o ho with ⟨o',fA⟩ | tV
  ·exact hn o' fA
  ·omega
 ·rcases k.IF b o x with x | ⟨o',x⟩ | x
  ·exact h.IF b o x
  ·exact .inr (h.Aa b o' x)
  ·exact .inr (.inr (Nat.le_trans h.size x))
 ·rcases k.Aa b o x with ⟨o',x⟩ | x
  ·exact h.Aa b o' x
  ·exact .inr (Nat.le_trans h.size x)
def Du(R:az)(H:ah)(n:Nat)(write:Bool)(b:Nat):Prop:=(write=false∧(R b).isSome=true)∨(∃ o,(b,o)∈H)∨n≤b
def iG(R:az)(H:ah)(n m:Nat)(e:Event):Prop :=
 match e.loc with
 | .cell a=>e.sync=false∧a.block < m∧Du R H n e.write a.block
 | .obj b=>e.sync=false∧b < m∧Du R H n e.write b
 | .mark .noRoom=>True
 | _=>False
theorem Du.up{B:Base}{R R':az}{H H':ah}{w w':World}(h:gu B R H w R' H' w'){wr:Bool}{b:Nat}(k:Du R' H' w'.heap.size wr b):Du R H w.heap.size wr b:=by
 rcases k with ⟨k1,k2⟩ | ⟨o,k⟩ | k
 ·obtain ⟨o,ho⟩:=Option.isSome_iff_exists.1 k2
  rcases h.IF b o ho with x | x | x
  ·exact .inl ⟨k1,by simp [x]⟩
  ·exact .inr (.inl x)
  ·exact .inr (.inr x)
 ·exact .inr (h.Aa b o k)
 ·exact .inr (.inr (Nat.le_trans h.size k))
theorem iG.up{B:Base}{R R':az}{H H':ah}{w w':World}(h:gu B R H w R' H' w'){m:Nat}{e:Event}(k:iG R' H' w'.heap.size m e):iG R H w.heap.size m e:=by
 unfold iG at k ⊢
 split at k
 ·exact ⟨k.1,k.2.1,k.2.2.up h⟩
 ·exact ⟨k.1,k.2.1,k.2.2.up h⟩
 ·trivial
 ·exact k.elim
theorem iG.more{R:az}{H:ah}{n m m':Nat}{e:Event}(hm:m≤m')(k:iG R H n m e):iG R H n m' e:=by
 unfold iG at k ⊢
 split at k
 ·exact ⟨k.1,by omega,k.2.2⟩
 ·exact ⟨k.1,by omega,k.2.2⟩
 ·trivial
 ·exact k.elim
def aS{α:Type}(P:Program)(B:Base)(R:az)(H:ah)(s:Sem α)(K:α→az→ah→Prop):Prop :=
 ∀ w,Fits B R H w→∃ a w' R' H',s.run P w = .ok a w'∧(∀ e∈s.events P w #[],iG R H w.heap.size w'.heap.size e)∧gu B R H w R' H' w'∧K a R' H'
section
variable {P:Program} {B:Base} {R:az} {H:ah}
theorem aS.mono{α:Type}{s:Sem α}{K K':α→az→ah→Prop}(h:aS P B R H s K)(hk:∀ a R' H',K a R' H'→K' a R' H'):aS P B R H s K':=by
 intro w hw
 obtain ⟨a,w',R',H',h1,h2,h3,h4⟩:=h w hw
 exact ⟨a,w',R',H',h1,h2,h3,hk _ _ _ h4⟩
theorem aS.eB{α:Type}{a:α}{K:α→az→ah→Prop}(h:K a R H):aS P B R H (Pure.pure a:Sem α) K :=
 λ w hw=>⟨a,w,R,H,rfl,by simp,gu.refl hw,h⟩
theorem aS.dK{α β:Type}{s:Sem α}{f:α→Sem β}{K:β→az→ah→Prop}(h:aS P B R H s λ a R' H'=>aS P B R' H' (f a) K):aS P B R H (s >>= f) K:=by
 intro w hw
 obtain ⟨a,w',R',H',h1,h2,h3,h4⟩:=h w hw
 obtain ⟨b,TS,cY,eG,k1,k2,k3,k4⟩:=h4 w' h3.fits
 refine ⟨b,TS,cY,eG,by simp [h1,k1],λ e he=>?_,h3.trans k3,k4⟩
 rw [Sem.events_bind,h1,Result.evThen_ok,Sem.events_acc] at he
 rcases Array.mem_append.1 he with he | he
 ·exact (h2 e he).more k3.size
 ·exact (k2 e he).up h3
theorem aS.map{α β:Type}{s:Sem α}{f:α→β}{K:β→az→ah→Prop}(h:aS P B R H s λ a R' H'=>K (f a) R' H'):aS P B R H (f <$> s) K:=by
 intro w hw
 obtain ⟨a,w',R',H',h1,h2,h3,h4⟩:=h w hw
 exact ⟨f a,w',R',H',by simp [h1],by simpa using h2,h3,h4⟩
def ai{α:Type}(P:Program)(s:Sem α)(a:α):Prop:=∀ w,s.run P w = .ok a w∧s.events P w #[]=#[]
theorem ai.ok{α:Type}{s:Sem α}{a:α}{K:α→az→ah→Prop}(h:ai P s a)(hk:K a R H):aS P B R H s K :=
 λ w hw=>⟨a,w,R,H,(h w).1,by rw [(h w).2]; simp,gu.refl hw,hk⟩
theorem ai.bL{α:Type}(a:α):ai P (Pure.pure a:Sem α) a:=λ _=>⟨rfl,rfl⟩
theorem ai.bR{α β:Type}{s:Sem α}{f:α→Sem β}{a:α}{b:β}(h:ai P s a)(k:ai P (f a) b):ai P (s >>= f) b :=
 λ w=>⟨by simp [(h w).1,(k w).1],by rw [Sem.events_bind,(h w).1,(h w).2]; exact (k w).2⟩
theorem ai.map{α β:Type}{s:Sem α}{f:α→β}{a:α}(h:ai P s a):ai P (f <$> s) (f a) :=
 λ w=>⟨by simp [(h w).1],by simpa using (h w).2⟩
theorem ai.program:ai P program P:=λ _=>⟨rfl,rfl⟩
theorem ai.underlying{t:TypeId}{d:TypeDesc}(h:P.underlying t=some d):ai P (underlying t) d:=λ w=>⟨by simp [Go.underlying,h],by simp⟩
theorem ai.typeInfo{t:TypeId}{i:TypeInfo}(h:P.info? t=some i):ai P (typeInfo t) i:=λ w=>⟨by simp [Go.typeInfo,h],by simp⟩
theorem ai.fv{α β:Type}{s:Sem α}{f:α→Sem β}{a:α}{K:β→az→ah→Prop}(h:ai P s a)(hk:aS P B R H (f a) K):aS P B R H (s >>= f) K :=
 aS.dK (h.ok hk)
def Cell(R:az)(H:ah)(a:Addr)(v:Value):Prop :=
 a.spot=none∧∃ cs e fz,(R a.block=some (.cells cs e fz)∨(a.block,Obj.cells cs e fz)∈H)∧cs[a.off]? = some v
theorem Cell.at_{w:World}{a:Addr}{v:Value}(h:Cell R H a v)(hw:Fits B R H w):w.cell? a=some v:=by
 obtain ⟨hs,cs,e,fz,h1,h2⟩:=h
 have hh:w.heap[a.block]? = some (.cells cs e fz):=h1.elim (hw.r _ _) (hw.h _ _)
 simp [World.cell?,hh,hs,h2]
theorem Cell.touch{a:Addr}{v:Value}(h:Cell R H a v)(n:Nat):Du R H n false a.block:=by
 obtain ⟨_,cs,e,fz,h1,_⟩:=h
 rcases h1 with h1 | h1
 ·exact .inl ⟨rfl,by simp [h1]⟩
 ·exact .inr (.inl ⟨_,h1⟩)
theorem aK4{w:World}{a:Addr}{v:Value}(h:w.cell? a=some v):a.block < w.heap.size:=by
 unfold World.cell? at h
 split at h
 ·exact l9 ‹_›
 ·cases h
theorem aS.load{a:Addr}{v:Value}{K:Value→az→ah→Prop}(h:Cell R H a v)(hk:K v R H):aS P B R H (load a) K:=by
 intro w hw
 have hc:=h.at_ hw
 refine ⟨v,w,R,H,by simp [hc],?_,gu.refl hw,hk⟩
 intro e he
 simp only [events_load,hc] at he
 simp at he
 subst he
 exact ⟨rfl,aK4 hc,h.touch _⟩
theorem aS.new{o:Obj}{K:Nat→az→ah→Prop}(hk:∀ r,R r=none→(∀ x,(r,x) ∉ H)→K r R ((r,o)::H)):aS P B R H (newObj o) K:=by
 intro w hw
 have hR:R w.heap.size=none:=by
  cases h:R w.heap.size with
  | none=>rfl
  | some x=>exact absurd (l9 (hw.r _ _ h)) (Nat.lt_irrefl _)
 have hH:∀ x,(w.heap.size,x) ∉ H:=λ x hx=>absurd (l9 (hw.h _ _ hx)) (Nat.lt_irrefl _)
 have vy:∀ b (x:Obj),w.heap[b]? = some x→(w.heap.push o)[b]? = some x:=λ b x hx=>by
  have:=l9 hx
  rw [Array.getElem?_push]
  rw [if_neg (by omega)]; exact hx
 refine ⟨w.heap.size,{ w with heap:=w.heap.push o },R,(w.heap.size,o)::H,by simp,by simp,⟨⟨?_,?_,?_,?_,hw.os,hw.tape,hw.out⟩,λ _ _ x=>x,by simp,?_,λ _ _ x=>.inl x,?_⟩,hk _ hR hH⟩
 ·exact λ b x hx=>vy b x (hw.r b x hx)
 ·intro b x hx
  rcases fR.1 hx with hx | hx
  ·cases hx; simp
  ·exact vy b x (hw.h b x hx)
 ·rw [List.map_cons,List.nodup_cons]
  refine ⟨λ hm=>?_,hw.nd⟩
  obtain ⟨p,hp,he⟩:=List.mem_map.1 hm
  have QC:p.1=w.heap.size:=he
  exact hH p.2 (by rw [← QC]; exact hp)
 ·intro b x hx
  rcases fR.1 hx with hx | hx
  ·cases hx; exact hR
  ·exact hw.dj b x hx
 ·intro b hb _
  show (w.heap.push o)[b]? = _
  rw [Array.getElem?_push,if_neg (by omega)]
 ·intro b x hx
  rcases fR.1 hx with hx | hx
  ·cases hx; exact .inr (dD _)
  ·exact .inl ⟨x,hx⟩
inductive fF:ah→Nat→Obj→Obj→ah→Prop
 | here {b:Nat} {o o':Obj} {H:ah}:fF ((b,o)::H) b o o' ((b,o')::H)
 | there {b:Nat} {o o':Obj} {p:Nat × Obj} {H H':ah}:fF H b o o' H'→fF (p::H) b o o' (p::H')
theorem fF.keys{H H':ah}{b:Nat}{o o':Obj}(h:fF H b o o' H'):H'.map (·.1)=H.map (·.1):=by
 induction h with
 | here=>rfl
 | there _ ih=>simp [ih]
theorem fF.mem{H H':ah}{b:Nat}{o o':Obj}(h:fF H b o o' H'):(b,o)∈H:=by
 induction h with
 | here=>simp
 | there _ ih=>exact List.mem_cons_of_mem _ ih
theorem fF.old{H H':ah}{b:Nat}{o o':Obj}(h:fF H b o o' H')(hn:(H.map (·.1)).Nodup):∀ c x,(c,x)∈H'→(c=b∧x=o')∨(c≠b∧(c,x)∈H):=by
 induction h with
 | @here b o o' H =>
  intro c x hx
  rw [List.map_cons,List.nodup_cons] at hn
  rcases fR.1 hx with iq | iq
  ·cases iq; exact .inl ⟨rfl,rfl⟩
  ·refine .inr ⟨λ e=>hn.1 ?_,List.mem_cons_of_mem _ iq⟩
   rw [← e]
   exact List.mem_map.2 ⟨(c,x),iq,rfl⟩
 | @there b o o' p H H' hs ih =>
  intro c x hx
  rw [List.map_cons,List.nodup_cons] at hn
  rcases fR.1 hx with hx | hx
  ·subst hx
   refine .inr ⟨λ e=>hn.1 ?_,by simp⟩
   simp only at e ⊢
   subst e
   exact List.mem_map.2 ⟨_,hs.mem,rfl⟩
  ·exact (ih hn.2 c x hx).imp id λ y=>⟨y.1,List.mem_cons_of_mem _ y.2⟩
theorem Fits.QZ{H':ah}{b:Nat}{o o':Obj}{w:World}(hw:Fits B R H w)(h:fF H b o o' H') :
  gu B R H w R H' { w with heap:=w.heap.setIfInBounds b o' }:=by
 have hb:w.heap[b]? = some o:=hw.h _ _ h.mem
 have bS:=l9 hb
 have cU:∀ c,c≠b→(w.heap.setIfInBounds b o')[c]? = w.heap[c]? := λ c hc=>nk (by omega)
 refine ⟨⟨?_,?_,by rw [h.keys]; exact hw.nd,?_,hw.os,hw.tape,hw.out⟩,λ _ _ x=>x,by simp,?_,λ _ _ x=>.inl x,?_⟩
 ·intro c x hx
  show (w.heap.setIfInBounds b o')[c]? = _
  rw [cU c (λ e=>by subst e; have:=hw.dj _ _ h.mem; rw [hx] at this; cases this)]
  exact hw.r c x hx
 ·intro c x hx
  show (w.heap.setIfInBounds b o')[c]? = _
  rcases h.old hw.nd c x hx with ⟨rfl,rfl⟩ | ⟨hc,hx⟩
  ·rw [u6 bS]
  ·rw [cU c hc]; exact hw.h c x hx
 ·intro c x hx
  rcases h.old hw.nd c x hx with ⟨rfl,_⟩ | ⟨_,hx⟩
  ·exact hw.dj _ _ h.mem
  ·exact hw.dj c x hx
 ·intro c _ hn
  exact cU c (λ e=>by subst e; exact hn _ h.mem)
 ·intro c x hx
  rcases h.old hw.nd c x hx with ⟨rfl,_⟩ | ⟨_,hx⟩
  ·exact .inl ⟨_,h.mem⟩
  ·exact .inl ⟨_,hx⟩
theorem aS.store{a:Addr}{v:Value}{cs:Array Value}{e:TypeId}{H':ah}{K:Unit→az→ah→Prop}(h1:v.oneCell'=true)(ha:a.spot=none)(bS:a.off < cs.size)
  (hs:fF H a.block (.cells cs e (0,0)) (.cells (cs.setIfInBounds a.off v) e (0,0)) H') (hk:K () R H'):aS P B R H (store a v) K:=by
 intro w hw
 have hb:w.heap[a.block]? = some (.cells cs e (0,0)):=hw.h _ _ hs.mem
 have hc:w.cell? a=some cs[a.off]:=by simp [World.cell?,hb,ha,bS]
 have hf:w.frozen? a=false:=by simp [World.frozen?,hb]
 have QZ:w.setCell a v={ w with heap:=w.heap.setIfInBounds a.block (.cells (cs.setIfInBounds a.off v) e (0,0)) }:=by
  simp only [World.setCell]
  congr 1
  apply Array.ext_getElem?
  intro i
  rw [Array.getElem?_modify]
  by_cases hi:a.block=i
  ·subst hi
   rw [u6 (l9 hb),hb]
   simp [ha]
  ·simp [hi,nk hi]
 refine ⟨(),w.setCell a v,R,H',by rw [run_store P w a v _ h1]; simp [hc,hf],?_,?_,hk⟩
 ·intro e he
  rw [events_store P w #[] a v _ h1] at he
  simp [hc,hf] at he
  subst he
  refine ⟨rfl,?_,.inr (.inl ⟨_,hs.mem⟩)⟩
  simpa [World.setCell] using l9 hb
 ·rw [QZ]; exact hw.QZ hs
def Obj.plain:Obj→Bool
 | .cells .. => false
 | .chan .. => false
 | _=>true
theorem aS.getObj{r:Nat}{o:Obj}{K:Obj→az→ah→Prop}(ho:Obj.plain o=true)(h:R r=some o∨(r,o)∈H)(hk:K o R H):aS P B R H (getObj r) K:=by
 intro w hw
 have hh:w.heap[r]? = some o:=h.elim (hw.r _ _) (hw.h _ _)
 have kV:(Go.getObj r).run P w = .ok o w:=by
  cases o <;> simp_all [Obj.plain,Go.getObj,Sem.run]
 have ko:(Go.getObj r).events P w #[]=#[⟨.obj r,false,false⟩]:=by
  cases o <;> simp_all [Obj.plain,Go.getObj,Sem.events,Sem.runT,Obj.isChan,-Sem.runT_eq]
 refine ⟨o,w,R,H,kV,?_,gu.refl hw,hk⟩
 intro e he
 rw [ko] at he
 simp at he
 subst he
 exact ⟨rfl,l9 hh,h.elim (λ x=>.inl ⟨rfl,by simp [x]⟩) (λ x=>.inr (.inl ⟨_,x⟩))⟩
theorem aS.setObj{r:Nat}{o o':Obj}{H':ah}{K:Unit→az→ah→Prop}(ho:Obj.plain o=true)(fA:Obj.plain o'=true)(hs:fF H r o o' H')(hk:K () R H'):aS P B R H (setObj r o') K:=by
 intro w hw
 have hh:w.heap[r]? = some o:=hw.h _ _ hs.mem
 have kV:(Go.setObj r o').run P w = .ok () { w with heap:=w.heap.setIfInBounds r o' }:=by
  cases o <;> simp_all [Obj.plain,Go.setObj,Sem.run]
 have ko:(Go.setObj r o').events P w #[]=#[⟨.obj r,true,false⟩]:=by
  cases o <;> simp_all [Obj.plain,Go.setObj,Sem.events,Sem.runT,-Sem.runT_eq] <;> (cases o' <;> simp_all [Obj.isChan])
 refine ⟨(),_,R,H',kV,?_,hw.QZ hs,hk⟩
 intro e he
 rw [ko] at he
 simp at he
 subst he
 exact ⟨rfl,by simpa using l9 hh,.inr (.inl ⟨_,hs.mem⟩)⟩
theorem aS.choose{q:Question}{K:Nat→az→ah→Prop}(hk:∀ t,K (if q.forced then 0 else q.cut t) R H):aS P B R H (choose q) K:=by
 intro w hw
 cases hf:q.forced with
 | true =>
  have:=hk 0
  rw [hf] at this
  exact ⟨0,w,R,H,by simp [Go.choose,Sem.run,hf],by simp,gu.refl hw,by simpa using this⟩
 | false =>
  have:=hk (w.tape w.drawn q)
  rw [hf] at this
  exact ⟨q.cut (w.tape w.drawn q),{ w with drawn:=w.drawn+1 },R,H,by simp [Go.choose,Sem.run,hf],by simp,⟨⟨hw.r,hw.h,hw.nd,hw.dj,hw.os,hw.tape,hw.out⟩,λ _ _ x=>x,dD _,λ _ _ _=>rfl,λ _ _ x=>.inl x,λ _ o x=>.inl ⟨o,x⟩⟩,by simpa using this⟩
theorem aS.aNJ{K:Unit→az→ah→Prop}(hk:K () R H):aS P B R H (mark .noRoom) K :=
 λ w hw=>⟨(),w,R,H,rfl,by simp [iG],gu.refl hw,hk⟩
end
structure Jd (P:Program) (B:Base) (main:Bool) where
 J:az→ah→Goroutine→Prop
 step:∀ {R H g},g.status = .running→(∀ w,Fits B R H w→∃ g' w' es R' H',stepG P main g w = .go g' w' es∧(∀ e∈es,iG R H w.heap.size w'.heap.size e)∧gu B R H w R' H' w'∧J R' H' g')→J R H g
 ghost:∀ {R H R' H' g},(∀ w,Fits B R H w→gu B R H w R' H' w)→J R' H' g→J R H g
abbrev St:=List (Nat × Value)
structure Ctx where
 fn:FuncId
 kind:CallKind
 ro:Option Nat
 n:Nat
 defers:List Deferred
 cs:List Frame
def bc(fr:Frame)(cs:List Frame):Goroutine:={ frame:=fr,callers:=cs,status:=.running,dying:=none }
def ba(c:Ctx)(tmps:Array Value)(todo:List Item):Frame:={ fn:=c.fn,tmps,todo,defers:=c.defers,mode:=.run,kind:=c.kind,roundOf:=c.ro }
def de(n:Nat)(st:St)(tmps:Array Value):Prop:=tmps.size=n∧∀ t v,st.lookup t=some v→tmps[t]? = some v
def cx(st:St):St→Prop
 | []=>True
 | p::r=>st.lookup p.1=some p.2∧cx st r
def ay(st st':St):Prop:=∀ t v,st'.lookup t=some v→st.lookup t=some v
theorem cx.sub{st:St}:∀ {st':St},cx st st'→ay st st'
 | [],_,_,_,h=>by cases h
 | p::r,hs,t,v,h=>by
  rw [List.lookup_cons] at h
  split at h
  ·rename_i heq
   cases h
   have:t=p.1:=by simpa using heq
   subst this
   exact hs.1
  ·exact cx.sub hs.2 t v h
theorem ay.refl(st:St):ay st st:=λ _ _ h=>h
theorem de.sub{n:Nat}{st st':St}{tmps:Array Value}(h:de n st tmps)(hs:ay st st'):de n st' tmps:=⟨h.1,λ t v x=>h.2 t v (hs t v x)⟩
def cE(dst:Option Tmp)(v:Value)(st:St):St:=match dst with | some d=>(d,v)::st | none=>st
theorem ay.put{dst:Option Tmp}{d:Tmp}{v:Value}{st:St}(h:dst=some d):ay (cE dst v st) ((d,v)::st):=by subst h; exact ay.refl _
theorem ay.Sp{dst:Option Tmp}{v:Value}{st:St}(h:dst=none):ay (cE dst v st) st:=by subst h; exact ay.refl _
def gb(dst:Option Tmp)(v:Value)(tmps:Array Value):Array Value:=match dst with | some d=>tmps.setIfInBounds d v | none=>tmps
def arf(dst:Option Tmp)(n:Nat):Bool:=match dst with | some d=>Nat.blt d n | none=>true
def cB(dst:Option Tmp)(n:Nat):Prop:=arf dst n=true
theorem cB.lt{d n:Nat}(h:cB (some d) n):d < n:=by
 have:Nat.blt d n=true:=h
 simpa [Nat.blt_eq] using this
theorem de.put{n:Nat}{st:St}{tmps:Array Value}(h:de n st tmps){dst:Option Tmp}(v:Value)(hd:cB dst n):de n (cE dst v st) (gb dst v tmps):=by
 cases dst with
 | none=>exact h
 | some d =>
  refine ⟨by simp [gb,h.1],λ t u hu=>?_⟩
  have hd':d < tmps.size:=by rw [h.1]; exact hd.lt
  simp only [cE,List.lookup_cons] at hu
  split at hu
  ·rename_i heq
   cases hu
   have:t=d:=by simpa using heq
   subst this
   simp [gb,hd']
  ·rename_i heq
   have cU:t≠d:=by simpa using heq
   simp only [gb]
   rw [nk (Ne.symm cU)]
   exact h.2 t u hu
def bn(st:St):Operand→Option Value
 | .tmp t=>st.lookup t
 | .const v=>some v
 | .global g=>some (.pointer (some ⟨g,0,none⟩))
 | .func f=>some (.func (.func f) #[] #[])
def Knows(st:St)(ρ:Operand→Value):Prop:=∀ x v,bn st x=some v→ρ x=v
theorem de.knows{n:Nat}{st:St}{tmps:Array Value}(h:de n st tmps)(c:Ctx)(todo:List Item):Knows st (ba c tmps todo).eval:=by
 intro x v hx
 cases x with
 | tmp t =>
  have:=h.2 t v hx
  simp [ba,Frame.eval,Array.getD_eq_getD_getElem?,this]
 | const u=>cases hx; rfl
 | global g=>cases hx; rfl
 | func f=>cases hx; rfl
section
variable {P:Program} {B:Base} {main:Bool} (ab:Jd P B main)
def At(c:Ctx)(R:az)(H:ah)(st:St)(todo:List Item):Prop:=∀ tmps,de c.n st tmps→ab.J R H (bc (ba c tmps todo) c.cs)
variable {ab} {c:Ctx} {R:az} {H:ah} {st:St} {k:List Item}
theorem At.sub{st':St}{todo:List Item}(hs:ay st st')(h:At ab c R H st' todo):At ab c R H st todo:=λ tmps ht=>h tmps (ht.sub hs)
theorem At.ghost{R':az}{H':ah}{todo:List Item}(hg:∀ w,Fits B R H w→gu B R H w R' H' w)(h:At ab c R' H' st todo):At ab c R H st todo:=λ tmps ht=>ab.ghost hg (h tmps ht)
theorem Jd.ctl{R:az}{H:ah}{g g':Goroutine}(hs:g.status = .running)(h:∀ w,stepG P main g w = .go g' w)(hj:ab.J R H g'):ab.J R H g :=
 ab.step hs λ w hw=>⟨g',w,#[],R,H,h w,by simp,gu.refl hw,hj⟩
theorem At.skip(h:At ab c R H st k):At ab c R H st (.code .skip::k):=λ tmps ht=>Jd.ctl rfl (λ w=>by simp [stepG,stepG.exec,bc,ba]) (h tmps ht)
theorem At.label{l:Nat}(h:At ab c R H st k):At ab c R H st (.code (.label l)::k):=λ tmps ht=>Jd.ctl rfl (λ w=>by simp [stepG,stepG.exec,bc,ba]) (h tmps ht)
theorem At.bI{id:Nat}(h:At ab c R H st k):At ab c R H st (.inBlock id::k):=λ tmps ht=>Jd.ctl rfl (λ w=>by simp [stepG,stepG.exec,bc,ba]) (h tmps ht)
theorem At.seq{x y:Code}(h:At ab c R H st (.code x :: .code y::k)):At ab c R H st (.code (.seq x y)::k):=λ tmps ht=>Jd.ctl rfl (λ w=>by simp [stepG,stepG.exec,bc,ba]) (h tmps ht)
theorem At.aZ{id:Nat}{x:Code}(h:At ab c R H st (.code x :: .inBlock id::k)):At ab c R H st (.code (.block id x)::k):=λ tmps ht=>Jd.ctl rfl (λ w=>by simp [stepG,stepG.exec,bc,ba]) (h tmps ht)
theorem At.scope{x:Code}(h:At ab c R H st (.code x :: .inScope x::k)):At ab c R H st (.code (.scope x)::k):=λ tmps ht=>Jd.ctl rfl (λ w=>by simp [stepG,stepG.exec,bc,ba]) (h tmps ht)
theorem At.enterLoop{x:Code}(h:At ab c R H st (.code x :: .inLoop x::k)):At ab c R H st (.code (.loop x)::k):=λ tmps ht=>Jd.ctl rfl (λ w=>by simp [stepG,stepG.exec,bc,ba]) (h tmps ht)
theorem At.inLoop{x:Code}(h:At ab c R H st (.code x :: .inLoop x::k)):At ab c R H st (.inLoop x::k):=λ tmps ht=>Jd.ctl rfl (λ w=>by simp [stepG,stepG.exec,bc,ba]) (h tmps ht)
theorem At.cu{id:Nat}{k':List Item}(he:exitTo id k=some k')(h:At ab c R H st k'):At ab c R H st (.code (.exit id)::k):=λ tmps ht=>Jd.ctl rfl (λ w=>by simp [stepG,stepG.exec,bc,ba,he]) (h tmps ht)
theorem At.region{id:Nat}{ops:Array Oper}(h:At ab c R H st (.inRegion ops (List.range ops.size)::k)):At ab c R H st (.code (.region id ops false)::k):=λ tmps ht=>Jd.ctl rfl (λ w=>by simp [stepG,stepG.exec,bc,ba]) (h tmps ht)
theorem At.aV{ops:Array Oper}(h:At ab c R H st k):At ab c R H st (.inRegion ops []::k):=λ tmps ht=>Jd.ctl rfl (λ w=>by simp [stepG,stepG.exec,bc,ba]) (h tmps ht)
theorem At.cond{x:Operand}{th el:Code}{t:Bool}(hx:bn st x=some (.bool t))(h1:t=true→At ab c R H st (.code th::k))(h2:t=false→At ab c R H st (.code el::k)):At ab c R H st (.code (.cond x th el)::k):=by
 intro tmps ht
 have he:=ht.knows c (.code (.cond x th el)::k) x _ hx
 cases t with
 | true=>exact Jd.ctl rfl (λ w=>by simp only [ba] at he; simp [stepG,stepG.exec,bc,ba,he]) (h1 rfl tmps ht)
 | false=>exact Jd.ctl rfl (λ w=>by simp only [ba] at he; simp [stepG,stepG.exec,bc,ba,he]) (h2 rfl tmps ht)
theorem At.cond_true{x:Operand}{th el:Code}(hx:bn st x=some (.bool true))(h:At ab c R H st (.code th::k)):At ab c R H st (.code (.cond x th el)::k):=At.cond hx (λ _=>h) (λ e=>by cases e)
theorem At.cond_false{x:Operand}{th el:Code}(hx:bn st x=some (.bool false))(h:At ab c R H st (.code el::k)):At ab c R H st (.code (.cond x th el)::k):=At.cond hx (λ e=>by cases e) (λ _=>h)
def nG:Op→Bool
 | .defer _=>true
 | _=>false
theorem qN{tmps:Array Value}{ops:Array Oper}{i:Nat}{rest:List Nat}{o:Oper}{w:World}(ho:ops[i]? = some o)(hw:Region.wanted o (yielded ops tmps)=true)(hd:nG o.op=false) :
  stepG P main (bc (ba c tmps (.inRegion ops (i::rest)::k)) c.cs) w=stepG.apply P true (ba c tmps (.inRegion ops (i::rest)::k)) c.cs none (execOp (ba c tmps (.inRegion ops (i::rest)::k)).eval o) w:=by
 cases hr:c.ro with
 | none=>simp [bc,stepG,stepG.exec,stepG.oper,Frame.oper?,ba,ho,hw,hr]
 | some l =>
  simp only [bc,stepG,stepG.exec,stepG.oper,Frame.oper?,ba,ho,hw,hr,Option.map_some,nm,if_true]
  split
  ·rename_i h1 h2; rw [h2] at hd; cases hd
  ·rfl
theorem acR{tmps:Array Value}{ops:Array Oper}{i:Nat}{rest:List Nat}{o:Oper}{w:World}(ho:ops[i]? = some o)(hw:Region.wanted o (yielded ops tmps)=false) :
  stepG P main (bc (ba c tmps (.inRegion ops (i::rest)::k)) c.cs) w = .go (bc (ba c (gb o.dst undef tmps) (.inRegion ops rest::k)) c.cs) w:=by
 simp only [bc,stepG,stepG.exec,ba,ho,hw,Option.map_some,nm,Frame.finish,aM,gb]
 cases o.dst <;> rfl
theorem rf{tmps:Array Value}{ops:Array Oper}{i:Nat}{rest:List Nat}{o:Oper}{v:Value}(ho:ops[i]? = some o) :
  (ba c tmps (.inRegion ops (i::rest)::k)).finish v=ba c (gb o.dst v tmps) (.inRegion ops rest::k):=by
 simp only [Frame.finish,ba,ho,aM,gb]
 cases o.dst <;> rfl
def cX(ops:Array Oper)(st:St)(o:Oper):Option Bool :=
 match o.guard with
 | none=>some true
 | some (j,want)=>match ((ops[j]?).bind (·.dst)).bind (st.lookup ·) with
  | some (.bool b)=>some (b == want)
  | some (.tuple _)=>some false
  | _=>none
theorem ln{n:Nat}{ops:Array Oper}{tmps:Array Value}{o:Oper}{b:Bool}(ht:de n st tmps)(h:cX ops st o=some b):Region.wanted o (yielded ops tmps)=b:=by
 unfold cX at h
 unfold Region.wanted
 split at h
 ·rename_i hg; simp only [hg]; exact j6 h
 ·rename_i j want hg
  simp only [hg,yielded]
  cases hd:(ops[j]?).bind (·.dst) with
  | none=>simp [hd] at h
  | some d =>
   simp only [hd,aM] at h ⊢
   cases hl:st.lookup d with
   | none=>simp [hl] at h
   | some v =>
    rw [hl] at h
    rw [ht.2 d v hl]
    cases v <;> simp at h ⊢ <;> first | (rw [← h]; done) | exact h.symm | (subst h; rfl)
theorem Dx{fr:Frame}{cs:List Frame}{s:Sem Next}{w w':World}{v:Value}(hk:fr.kind ≠ .early)(hr:s.run P w = .ok (.value v) w') :
  stepG.apply P true fr cs none s w = .go (bc (fr.finish v) cs) w' (seen P fr.fn (s.events P w #[])):=by
 have dP:(fr.kind == CallKind.early)=false:=by simpa using hk
 simp [stepG.apply,hr,bc,dP,GStep.after]
theorem Vb{fr:Frame}{cs:List Frame}{s:Sem Next}{w w':World}(hk:fr.kind ≠ .early)(hr:s.run P w = .ok .skip w') :
  stepG.apply P true fr cs none s w = .go (bc (fr.finish undef) cs) w' (seen P fr.fn (s.events P w #[])):=by
 have dP:(fr.kind == CallKind.early)=false:=by simpa using hk
 simp [stepG.apply,hr,bc,dP,GStep.after]
theorem Kf{fr:Frame}{cs:List Frame}{s:Sem Next}{w w':World}{f:FuncId}{args:Array Value}{ops:Array Oper}{is:List Nat}{k:List Item}(ht:fr.todo = .inRegion ops is::k)(hk:fr.kind ≠ .early)(hr:s.run P w = .ok (.enter f args) w') :
  stepG.apply P true fr cs none s w = .go (bc (Frame.enter P f args .normal) (fr::cs)) w' (seen P fr.fn (s.events P w #[])):=by
 have dP:(fr.kind == CallKind.early)=false:=by simpa using hk
 simp [stepG.apply,hr,bc,dP,GStep.after,ht]
theorem At.op{ops:Array Oper}{i:Nat}{rest:List Nat}{o:Oper}(ho:ops[i]? = some o)(hw:cX ops st o=some true)(hd:nG o.op=false)(hk:c.kind ≠ .early)
  (h:∀ ρ,Knows st ρ→aS P B R H (execOp ρ o) λ nx R' H'=>∃ v,(nx = .value v∨(nx = .skip∧v=undef))∧cB o.dst c.n∧∃ st',ay (cE o.dst v st) st'∧At ab c R' H' st' (.inRegion ops rest::k)) :
  At ab c R H st (.inRegion ops (i::rest)::k):=by
 intro tmps ht
 refine ab.step rfl λ w rv=>?_
 obtain ⟨nx,w',R',H',h1,h2,h3,v,hv,mi,st',hs,kl⟩:=h _ (ht.knows c _) w rv
 refine ⟨bc (ba c (gb o.dst v tmps) (.inRegion ops rest::k)) c.cs,w',seen P c.fn ((execOp (ba c tmps (.inRegion ops (i::rest)::k)).eval o).events P w #[]),R',H',?_,λ e he=>h2 e (mem_seen he),h3,kl _ ((ht.put v mi).sub hs)⟩
 rw [qN ho (ln ht hw) hd,← rf (rest:=rest) (k:=k) (c:=c) (tmps:=tmps) (v:=v) ho]
 rcases hv with rfl | ⟨rfl,rfl⟩
 ·exact Dx hk h1
 ·exact Vb hk h1
theorem At.unwanted{ops:Array Oper}{i:Nat}{rest:List Nat}{o:Oper}{st':St}(ho:ops[i]? = some o)(hw:cX ops st o=some false)(mi:cB o.dst c.n)(hs:ay (cE o.dst undef st) st')
  (h:At ab c R H st' (.inRegion ops rest::k)):At ab c R H st (.inRegion ops (i::rest)::k) :=
 λ _ ht=>Jd.ctl rfl (λ _=>acR ho (ln ht hw)) (h _ ((ht.put undef mi).sub hs))
def bd(ab:Jd P B main)(f:FuncId)(args:Array Value)(R:az)(H:ah)(Post:Value→az→ah→Prop):Prop :=
 ∀ fr cs,(∀ v R' H',Post v R' H'→ab.J R' H' (bc (fr.finish v) cs))→ab.J R H (bc (Frame.enter P f args .normal) (fr::cs))
theorem bd.mono{f:FuncId}{args:Array Value}{Post J3:Value→az→ah→Prop}(h:bd ab f args R H Post)(hp:∀ v R' H',Post v R' H'→J3 v R' H'):bd ab f args R H J3 :=
 λ fr cs hk=>h fr cs λ v R' H' hv=>hk v R' H' (hp v R' H' hv)
theorem At.enters{ops:Array Oper}{i:Nat}{rest:List Nat}{o:Oper}{f:FuncId}{args:Array Value}{Post:Value→az→ah→Prop}(ho:ops[i]? = some o)(hw:cX ops st o=some true)(hd:nG o.op=false)(hk:c.kind ≠ .early)(mi:cB o.dst c.n)
  (he:∀ ρ,Knows st ρ→ai P (execOp ρ o) (.enter f args)) (hf:bd ab f args R H Post)
  (h:∀ v R' H',Post v R' H'→∃ st',ay (cE o.dst v st) st'∧At ab c R' H' st' (.inRegion ops rest::k)) :
  At ab c R H st (.inRegion ops (i::rest)::k):=by
 intro tmps ht
 refine ab.step rfl λ w rv=>?_
 have hv:=he _ (ht.knows c (.inRegion ops (i::rest)::k)) w
 refine ⟨bc (Frame.enter P f args .normal) (ba c tmps (.inRegion ops (i::rest)::k)::c.cs),w,seen P c.fn ((execOp (ba c tmps (.inRegion ops (i::rest)::k)).eval o).events P w #[]),R,H,?_,?_,gu.refl rv,hf _ _ λ v R' H' hp=>?_⟩
 ·rw [qN ho (ln ht hw) hd]
  exact Kf rfl hk hv.1
 ·intro e LC
  have:=mem_seen LC
  rw [hv.2] at this
  simp at this
 ·obtain ⟨st',hs,kl⟩:=h v R' H' hp
  rw [rf ho]
  exact kl _ ((ht.put v mi).sub hs)
def qa(ab:Jd P B main)(c:Ctx)(o:Oper)(R:az)(H:ah)(st:St)(C:az→ah→St→Prop):Prop :=
 nG o.op=false∧cB o.dst c.n ∧
  ((∀ ρ,Knows st ρ→aS P B R H (execOp ρ o) λ nx R' H'=>∃ v,(nx = .value v∨(nx = .skip∧v=undef))∧∃ st',ay (cE o.dst v st) st'∧C R' H' st') ∨
   (∃ f args,(∀ ρ,Knows st ρ→ai P (execOp ρ o) (.enter f args))∧bd ab f args R H λ v R' H'=>∃ st',ay (cE o.dst v st) st'∧C R' H' st'))
def bf(P:Program)(B:Base)(c:Ctx)(o:Oper)(R:az)(H:ah)(st:St)(C:az→ah→St→Prop):Prop :=
 nG o.op=false∧cB o.dst c.n∧∀ ρ,Knows st ρ→aS P B R H (execOp ρ o) λ nx R' H'=>∃ v,(nx = .value v∨(nx = .skip∧v=undef))∧∃ st',ay (cE o.dst v st) st'∧C R' H' st'
theorem bf.to{o:Oper}{C:az→ah→St→Prop}(h:bf P B c o R H st C):qa ab c o R H st C:=⟨h.1,h.2.1,.inl h.2.2⟩
theorem At.step{ops:Array Oper}{i:Nat}{rest:List Nat}{o:Oper}(ho:ops[i]? = some o)(hw:cX ops st o=some true)(hk:(c.kind == CallKind.early)=false)
  (h:qa ab c o R H st λ R' H' st'=>At ab c R' H' st' (.inRegion ops rest::k)):At ab c R H st (.inRegion ops (i::rest)::k):=by
 obtain ⟨hd,mi,h | ⟨f,args,h1,h2⟩⟩:=h
 ·exact At.op ho hw hd (by simpa using hk) λ ρ bl=>(h ρ bl).mono λ nx R' H' ⟨v,hv,hx⟩=>⟨v,hv,mi,hx⟩
 ·exact At.enters ho hw hd (by simpa using hk) mi h1 h2 λ v R' H' hx=>hx
theorem At.jb{ops:Array Oper}{i:Nat}{rest:List Nat}{o:Oper}(ho:ops[i]? = some o)(hw:cX ops st o=some true)(hk:(c.kind == CallKind.early)=false)
  (h:bf P B c o R H st λ R' H' st'=>At ab c R' H' st' (.inRegion ops rest::k)):At ab c R H st (.inRegion ops (i::rest)::k):=At.step ho hw hk h.to
theorem At.aPq{id n:Nat}{is:List Nat}{ops:Array Oper}(hn:ops.size=n)(mT:List.range n=is)(h:At ab c R H st (.inRegion ops is::k)):At ab c R H st (.code (.region id ops false)::k):=by
 subst hn; subst mT; exact At.region h
def vg:Nat→List Value→St
 | _,[]=>[]
 | i,v::r=>(i,v)::vg (i+1) r
theorem Kg:∀ (args:List Value) (i t:Nat) (v:Value),(vg i args).lookup t=some v→i≤t∧args[t - i]? = some v
 | [],_,_,_,h=>by cases h
 | a::r,i,t,v,h=>by
  simp only [vg,List.lookup_cons] at h
  split at h
  ·rename_i heq
   cases h
   have:t=i:=by simpa using heq
   subst this
   simp
  ·rename_i heq
   have cU:t≠i:=by simpa using heq
   obtain ⟨h1,h2⟩:=Kg r (i+1) t v h
   refine ⟨by omega,?_⟩
   have:t - i=(t - (i+1))+1:=by omega
   rw [this]
   simpa using h2
theorem bd.oZ{f:FuncId}{fn:Func}{body:Code}{args:List Value}{n:Nat}{Post:Value→az→ah→Prop}(hf:P.funcs[f]? = some fn)(hb:fn.body=some body)(qn:fn.ntmps=n)(hn:Nat.ble args.length n=true)
  (h:∀ fr cs,(∀ v R' H',Post v R' H'→ab.J R' H' (bc (fr.finish v) cs))→At ab ⟨f,.normal,none,n,[],fr::cs⟩ R H (vg 0 args) [.code body]):bd ab f args.toArray R H Post:=by
 subst qn
 intro fr cs hk
 have hn:args.length≤fn.ntmps:=by simpa [Nat.ble_eq] using hn
 have:=h fr cs hk (args.toArray++Array.replicate (fn.ntmps - args.length) undef) ⟨by simp; omega,λ t v ht=>?_⟩
 ·have e:Frame.enter P f args.toArray .normal=ba ⟨f,.normal,none,fn.ntmps,[],fr::cs⟩ (args.toArray++Array.replicate (fn.ntmps - args.length) undef) [.code body]:=by
   simp [Frame.enter,ba,hf,hb]
  rw [e]
  exact this
 ·obtain ⟨_,h2⟩:=Kg args 0 t v ht
  have bS:t < args.length:=by
   have:=(iF.1 h2).1
   simpa using this
  rw [Array.getElem?_append_left (by simpa using bS)]
  simpa using h2
def Ao(st:St):List ResultVar→Option (List Value)
 | []=>some []
 | .tmp t::r=>match st.lookup t,Ao st r with
  | some v,some vs=>some (v::vs)
  | _,_=>none
 | .cell _ _::_=>none
def iO:List Value→Value
 | [v]=>v
 | vs=>.tuple vs.toArray
theorem alV{st:St}{tmps:Array Value}{n:Nat}(ht:de n st tmps):∀ (l:List ResultVar) (vs:List Value),Ao st l=some vs →
  ai P (l.mapM (m:=Sem) λ
   | .tmp t=>pure (tmps.getD t undef)
   | .cell a t=>do loadVar t (← asAddr (tmps.getD a undef))) vs
 | [],vs,h=>by cases h; exact ai.bL _
 | .tmp t::r,vs,h=>by
  simp only [Ao] at h
  cases hl:st.lookup t with
  | none=>simp [hl] at h
  | some v =>
   cases hr:Ao st r with
   | none=>simp [hl,hr] at h
   | some us =>
    simp only [hl,hr,jl] at h
    subst h
    rw [List.mapM_cons]
    refine ai.bR (a:=v) ?_ (ai.bR (alV ht r us hr) (ai.bL _))
    have:tmps.getD t undef=v:=by simp [Array.getD_eq_getD_getElem?,ht.2 t v hl]
    show ai P (pure (tmps.getD t undef)) v
    rw [this]; exact ai.bL _
 | .cell _ _::_,_,h=>by cases h
theorem ac9{fn:Func}{st:St}{tmps:Array Value}{n:Nat}{vs:List Value}(ht:de n st tmps)(h:Ao st fn.results.toList=some vs):ai P (results fn tmps) (iO vs):=by
 unfold results
 rw [← Array.toArray_toList (xs:=fn.results),List.mapM_toArray]
 refine ai.bR (ai.map (alV ht _ _ h)) ?_
 cases vs with
 | nil=>exact ai.bL _
 | cons v r=>cases r with
  | nil=>exact ai.bL _
  | cons _ _=>exact ai.bL _
end
theorem tE(b o n:Nat):(⟨b,o,none⟩:Addr).add n=⟨b,o+n,none⟩:=by
 unfold Addr.add; split
 ·subst_vars; rfl
 ·rfl
def gO(P:Program)(s f off:Nat):Prop:=∀ b o:Nat,ai P (Instr.fieldAt s (.pointer (some ⟨b,o,none⟩)) f) (.pointer (some ⟨b,o+off,none⟩))
def nW(P:Program)(t e n:Nat):Prop:=P.underlying t=some (.slice e)∧ai P (sizeOf e) n
def xd(P:Program)(t len e n:Nat):Prop:=P.underlying t=some (.array len e)∧ai P (sizeOf e) n
def anx(z:Int):Prop:=-9223372036854775808≤z∧z≤9223372036854775807
theorem amF{z:Int}(h:anx z):IntKind.wrap .i64 z=z:=by
 obtain ⟨h1,h2⟩:=h
 simp only [IntKind.wrap,IntKind.bits,IntKind.signed]
 simp
 omega
section
variable {P:Program} {B:Base} {main:Bool} {ab:Jd P B main} {c:Ctx} {R:az} {H:ah} {st st':St} {o:Oper} {C:az→ah→St→Prop}
theorem Ox.val{v:Value}(mS:nG o.op=false)(hd:cB o.dst c.n)
  (hv:∀ ρ,Knows st ρ→ai P (execOp ρ o) (.value v)) (hs:ay (cE o.dst v st) st') (h:C R H st'):bf P B c o R H st C :=
 ⟨mS,hd,λ ρ bl=>(hv ρ bl).ok ⟨v,.inl rfl,st',hs,h⟩⟩
theorem Ox.mG{s:(Operand→Value)→Sem Value}{v:Value}(mS:nG o.op=false)(hd:cB o.dst c.n)
  (he:∀ ρ,execOp ρ o=(do let x ← s ρ; pure (.value x))) (hv:∀ ρ,Knows st ρ→ai P (s ρ) v) (hs:ay (cE o.dst v st) st') (h:C R H st'):bf P B c o R H st C :=
 Ox.val mS hd (λ ρ bl=>by rw [he]; exact ai.bR (hv ρ bl) (ai.bL _)) hs h
theorem Ox.mem{s:(Operand→Value)→Sem Value}(mS:nG o.op=false)(hd:cB o.dst c.n)
  (he:∀ ρ,execOp ρ o=(do let x ← s ρ; pure (.value x)))
  (hv:∀ ρ,Knows st ρ→aS P B R H (s ρ) λ v R' H'=>∃ st',ay (cE o.dst v st) st'∧C R' H' st'):bf P B c o R H st C :=
 ⟨mS,hd,λ ρ bl=>by
  rw [he]
  exact aS.dK ((hv ρ bl).mono λ v R' H' ⟨st',hs,h⟩=>aS.eB ⟨v,.inl rfl,st',hs,h⟩)⟩
theorem Ox.Se{s:(Operand→Value)→Sem Unit}(mS:nG o.op=false)(hd:o.dst=none)
  (he:∀ ρ,execOp ρ o=(do s ρ; pure .skip)) (hs:ay st st')
  (hv:∀ ρ,Knows st ρ→aS P B R H (s ρ) λ _ R' H'=>C R' H' st'):bf P B c o R H st C :=
 ⟨mS,by rw [hd]; rfl,λ ρ bl=>by
  rw [he]
  exact aS.dK ((hv ρ bl).mono λ v R' H' h=>aS.eB ⟨undef,.inr ⟨rfl,rfl⟩,st',by rw [hd]; exact hs,h⟩)⟩
theorem Ox.move{x:Operand}{v:Value}(au:o.op = .move x)(hx:bn st x=some v)(hd:cB o.dst c.n)
  (hs:ay (cE o.dst v st) st') (h:C R H st'):bf P B c o R H st C :=
 Ox.val (by rw [au]; rfl) hd (λ ρ bl=>by simp only [execOp,au,bl x v hx]; exact ai.bL _) hs h
theorem Ox.assign{x:Operand}{v:Value}(au:o.op = .assign x)(hx:bn st x=some v)(hd:cB o.dst c.n)
  (hs:ay (cE o.dst v st) st') (h:C R H st'):bf P B c o R H st C :=
 Ox.val (by rw [au]; rfl) hd (λ ρ bl=>by simp only [execOp,au,bl x v hx]; exact ai.bL _) hs h
theorem Ox.aOZ{x y z:Operand}{v:Value}(au:o.op = .pick x y z)(hx:bn st x=some (.bool true))(hy:bn st y=some v)(hd:cB o.dst c.n)
  (hs:ay (cE o.dst v st) st') (h:C R H st'):bf P B c o R H st C :=
 Ox.val (by rw [au]; rfl) hd (λ ρ bl=>by
  simp only [execOp,au,bl x _ hx,bl y v hy,asBool]
  exact ai.bR (ai.bL true) (ai.bL _)) hs h
theorem Ox.aOY{x y z:Operand}{v:Value}(au:o.op = .pick x y z)(hx:bn st x=some (.bool false))(hz:bn st z=some v)(hd:cB o.dst c.n)
  (hs:ay (cE o.dst v st) st') (h:C R H st'):bf P B c o R H st C :=
 Ox.val (by rw [au]; rfl) hd (λ ρ bl=>by
  simp only [execOp,au,bl x _ hx,bl z v hz,asBool]
  exact ai.bR (ai.bL false) (ai.bL _)) hs h
theorem Ox.fieldAddr{x:Operand}{s f off b n:Nat}(au:o.op = .fieldAddr s x f)(hx:bn st x=some (.pointer (some ⟨b,n,none⟩)))(hf:gO P s f off)(hd:cB o.dst c.n)
  (hs:ay (cE o.dst (.pointer (some ⟨b,n+off,none⟩)) st) st') (h:C R H st'):bf P B c o R H st C :=
 Ox.mG (s:=λ ρ=>Instr.fieldAt s (ρ x) f) (by rw [au]; rfl) hd (λ ρ=>by simp only [execOp,au]) (λ ρ bl=>by rw [bl x _ hx]; exact hf b n) hs h
theorem ac8{t e n b m len cap:Nat}{kd:IntKind}{j:Nat}(ht:nW P t e n)(hj:j < len) :
  ai P (Instr.indexAt t (.slice (some ⟨b,m,none⟩) len cap) (.int kd (j:Int))) (.pointer (some ⟨b,m+j * n,none⟩)):=by
 unfold Instr.indexAt
 refine ai.bR (a:=(kd,(j:Int))) (ai.bL _) (ai.bR (ai.underlying ht.1) (ai.bR (a:=(some (⟨b,m,none⟩:Addr),len,e)) (ai.bL _) (ai.bR (ai.underlying ht.1) ?_)))
 have h1:(0:Int)≤(j:Int)∧(j:Int) < (len:Int):=by omega
 simp only [h1,and_self,if_true,eD]
 refine ai.bR ht.2 ?_
 rw [tE]
 exact ai.bL _
theorem aQ3{t e n b m len:Nat}{kd:IntKind}{j:Nat}(ht:xd P t len e n)(hj:j < len) :
  ai P (Instr.indexAt t (.pointer (some ⟨b,m,none⟩)) (.int kd (j:Int))) (.pointer (some ⟨b,m+j * n,none⟩)):=by
 unfold Instr.indexAt
 refine ai.bR (a:=(kd,(j:Int))) (ai.bL _) (ai.bR (ai.underlying ht.1) (ai.bR (a:=(⟨b,m,none⟩:Addr)) (ai.bL _) (ai.bR (a:=(some (⟨b,m,none⟩:Addr),len,e)) (ai.bL _) (ai.bR (ai.underlying ht.1) ?_))))
 have h1:(0:Int)≤(j:Int)∧(j:Int) < (len:Int):=by omega
 simp only [h1,and_self,if_true,eD]
 refine ai.bR ht.2 ?_
 rw [tE]
 exact ai.bL _
theorem FX(op:BinOp)(t:TypeId)(x y:Operand)(ka kb:IntKind)(a b:Int):ai P (eqGuard op t x y (.int ka a) (.int kb b)) ():=by
 unfold eqGuard
 cases op <;> exact ai.bL _
def VU:BinOp→Int→Int→Option Bool
 | .eql,x,y=>some (x == y)
 | .neq,x,y=>some (x != y)
 | .lss,x,y=>some (decide (x < y))
 | .leq,x,y=>some (decide (x≤y))
 | .gtr,x,y=>some (decide (x > y))
 | .geq,x,y=>some (decide (x ≥ y))
 | _,_,_=>none
theorem Ox.cmp{x y:Operand}{bo:BinOp}{t u:TypeId}{a b:Int}{kd:IntKind}{r:Bool}(au:o.op = .binOp bo t x y u)(hx:bn st x=some (.int kd a))(hy:bn st y=some (.int kd b))(hr:VU bo a b=some r)
  (hd:cB o.dst c.n) (hs:ay (cE o.dst (.bool r) st) st') (h:C R H st'):bf P B c o R H st C :=
 Ox.mG (s:=λ ρ=>do eqGuard bo t x y (ρ x) (ρ y); binOp bo t (ρ x) (ρ y)) (by rw [au]; rfl) hd (λ ρ=>by simp only [execOp,au]) (λ ρ bl=>by
  rw [bl x _ hx,bl y _ hy]
  refine ai.bR (FX _ _ _ _ _ _ _ _) ?_
  cases bo <;> simp only [VU,jl,reduceCtorEq] at hr <;> subst hr <;> simp only [binOp,ne_eq,jo,if_false] <;> exact ai.bL _) hs h
def Vd:BinOp→Int→Int→Option Int
 | .add,x,y=>some (x+y)
 | .sub,x,y=>some (x - y)
 | .mul,x,y=>some (x * y)
 | _,_,_=>none
theorem Ox.not{x:Operand}{t:TypeId}{a:Bool}(au:o.op = .unOp .not t x)(hx:bn st x=some (.bool a))
  (hd:cB o.dst c.n) (hs:ay (cE o.dst (.bool (!a)) st) st') (h:C R H st'):bf P B c o R H st C :=
 Ox.mG (s:=λ ρ=>Op.unary .not (ρ x)) (by rw [au]; rfl) hd (λ ρ=>by simp only [execOp,au]) (λ ρ bl=>by rw [bl x _ hx]; exact ai.bL _) hs h
theorem Ox.extract{x:Operand}{j:Nat}{vs:Array Value}{v:Value}(au:o.op = .extract x j)(hx:bn st x=some (.tuple vs))(hj:vs[j]? = some v)
  (hd:cB o.dst c.n) (hs:ay (cE o.dst v st) st') (h:C R H st'):bf P B c o R H st C :=
 Ox.mG (s:=λ ρ=>Instr.extract (ρ x) j) (by rw [au]; rfl) hd (λ ρ=>by simp only [execOp,au]) (λ ρ bl=>by
  rw [bl x _ hx]
  simp only [Instr.extract,hj]; exact ai.bL _) hs h
theorem Ox.makeFunc{fn:Fn}{first captured:Array Operand}{vs us:Array Value}(au:o.op = .makeFunc fn first captured)(h1:first.toList.mapM (bn st)=some vs.toList)(h2:captured.toList.mapM (bn st)=some us.toList)
  (hd:cB o.dst c.n) (hs:ay (cE o.dst (.func fn vs us) st) st') (h:C R H st'):bf P B c o R H st C :=
 Ox.mG (s:=λ ρ=>Instr.makeFunc fn (first.map ρ) (captured.map ρ)) (by rw [au]; rfl) hd (λ ρ=>by simp only [execOp,au]) (λ ρ bl=>by
  have key:∀ (l:List Operand) (r:List Value),l.mapM (bn st)=some r→l.map ρ=r:=by
   intro l
   induction l with
   | nil=>intro r hr; simpa using hr
   | cons a l ih =>
    intro r hr
    rw [List.mapM_cons] at hr
    cases ha:bn st a with
    | none=>simp [ha] at hr
    | some u =>
     cases hl:l.mapM (bn st) with
     | none=>simp [ha,hl] at hr
     | some us =>
      simp [ha,hl] at hr
      subst hr
      simp [bl a u ha,ih us hl]
  have e1:first.map ρ=vs:=by apply Array.ext'; simpa using key _ _ h1
  have e2:captured.map ρ=us:=by apply Array.ext'; simpa using key _ _ h2
  rw [e1,e2]
  exact ai.bL _) hs h
theorem Ox.len{x:Operand}{t e:TypeId}{a:Option Addr}{n cap:Nat}(au:o.op = .call ⟨.builtin .len,#[x],#[t]⟩)(hx:bn st x=some (.slice a n cap))(ht:P.underlying t=some (.slice e))
  (hd:cB o.dst c.n) (hs:ay (cE o.dst (.int .i64 (n:Int)) st) st') (h:C R H st'):bf P B c o R H st C :=
 Ox.val (by rw [au]; rfl) hd (λ ρ bl=>by
  simp only [execOp,au]
  refine ai.bR (a:=⟨.builtin .len #[t] o.type (#[x].map λ | .const _=>true | _=>false),#[x].map ρ⟩) (ai.bL _) ?_
  simp only [invoke,builtin]
  refine ai.bR (a:=.int .i64 (n:Int)) ?_ (ai.bL _)
  have e:(#[x].map ρ)=#[.slice a n cap]:=by simp [bl x _ hx]
  rw [e]
  exact ai.bR (ai.underlying ht) (ai.bL _)) hs h
theorem Ox.RL{x:Operand}{t:TypeId}{s:ByteArray}(au:o.op = .call ⟨.builtin .len,#[x],#[t]⟩)(hx:bn st x=some (.string s))(ht:P.underlying t=some .string)
  (hd:cB o.dst c.n) (hs:ay (cE o.dst (.int .i64 (s.size:Int)) st) st') (h:C R H st'):bf P B c o R H st C :=
 Ox.val (by rw [au]; rfl) hd (λ ρ bl=>by
  simp only [execOp,au]
  refine ai.bR (a:=⟨.builtin .len #[t] o.type (#[x].map λ | .const _=>true | _=>false),#[x].map ρ⟩) (ai.bL _) ?_
  simp only [invoke,builtin]
  refine ai.bR (a:=.int .i64 (s.size:Int)) ?_ (ai.bL _)
  have e:(#[x].map ρ)=#[.string s]:=by simp [bl x _ hx]
  rw [e]
  exact ai.bR (ai.underlying ht) (ai.bL _)) hs h
theorem FW{f:FuncId}{fn:Func}{args:Array Value}(hf:P.funcs[f]? = some fn)(hn:(fn.name == "runtime.NumGoroutine")=false)(hb:fn.body.isNone=false):ai P (callFunc f args) (.enter f args):=by
 unfold callFunc
 refine ai.bR ai.program ?_
 simp only [hf,hn,hb]
 exact ai.bL _
structure bj (P:Program) (f:FuncId):Prop where
 ex:∃ fn,P.funcs[f]? = some fn∧(fn.name == "runtime.NumGoroutine")=false∧fn.body.isNone=false
def jw(st:St):List Operand→Option (List Value)
 | []=>some []
 | x::r=>match bn st x,jw st r with
  | some v,some vs=>some (v::vs)
  | _,_=>none
theorem Dy{st:St}{ρ:Operand→Value}(bl:Knows st ρ):∀ (l:List Operand) (r:List Value),jw st l=some r→l.map ρ=r
 | [],r,h=>by cases h; rfl
 | x::l,r,h=>by
  simp only [jw] at h
  cases hx:bn st x with
  | none=>simp [hx] at h
  | some v =>
   cases hl:jw st l with
   | none=>simp [hx,hl] at h
   | some vs =>
    simp [hx,hl] at h
    subst h
    simp [bl x v hx,Dy bl l vs hl]
theorem Ox.dV{ca:Call}{x:Operand}{f:FuncId}{first captured:Array Value}{vs:List Value}{args:Array Value}
  (au:o.op = .call ca) (hc:ca.callee = .value x) (hx:bn st x=some (.func (.func f) first captured)) (ha:jw st ca.args.toList=some vs) (he:bj P f) (Hu:first++vs.toArray++captured=args)
  (hd:cB o.dst c.n) (hf:bd ab f args R H λ v R' H'=>∃ st',ay (cE o.dst v st) st'∧C R' H' st'):qa ab c o R H st C :=
 ⟨by rw [au]; rfl,hd,.inr ⟨f,args,λ ρ bl=>by
  obtain ⟨fn,h1,h2,h3⟩:=he.ex
  simp only [execOp,au,resolve,hc,bl x _ hx,Deferred.ofValue]
  have e:ca.args.map ρ=vs.toArray:=by apply Array.ext'; simpa using Dy bl _ _ ha
  refine ai.bR (a:=⟨.fn (.func f) captured,first++vs.toArray⟩) (by rw [e]; exact ai.bL _) ?_
  simp only [invoke,Hu]
  exact FW h1 h2 h3,hf⟩⟩
end
def jv(P:Program)(t:TypeId)(cs:Array Value):Prop:=∃ z,ai P (zeroValue t) z∧z.cells=cs
def gG(P:Program)(t:TypeId):Prop:=ai P (isAgg t) false∧ai P (sizeOf t) 1
def np(P:Program)(t:TypeId)(n:Nat):Prop:=ai P (isAgg t) true∧ai P (sizeOf t) n
def aU(R:az)(H:ah)(b o:Nat)(vs:List Value):Prop:=∀ j v,vs[j]? = some v→Cell R H ⟨b,o+j,none⟩ v
theorem aU.known{R:az}{H:ah}{b o n:Nat}{cs:Array Value}{e:TypeId}{fz:Nat × Nat}{vs:List Value}(hm:R b=some (Obj.cells cs e fz))(hv:(cs.toList.drop o).take n=vs):aU R H b o vs:=by
 intro j v hj
 refine ⟨rfl,cs,e,fz,.inl hm,?_⟩
 subst hv
 rw [List.getElem?_take] at hj
 split at hj
 ·rw [List.getElem?_drop] at hj
  simpa using hj
 ·cases hj
def gx(cs:Array Value):Nat→List Value→Array Value
 | _,[]=>cs
 | o,v::r=>gx (cs.setIfInBounds o v) (o+1) r
theorem NY:∀ (vs:List Value) (cs:Array Value) (o:Nat),(gx cs o vs).size=cs.size
 | [],_,_=>rfl
 | v::r,cs,o=>by simp only [gx]; rw [NY r]; simp
theorem fF.mid{H H1 H':ah}{b:Nat}{o o' o'':Obj}(h:fF H b o o' H1)(k:fF H b o o'' H')(hn:(H.map (·.1)).Nodup):fF H1 b o' o'' H':=by
 induction h generalizing H' with
 | @here b o o' H =>
  cases k with
  | here=>exact .here
  | there k =>
   rw [List.map_cons,List.nodup_cons] at hn
   exact absurd (List.mem_map.2 ⟨_,k.mem,rfl⟩) hn.1
 | @there b o o' p H H1 hs ih =>
  cases k with
  | here =>
   rw [List.map_cons,List.nodup_cons] at hn
   exact absurd (List.mem_map.2 ⟨_,hs.mem,rfl⟩) hn.1
  | there k =>
   rw [List.map_cons,List.nodup_cons] at hn
   exact .there (ih k hn.2)
section
variable {P:Program} {B:Base} {main:Bool} {ab:Jd P B main} {c:Ctx} {R:az} {H H':ah} {st st':St} {o:Oper} {C:az→ah→St→Prop}
theorem aS.S8{b:Nat}{e:TypeId}{K:Unit→az→ah→Prop}:∀ (vs:List Value) (cs:Array Value) (off i:Nat) (H H':ah),(∀ v∈vs,v.oneCell'=true)→off+i+vs.length≤cs.size →
  fF H b (.cells cs e (0,0)) (.cells (gx cs (off+i) vs) e (0,0)) H'→(H.map (·.1)).Nodup→K () R H'→aS P B R H (storeCells ⟨b,off,none⟩ vs i) K
 | [],cs,off,i,H,H',_,_,hs,hn,hk=>by
  have e1:H'=H:=by
   have:∀ {H H':ah} {o:Obj},fF H b o o H'→H'=H:=by
    intro H H' o h
    induction H generalizing H' with
    | nil=>cases h
    | cons p r ih =>
     cases h with
     | here=>rfl
     | there h=>rw [ih h]
   exact this hs
  subst e1
  simp only [storeCells]
  exact aS.eB hk
 | v::r,cs,off,i,H,H',h1,hl,hs,hn,hk=>by
  simp only [storeCells]
  simp only [List.length_cons] at hl
  have hex:∀ (H:ah) (o o':Obj),(b,o)∈H→∃ H1,fF H b o o' H1:=by
   intro H o o' hm
   induction H with
   | nil=>cases hm
   | cons p r ih =>
    rcases fR.1 hm with rfl | hm
    ·exact ⟨_,.here⟩
    ·obtain ⟨H1,h1⟩:=ih hm
     exact ⟨_,.there h1⟩
  obtain ⟨H1,qp⟩:=hex H _ (.cells (cs.setIfInBounds (off+i) v) e (0,0)) hs.mem
  have YY:fF H1 b (.cells (cs.setIfInBounds (off+i) v) e (0,0)) (.cells (gx cs (off+i) (v::r)) e (0,0)) H':=fF.mid qp hs hn
  refine aS.dK ?_
  rw [tE]
  refine aS.store (h1 v (by simp)) rfl (by show off+i < cs.size; omega) qp ?_
  exact aS.S8 r (cs.setIfInBounds (off+i) v) off (i+1) H1 H' (λ u hu=>h1 u (by simp [hu])) (by simp; omega) (by simpa [gx,Nat.add_assoc] using YY) (by rw [qp.keys]; exact hn) hk
theorem aS.given{α:Type}{s:Sem α}{K:α→az→ah→Prop}(h:(H.map (·.1)).Nodup→aS P B R H s K):aS P B R H s K:=λ w hw=>h hw.nd w hw
theorem aS.storeVar{t:TypeId}{b off n:Nat}{e:TypeId}{v:Value}{cs:Array Value}{K:Unit→az→ah→Prop}(hn:ai P (sizeOf t) n)(hvn:v.cells.size=n)(h1:∀ u∈v.cells.toList,u.oneCell'=true)(hl:off+n≤cs.size)
  (hs:fF H b (.cells cs e (0,0)) (.cells (gx cs off v.cells.toList) e (0,0)) H') (hk:K () R H'):aS P B R H (storeVar t ⟨b,off,none⟩ v) K:=by
 refine aS.given λ dM=>?_
 unfold Go.storeVar
 refine ai.fv hn ?_
 simp only [hvn,ne_eq,jo,if_false]
 exact aS.S8 _ cs off 0 H H' h1 (by simp [hvn]; exact hl) (by simpa using hs) dM hk
theorem aS.loadCellsFrom{b off:Nat}{K:Array Value→az→ah→Prop}:∀ (vs:List Value) (i:Nat) (acc:Array Value),aU R H b (off+i) vs→K (acc++vs.toArray) R H→aS P B R H (loadCellsFrom ⟨b,off,none⟩ i vs.length acc) K
 | [],i,acc,_,hk=>by
  simp only [List.length_nil,Go.loadCellsFrom]
  exact aS.eB (by simpa using hk)
 | v::r,i,acc,hc,hk=>by
  simp only [List.length_cons,Go.loadCellsFrom]
  refine aS.dK ?_
  rw [tE]
  refine aS.load (v:=v) (by simpa using hc 0 v rfl) ?_
  refine aS.loadCellsFrom r (i+1) (acc.push v) (λ j u hj=>?_) (by simpa using hk)
  have:=hc (j+1) u (by simpa using hj)
  simpa [Nat.add_assoc,Nat.add_comm,Nat.add_left_comm] using this
theorem Ox.sP{x:Operand}{t:TypeId}{b off:Nat}{v:Value}(au:o.op = .load t x)(hx:bn st x=some (.pointer (some ⟨b,off,none⟩)))(ht:gG P t)(hc:Cell R H ⟨b,off,none⟩ v)
  (hd:cB o.dst c.n) (hs:ay (cE o.dst v st) st') (h:C R H st'):bf P B c o R H st C :=
 Ox.mem (s:=λ ρ=>Instr.loadAt t (ρ x)) (by rw [au]; rfl) hd (λ ρ=>by simp only [execOp,au]) (λ ρ bl=>by
  rw [bl x _ hx]
  simp only [Instr.loadAt,Instr.sureAddr,loadVar]
  refine ai.fv (ai.bL _) (ai.fv ht.1 ?_)
  exact aS.load hc ⟨st',hs,h⟩)
theorem Ox.cG{x:Operand}{t:TypeId}{b off n:Nat}{vs:List Value}(au:o.op = .load t x)(hx:bn st x=some (.pointer (some ⟨b,off,none⟩)))(ht:np P t n)(hn:vs.length=n)(hc:aU R H b off vs)
  (hd:cB o.dst c.n) (hs:ay (cE o.dst (.agg vs.toArray) st) st') (h:C R H st'):bf P B c o R H st C :=
 Ox.mem (s:=λ ρ=>Instr.loadAt t (ρ x)) (by rw [au]; rfl) hd (λ ρ=>by simp only [execOp,au]) (λ ρ bl=>by
  rw [bl x _ hx]
  simp only [Instr.loadAt,Instr.sureAddr,loadVar]
  refine ai.fv (ai.bL _) (ai.fv ht.1 ?_)
  simp only [if_true]
  refine ai.fv ht.2 (aS.dK ?_)
  subst hn
  exact aS.loadCellsFrom vs 0 #[] (by simpa using hc) (aS.eB ⟨st',by simpa using hs,h⟩))
theorem Ox.kM{x y:Operand}{t e:TypeId}{b off:Nat}{v:Value}{cs cs':Array Value}(au:o.op = .store t x y)(hx:bn st x=some (.pointer (some ⟨b,off,none⟩)))(hy:bn st y=some v)(ht:gG P t)(hv:v.oneCell'=true)(hs:fF H b (.cells cs e (0,0)) (.cells cs' e (0,0)) H')(hl:Nat.blt off cs.size=true)(pF:cs.setIfInBounds off v=cs')
  (hd:o.dst=none) (Ma:ay st st') (h:C R H' st'):bf P B c o R H st C :=
 Ox.Se (s:=λ ρ=>Instr.storeAt t (ρ x) (ρ y)) (by rw [au]; rfl) hd (λ ρ=>by simp only [execOp,au]) Ma (λ ρ bl=>by
  rw [bl x _ hx,bl y _ hy]
  simp only [Instr.storeAt,Instr.sureAddr]
  refine ai.fv (ai.bL _) ?_
  have hvc:v.cells=#[v]:=by cases v <;> first | rfl | (simp [Value.oneCell'] at hv)
  refine aS.storeVar (cs:=cs) (e:=e) ht.2 (by rw [hvc]; rfl) (by rw [hvc]; simpa using hv) (Nat.le_of_ble_eq_true hl) ?_ h
  rw [hvc]
  simpa [gx,pF] using hs)
theorem Ox.gg{x y:Operand}{t e:TypeId}{b off n:Nat}{vs:Array Value}{cs cs':Array Value}(au:o.op = .store t x y)(hx:bn st x=some (.pointer (some ⟨b,off,none⟩)))(hy:bn st y=some (.agg vs))(ht:np P t n)(hn:vs.size=n)(h1:∀ u∈vs.toList,u.oneCell'=true)(hs:fF H b (.cells cs e (0,0)) (.cells cs' e (0,0)) H')(hl:Nat.ble (off+n) cs.size=true)(pF:gx cs off vs.toList=cs')
  (hd:o.dst=none) (Ma:ay st st') (h:C R H' st'):bf P B c o R H st C :=
 Ox.Se (s:=λ ρ=>Instr.storeAt t (ρ x) (ρ y)) (by rw [au]; rfl) hd (λ ρ=>by simp only [execOp,au]) Ma (λ ρ bl=>by
  rw [bl x _ hx,bl y _ hy]
  simp only [Instr.storeAt,Instr.sureAddr]
  refine ai.fv (ai.bL _) ?_
  exact aS.storeVar (cs:=cs) (e:=e) ht.2 hn h1 (Nat.le_of_ble_eq_true hl) (by simpa [Value.cells,pF] using hs) h)
theorem Ox.vk{x:Operand}{t:TypeId}{v:Value}(au:o.op = .box t x)(hx:bn st x=some v)(hv:v.cells=#[v])(hd:cB o.dst c.n)
  (h:∀ b,R b=none→(∀ x,(b,x) ∉ H)→∃ st',ay (cE o.dst (.pointer (some ⟨b,0,none⟩)) st) st'∧C R ((b,.cells #[v] t)::H) st'):bf P B c o R H st C :=
 Ox.mem (s:=λ ρ=>Instr.box t (ρ x)) (by rw [au]; rfl) hd (λ ρ=>by simp only [execOp,au]) (λ ρ bl=>by
  rw [bl x _ hx]
  simp only [Instr.box,newVar,newRow,hv]
  exact aS.dK (aS.dK (aS.new λ b h1 h2=>aS.eB (aS.eB (h b h1 h2)))))
theorem Ox.afk{x:Operand}{t:TypeId}{vs:Array Value}(au:o.op = .box t x)(hx:bn st x=some (.agg vs))(hd:cB o.dst c.n)
  (h:∀ b,R b=none→(∀ x,(b,x) ∉ H)→∃ st',ay (cE o.dst (.pointer (some ⟨b,0,none⟩)) st) st'∧C R ((b,.cells vs t)::H) st'):bf P B c o R H st C :=
 Ox.mem (s:=λ ρ=>Instr.box t (ρ x)) (by rw [au]; rfl) hd (λ ρ=>by simp only [execOp,au]) (λ ρ bl=>by
  rw [bl x _ hx]
  simp only [Instr.box,newVar,newRow,Value.cells]
  exact aS.dK (aS.dK (aS.new λ b h1 h2=>aS.eB (aS.eB (h b h1 h2)))))
theorem Ox.alloc{t:TypeId}{cs:Array Value}(au:o.op = .alloc t)(ht:jv P t cs)(hd:cB o.dst c.n)
  (h:∀ b,R b=none→(∀ x,(b,x) ∉ H)→∃ st',ay (cE o.dst (.pointer (some ⟨b,0,none⟩)) st) st'∧C R ((b,.cells cs t)::H) st'):bf P B c o R H st C :=
 Ox.mem (s:=λ _=>Instr.alloc t true (.tuple #[])) (by rw [au]; rfl) hd (λ ρ=>by simp only [execOp,au]) (λ ρ bl=>by
  obtain ⟨z,hz,rfl⟩:=ht
  simp only [Instr.alloc,newVar,newRow]
  exact ai.fv hz (aS.dK (aS.dK (aS.new λ b h1 h2=>aS.eB (aS.eB (h b h1 h2))))))
def CQ(st:St):List (Nat × Operand)→Option (List (Nat × Value))
 | []=>some []
 | (j,x)::r=>match bn st x,CQ st r with
  | some v,some vs=>some ((j,v)::vs)
  | _,_=>none
theorem acv{ρ:Operand→Value}(bl:Knows st ρ):∀ (l:List (Nat × Operand)) (r:List (Nat × Value)),CQ st l=some r→l.map (λ (j,x)=>(j,ρ x))=r
 | [],r,h=>by cases h; rfl
 | (j,x)::l,r,h=>by
  simp only [CQ] at h
  cases hx:bn st x with
  | none=>simp [hx] at h
  | some v =>
   cases hl:CQ st l with
   | none=>simp [hx,hl] at h
   | some vs =>
    simp [hx,hl] at h
    subst h
    simp [bl x v hx,acv bl l vs hl]
def xg(P:Program)(t:TypeId)(places:List (Nat × Nat))(z:Array Value):Prop :=
 jv P t z∧∃ fs:Array Field,P.underlying t=some (.struct fs)∧ai P (fs.mapM λ f=>do pure (f.offset,← sizeOf f.type)) places.toArray
theorem Ox.build{t:TypeId}{parts:Array (Nat × Operand)}{ps:List (Nat × Value)}{places:List (Nat × Nat)}{z cells:Array Value}(au:o.op = .build t parts)(ht:xg P t places z)(hp:CQ st parts.toList=some ps)(hf:Instr.fill (places.toArray[·]?) z ps=some cells)
  (hd:cB o.dst c.n) (hs:ay (cE o.dst (.agg cells) st) st') (h:C R H st'):bf P B c o R H st C :=
 Ox.mG (s:=λ ρ=>Instr.build t (parts.map λ (j,x)=>(j,ρ x))) (by rw [au]; rfl) hd (λ ρ=>by simp only [execOp,au]) (λ ρ bl=>by
  obtain ⟨⟨z0,hz,rfl⟩,fs,h1,h2⟩:=ht
  have e:(parts.map λ (j,x)=>(j,ρ x))=ps.toArray:=by apply Array.ext'; simpa using acv bl _ _ hp
  rw [e]
  unfold Instr.build
  refine ai.bR hz (ai.bR (ai.underlying h1) (ai.bR h2 ?_))
  simp only [hf]
  exact ai.bL _) hs h
def u9(P:Program)(t e n:Nat)(z:Array Value):Prop:=P.underlying t=some (.slice e)∧ai P (sizeOf e) n∧jv P e z∧z.size=n∧0 < n
theorem Ox.buildSlice{t e n len:Nat}{parts:Array (Nat × Operand)}{ps:List (Nat × Value)}{z base cells:Array Value}(au:o.op = .buildSlice t len parts)(ht:u9 P t e n z)(hp:CQ st parts.toList=some ps)(hlen:len * n≤16777216)
  (hb:(Array.range (len * n)).map (z[· % z.size]!)=base) (hf:Instr.fill (λ j=>some (j * n,n)) base ps=some cells) (hd:cB o.dst c.n)
  (h:∀ b,R b=none→(∀ x,(b,x) ∉ H)→∃ st',ay (cE o.dst (.slice (some ⟨b,0,none⟩) len len) st) st'∧C R ((b,.cells cells e)::H) st'):bf P B c o R H st C :=
 Ox.mem (s:=λ ρ=>Instr.buildSlice t len (parts.map λ (j,x)=>(j,ρ x))) (by rw [au]; rfl) hd (λ ρ=>by simp only [execOp,au]) (λ ρ bl=>by
  subst hb
  obtain ⟨h1,h2,⟨z0,hz,rfl⟩,h3,h4⟩:=ht
  have ep:(parts.map λ (j,x)=>(j,ρ x))=ps.toArray:=by apply Array.ext'; simpa using acv bl _ _ hp
  rw [ep]
  unfold Instr.buildSlice
  refine ai.fv (ai.underlying h1) (ai.fv h2 ?_)
  have hl:¬ (len * n > 2 ^ 24):=by omega
  simp only [hl,if_false]
  have last:aS P B R H (do let a ← newRow e cells; pure (.slice (some a) len len)) λ v R' H'=>∃ st',ay (cE o.dst v st) st'∧C R' H' st':=by
   simp only [newRow]
   exact aS.dK (aS.dK (aS.new λ b h1 h2=>aS.eB (aS.eB (h b h1 h2))))
  by_cases h0:len * n=0
  ·simp only [h0,if_true]
   refine ai.fv (ai.bL _) ?_
   have hr:∀ f:Nat→Value,(Array.range 0).map f=#[]:=λ f=>by simp [Array.range]
   simp only [h0,hr] at hf ⊢
   simp only [hf]
   exact last
  ·simp only [h0,if_false]
   refine ai.fv hz (ai.fv (ai.bL _) ?_)
   simp only [hf]
   exact last)
end
def aR(R R':az):Prop:=∀ b o,R b=some o→R' b=some o
theorem aR.refl(R:az):aR R R:=λ _ _ h=>h
theorem aR.trans{R R' cY:az}(h:aR R R')(k:aR R' cY):aR R cY:=λ b o x=>k b o (h b o x)
section
variable {P:Program} {B:Base} {main:Bool} (ab:Jd P B main)
def Dm(c:Ctx)(S:ah)(ops:Array Oper)(i:Nat)(tmps:Array Value)(R:az)(H:ah)(K:Array Value→az→ah→Prop):Prop :=
 ∃ o,ops[i]? = some o∧nG o.op=false ∧
  ((Region.wanted o (yielded ops tmps)=false∧K (gb o.dst undef tmps) R H) ∨
   (Region.wanted o (yielded ops tmps)=true ∧
   ((aS P B R H (execOp (ba c tmps []).eval o) λ nx R' H'=>∃ v,(nx = .value v∨(nx = .skip∧v=undef))∧aR R R'∧(∀ p∈S,p∈H→p∈H')∧K (gb o.dst v tmps) R' H') ∨
    (∃ f args,ai P (execOp (ba c tmps []).eval o) (.enter f args)∧bd ab f args R H λ v R' H'=>aR R R'∧(∀ p∈S,p∈H→p∈H')∧K (gb o.dst v tmps) R' H'))))
theorem J.given{R:az}{H:ah}{g:Goroutine}(hs:g.status = .running)(h:(∃ w,Fits B R H w)→ab.J R H g):ab.J R H g:=by
 by_cases hw:∃ w,Fits B R H w
 ·exact h hw
 ·exact ab.step hs λ w hf=>absurd ⟨w,hf⟩ hw
def nO(ops:Array Oper)(rem:List Nat)(i:Nat):Bool:=match ops[i]? with
 | some o=>o.after.all λ e=>!Region.binds .any e || !rem.contains e.on
 | none=>false
def GL(c:Ctx)(S:Nat→ah)(ops:Array Oper)(Q:Array Value→az→ah→Prop):Nat→List Nat→Array Value→az→ah→Prop
 | 0,rem,t,R,H=>rem=[]∧Q t R H
 | n+1,rem,t,R,H=>(rem=[]∧Q t R H)∨(rem≠[]∧((∃ w,Fits B R H w)→∀ i∈rem,nO ops rem i=true→Dm ab c (S i) ops i t R H λ t' R' H'=>GL c S ops Q n (rem.erase i) t' R' H'))
variable {ab}
def backward(ops:Array Oper):Bool:=(List.range ops.size).all λ i=>match ops[i]? with
 | some o=>o.after.all λ e=>!Region.binds .any e || decide (e.on < i)
 | none=>true
theorem agR(c:Ctx)(tmps:Array Value)(todo:List Item):(ba c tmps todo).eval=(ba c tmps []).eval:=by
 funext x; cases x <;> rfl
theorem aot{c:Ctx}{S:ah}{ops:Array Oper}{i:Nat}{rest:List Nat}{k:List Item}{tmps:Array Value}{R:az}{H:ah}{K:Array Value→az→ah→Prop}(hk:(c.kind == CallKind.early)=false)(h:Dm ab c S ops i tmps R H K)
  (hK:∀ t R' H',K t R' H'→ab.J R' H' (bc (ba c t (.inRegion ops rest::k)) c.cs)):ab.J R H (bc (ba c tmps (.inRegion ops (i::rest)::k)) c.cs):=by
 obtain ⟨o,ho,hd,h⟩:=h
 have gv:(ba c tmps (.inRegion ops (i::rest)::k)).kind ≠ .early:=by show c.kind≠_; simpa using hk
 rcases h with ⟨h1,h2⟩ | ⟨h1,h2 | ⟨f,args,h2,h3⟩⟩
 ·exact Jd.ctl rfl (λ w=>acR ho h1) (hK _ _ _ h2)
 ·refine ab.step rfl λ w rv=>?_
  obtain ⟨nx,w',R',H',e1,e2,e3,v,hv,_,_,hKK⟩:=h2 w rv
  refine ⟨bc (ba c (gb o.dst v tmps) (.inRegion ops rest::k)) c.cs,w',seen P c.fn ((execOp (ba c tmps []).eval o).events P w #[]),R',H',?_,λ e he=>e2 e (mem_seen he),e3,hK _ _ _ hKK⟩
  rw [qN ho h1 hd,← rf (rest:=rest) (k:=k) (c:=c) (tmps:=tmps) (v:=v) ho,agR]
  rcases hv with rfl | ⟨rfl,rfl⟩
  ·exact Dx gv e1
  ·exact Vb gv e1
 ·refine ab.step rfl λ w rv=>?_
  have hv:=h2 w
  refine ⟨bc (Frame.enter P f args .normal) (ba c tmps (.inRegion ops (i::rest)::k)::c.cs),w,seen P c.fn ((execOp (ba c tmps []).eval o).events P w #[]),R,H,?_,?_,gu.refl rv,h3 _ _ λ v R' H' hp=>?_⟩
  ·rw [qN ho h1 hd,agR]
   exact Kf rfl gv hv.1
  ·intro e LC
   have:=mem_seen LC
   rw [hv.2] at this
   simp at this
  ·rw [rf ho]
   exact hK _ _ _ hp.2.2
def JL(ops:Array Oper)(listed:Array Bool)(rem:List Nat):Prop:=listed.size=ops.size∧rem.Nodup∧(∀ i,i∈rem↔(i < ops.size∧listed.getD i true=false))
theorem auV{listed:Array Bool}{i j:Nat}{d:Bool}(hi:i < listed.size):(listed.setIfInBounds i true).getD j d=if i=j then true else listed.getD j d:=by
 simp only [Array.getD_eq_getD_getElem?]
 by_cases h:i=j
 ·subst h; simp [hi]
 ·rw [if_neg h,nk h]
theorem JL.erase{ops:Array Oper}{listed:Array Bool}{rem:List Nat}(h:JL ops listed rem){i:Nat}(hi:i∈rem):JL ops (listed.setIfInBounds i true) (rem.erase i):=by
 obtain ⟨h1,h2,h3⟩:=h
 have bS:i < listed.size:=by rw [h1]; exact ((h3 i).1 hi).1
 refine ⟨by simp [h1],h2.erase _,λ j=>?_⟩
 rw [h2.mem_erase_iff,h3 j,auV bS]
 by_cases e:i=j
 ·subst e; simp
 ·simp [e,Ne.symm e]
theorem ai6:∀ (l:List Nat),l≠[]→∃ m∈l,∀ x∈l,m≤x
 | [],h=>absurd rfl h
 | [a],_=>⟨a,by simp,by simp⟩
 | a::b::r,_=>by
  obtain ⟨m,hm,hl⟩:=ai6 (b::r) (by simp)
  by_cases h:a≤m
  ·exact ⟨a,by simp,λ x hx=>by
    rcases fR.1 hx with rfl | hx
    ·exact dD _
    ·exact Nat.le_trans h (hl x hx)⟩
  ·exact ⟨m,List.mem_cons_of_mem _ hm,λ x hx=>by
    rcases fR.1 hx with rfl | hx
    ·omega
    ·exact hl x hx⟩
theorem aei{c:Ctx}{S:Nat→ah}{ops:Array Oper}{k:List Item}{Q:Array Value→az→ah→Prop}(hk:(c.kind == CallKind.early)=false)(hb:backward ops=true)
  (hQ:∀ t R H,Q t R H→ab.J R H (bc (ba c t k) c.cs)):∀ (fuel t:Nat) (listed:Array Bool) (acc:List Nat) (rem:List Nat) (tmps:Array Value) (R:az) (H:ah),JL ops listed rem→rem.length≤fuel →
   GL ab c S ops Q fuel rem tmps R H→∃ is,Region.linearise.go .any ops fuel t listed acc=acc.reverse++is∧ab.J R H (bc (ba c tmps (.inRegion ops is::k)) c.cs)
 | 0,t,listed,acc,rem,tmps,R,H,_,_,h=>⟨[],by simp [Region.linearise.go],Jd.ctl rfl (λ w=>by simp [stepG,stepG.exec,bc,ba]) (hQ _ _ _ h.2)⟩
 | fuel+1,t,listed,acc,rem,tmps,R,H,hA,hl,h=>by
  generalize QY:((List.range ops.size).filter λ i=>!listed.getD i true && ((ops[i]?).map (·.after.all λ e=>!Region.binds .any e || listed.getD e.on false)).getD false)=rs
  have nD:∀ i,i∈rs→i∈rem∧nO ops rem i=true:=by
   intro i hi
   rw [← QY] at hi
   simp only [List.mem_filter,List.mem_range,jm,Bool.not_eq_true'] at hi
   obtain ⟨h1,h2,h3⟩:=hi
   refine ⟨(hA.2.2 i).2 ⟨h1,h2⟩,?_⟩
   unfold nO
   cases ho:ops[i]? with
   | none=>simp [ho] at h3
   | some o =>
    simp only [ho,Option.map_some,nm,Array.all_eq_true_iff_forall_mem] at h3 ⊢
    intro e he
    have:=h3 e he
    rcases Bool.or_eq_true_iff.1 this with x | x
    ·simp [x]
    ·have hn:e.on ∉ rem:=λ hm=>by
      have:=((hA.2.2 e.on).1 hm).2
      have bS:e.on < listed.size:=by rw [hA.1]; exact ((hA.2.2 e.on).1 hm).1
      simp only [Array.getD_eq_getD_getElem?,qT bS,nm] at this x
      rw [x] at this; cases this
     simp [hn]
  rcases h with ⟨rfl,hq⟩ | ⟨cU,zl⟩
  ·have aBH:rs=[]:=by
    cases rs with
    | nil=>rfl
    | cons a r=>exact absurd (nD a (by simp)).1 (by simp)
   refine ⟨[],?_,Jd.ctl rfl (λ w=>by simp [stepG,stepG.exec,bc,ba]) (hQ _ _ _ hq)⟩
   unfold Region.linearise.go
   simp only [QY,aBH]
   simp
  ·
   have aBI:rs≠[]:=by
    obtain ⟨m,hm,aAj⟩:=ai6 rem cU
    have YA:=((hA.2.2 m).1 hm).1
    have:m∈rs:=by
     rw [← QY]
     simp only [List.mem_filter,List.mem_range,jm,Bool.not_eq_true']
     refine ⟨YA,((hA.2.2 m).1 hm).2,?_⟩
     have ho:ops[m]? = some ops[m]:=qT YA
     simp only [ho,Option.map_some,nm,Array.all_eq_true_iff_forall_mem]
     intro e he
     unfold backward at hb
     rw [List.all_eq_true] at hb
     have gI:=hb m (List.mem_range.2 YA)
     simp only [ho,Array.all_eq_true_iff_forall_mem] at gI
     rcases Bool.or_eq_true_iff.1 (gI e he) with x | x
     ·simp [x]
     ·have bS:e.on < m:=by simpa using x
      have hn:e.on ∉ rem:=λ LU=>by have:=aAj _ LU; omega
      have hl':e.on < listed.size:=by rw [hA.1]; omega
      have h1:listed.getD e.on true=true:=by
       cases hh:listed.getD e.on true with
       | true=>rfl
       | false=>exact absurd ((hA.2.2 e.on).2 ⟨by omega,hh⟩) hn
      simp only [Array.getD_eq_getD_getElem?,qT hl',nm] at h1 ⊢
      simp [h1]
    intro e; rw [e] at this; cases this
   have hlen:t % rs.length < rs.length:=Nat.mod_lt _ (by
    cases rs with
    | nil=>exact absurd rfl aBI
    | cons _ _=>simp)
   have hi:rs[t % rs.length]? = some rs[t % rs.length]:=lz hlen
   generalize rs[t % rs.length]=i at hi
   obtain ⟨X0,lI⟩:=nD i (List.mem_of_getElem? hi)
   have Zg:=λ hw=>zl hw i X0 lI
   have bS:(rem.erase i).length≤fuel:=by rw [List.length_erase_of_mem X0]; omega
   have hgo:∀ Pf,∃ is,Region.linearise.go .any ops fuel (t / rs.length) (listed.setIfInBounds i true) Pf=Pf.reverse++is:=λ Pf=>⟨_,linearise_go_acc .any ops fuel (t / rs.length) (listed.setIfInBounds i true) Pf⟩
   obtain ⟨is,mT⟩:=hgo (i::acc)
   refine ⟨i::is,?_,?_⟩
   ·rw [Region.linearise.go]
    simp only [QY,hi]
    rw [mT]; simp
   ·refine J.given ab rfl λ hw=>?_
    refine aot hk (Zg hw) λ t' R' H' hK=>?_
    obtain ⟨sN,h1,h2⟩:=aei hk hb hQ fuel (t / rs.length) (listed.setIfInBounds i true) (i::acc) (rem.erase i) t' R' H' (hA.erase X0) bS hK
    rw [mT] at h1
    have:is=sN:=by simpa using h1
    rw [this]; exact h2
end
section
variable {P:Program} {B:Base} {main:Bool} {ab:Jd P B main}
def noSelect(o:Oper):Bool:=match o.op with | .select _ _=>false | _=>true
def looks(ops:Array Oper)(o:Oper):List Nat :=
 (o.op.operands.toList.filterMap λ | .tmp t=>some t | _=>none)++(match o.guard with | some (j,_)=>((ops[j]?).bind (·.dst)).toList | none=>[])
def Ke(ops:Array Oper)(a b:Oper):Bool :=
 (match a.dst with | some d=>!(looks ops b).contains d && b.dst != some d | none=>true) && (match b.dst with | some d=>!(looks ops a).contains d | none=>true)
theorem aO4{a b:Option Tmp}{v u:Value}{t:Array Value}(h:∀ d,a=some d→b≠some d):gb a v (gb b u t)=gb b u (gb a v t):=by
 cases a with
 | none=>rfl
 | some x=>cases b with
  | none=>rfl
  | some y =>
   have cU:x≠y:=λ e=>h x rfl (by rw [e])
   simp only [gb]
   exact Array.setIfInBounds_comm u v (Ne.symm cU)
theorem as8{c:Ctx}{t:Array Value}{dst:Option Tmp}{v:Value}{x:Operand}(h:∀ d,dst=some d→x ≠ .tmp d):(ba c (gb dst v t) []).eval x=(ba c t []).eval x:=by
 cases dst with
 | none=>rfl
 | some d=>cases x with
  | tmp y =>
   have cU:d≠y:=λ e=>h d rfl (by rw [e])
   simp only [ba,Frame.eval,gb,Array.getD_eq_getD_getElem?]
   rw [nk cU]
  | _=>rfl
theorem ahm{c:Ctx}{ops:Array Oper}{t:Array Value}{dst:Option Tmp}{v:Value}{o:Oper}(hs:noSelect o=true)(h:∀ d,dst=some d→d ∉ looks ops o):execOp (ba c (gb dst v t) []).eval o=execOp (ba c t []).eval o:=by
 refine execOp_congr o (λ cs b e=>by rw [noSelect,e] at hs; cases hs) λ x hx=>as8 λ d hd e=>h d hd ?_
 subst e
 unfold looks
 exact c6 _ (List.mem_filterMap.2 ⟨_,Array.mem_toList_iff.2 hx,rfl⟩)
theorem amx{ops:Array Oper}{t:Array Value}{dst:Option Tmp}{v:Value}{o:Oper}(h:∀ d,dst=some d→d ∉ looks ops o):Region.wanted o (yielded ops (gb dst v t))=Region.wanted o (yielded ops t):=by
 unfold Region.wanted
 cases hg:o.guard with
 | none=>rfl
 | some g =>
  obtain ⟨j,want⟩:=g
  simp only [yielded]
  cases hd:(ops[j]?).bind (·.dst) with
  | none=>rfl
  | some d =>
   simp only [aM]
   cases dst with
   | none=>rfl
   | some d' =>
    have cU:d'≠d:=λ e=>h d' rfl (by
     subst e
     unfold looks
     rw [hg]
     exact iE _ (by simp [hd]))
    simp only [gb]
    rw [nk cU]
theorem ae3{ops:Array Oper}{a b:Oper}(h:Ke ops a b=true):(∀ d,a.dst=some d→d ∉ looks ops b∧b.dst≠some d)∧(∀ d,b.dst=some d→d ∉ looks ops a):=by
 unfold Ke at h
 rw [jm] at h
 refine ⟨λ d hd=>?_,λ d hd=>?_⟩
 ·rw [hd] at h; simpa using h.1
 ·rw [hd] at h; simpa using h.2
theorem Dm.gb{c:Ctx}{S:ah}{ops:Array Oper}{j:Nat}{oi oj:Oper}{t:Array Value}{v:Value}{R:az}{H:ah}{K1 K:Array Value→az→ah→Prop}(hj:ops[j]? = some oj)(hs:noSelect oj=true)(l8:Ke ops oi oj=true){F:ah}(hS:∀ p∈F,p∈H)(hFS:∀ p∈F,p∈S)
  (h:Dm ab c S ops j (gb oi.dst v t) R H K1) (hK:∀ u R' H',aR R R'→(∀ p∈F,p∈H')→K1 (Go.Lg.gb oj.dst u (Go.Lg.gb oi.dst v t)) R' H'→K (Go.Lg.gb oj.dst u t) R' H'):Dm ab c S ops j t R H K:=by
 obtain ⟨h1,h2⟩:=ae3 l8
 obtain ⟨o,ho,hd,h⟩:=h
 obtain rfl:o=oj:=j6 (ho.symm.trans hj)
 rw [amx (λ d hd=>(h1 d hd).1),ahm hs (λ d hd=>(h1 d hd).1)] at h
 refine ⟨o,ho,hd,?_⟩
 rcases h with ⟨a,b⟩ | ⟨a,b | ⟨f,args,b,b'⟩⟩
 ·exact .inl ⟨a,hK _ _ _ (aR.refl _) hS b⟩
 ·exact .inr ⟨a,.inl (b.mono λ nx R' H' ⟨u,x,y,z,hk⟩=>⟨u,x,y,z,hK _ _ _ y (λ p hp=>z p (hFS p hp) (hS p hp)) hk⟩)⟩
 ·exact .inr ⟨a,.inr ⟨f,args,b,b'.mono λ u R' H' ⟨y,z,hk⟩=>⟨y,z,hK _ _ _ y (λ p hp=>z p (hFS p hp) (hS p hp)) hk⟩⟩⟩
def ad3(P:Program)(B:Base)(S:ah)(R:az)(ρ:Operand→Value)(o:Oper)(v:Value):Prop :=
 ∀ R' H',aR R R'→(∀ p∈S,p∈H')→aS P B R' H' (execOp ρ o) λ nx cY eG=>(nx = .value v∨(nx = .skip∧v=undef))∧cY=R'∧eG=H'
def qO(ops:Array Oper)(rem:List Nat)(i:Nat)(D:List Nat):Bool :=
 rem.contains i && nO ops rem i && !D.contains i && D.all (λ j=>rem.contains j && match ops[j]? with | some o=>o.after.any λ e=>Region.binds .any e && (e.on == i || D.contains e.on) | none=>false) &&
 (match ops[i]? with | some oi=>noSelect oi && rem.all (λ j=>j == i || D.contains j || match ops[j]? with | some oj=>noSelect oj && Ke ops oi oj | none=>false) | none=>false)
theorem aQC{ops:Array Oper}{rem:List Nat}{i j:Nat}{D:List Nat}(h:qO ops rem i D=true)(gR:j≠i)(sA:j ∉ D):qO ops (rem.erase j) i D=true:=by
 unfold qO at h ⊢
 simp only [jm,Bool.not_eq_true',List.all_eq_true,List.contains_iff_mem] at h ⊢
 obtain ⟨⟨⟨⟨h1,h2⟩,h3⟩,h4⟩,h5⟩:=h
 refine ⟨⟨⟨⟨(List.mem_erase_of_ne (Ne.symm gR)).2 h1,?_⟩,h3⟩,λ x hx=>⟨(List.mem_erase_of_ne (λ e=>sA (by rw [← e]; exact hx))).2 (h4 x hx).1,(h4 x hx).2⟩⟩,?_⟩
 ·unfold nO at h2 ⊢
  cases ho:ops[i]? with
  | none=>simp [ho] at h2
  | some o =>
   simp only [ho,Array.all_eq_true_iff_forall_mem] at h2 ⊢
   intro e he
   have:=h2 e he
   rcases Bool.or_eq_true_iff.1 this with x | x
   ·simp [x]
   ·have hn:e.on ∉ rem:=by simpa using x
    have:e.on ∉ rem.erase j:=λ hm=>hn (List.mem_of_mem_erase hm)
    simp [this]
 ·cases ho:ops[i]? with
  | none=>simp [ho] at h5
  | some oi =>
   simp only [ho,jm,List.all_eq_true] at h5 ⊢
   exact ⟨h5.1,λ x hx=>h5.2 x (List.mem_of_mem_erase hx)⟩
theorem ae2{c:Ctx}{S:Nat→ah}{ops:Array Oper}{Q:Array Value→az→ah→Prop}{i:Nat}{oi:Oper}{D:List Nat}{N:ah}{v:Value}(hi:ops[i]? = some oi)(hd:nG oi.op=false):∀ (n:Nat) (rem:List Nat) (t:Array Value) (R:az) (H:ah),
  qO ops rem i D=true→rem.Nodup→(∀ p∈N,p∈H)→(∀ j∈rem,j≠i→j ∉ D→∀ p∈N,p∈S j)→((Region.wanted oi (yielded ops t)=true∧ad3 P B N R (ba c t []).eval oi v)∨(Region.wanted oi (yielded ops t)=false∧v=undef))→GL ab c S ops Q n (rem.erase i) (gb oi.dst v t) R H→GL ab c S ops Q (n+1) rem t R H:=by
 intro n
 induction n with
 | zero =>
  intro rem t R H jH dM hS zk rv h
  unfold qO at jH
  simp only [jm,List.contains_iff_mem] at jH
  have nD:i∈rem:=jH.1.1.1.1
  refine .inr ⟨(λ e=>by rw [e] at nD; cases nD),λ _ j hj _=>?_⟩
  have gR:j=i:=by
   by_cases e:j=i
   ·exact e
   ·exact absurd ((List.mem_erase_of_ne e).2 hj) (by rw [h.1]; simp)
  subst gR
  rcases rv with ⟨hw,hf⟩ | ⟨hw,rfl⟩
  ·exact ⟨oi,hi,hd,.inr ⟨hw,.inl ((hf R H (aR.refl _) hS).mono λ nx R' H' ⟨e1,e2,e3⟩=>by subst e2 e3; exact ⟨v,e1,aR.refl _,(λ _ _ h=>h),h⟩)⟩⟩
  ·exact ⟨oi,hi,hd,.inl ⟨hw,h⟩⟩
 | succ n ih =>
  intro rem t R H jH dM hS zk rv h
  have aEM:=jH
  unfold qO at jH
  simp only [jm,List.contains_iff_mem,Bool.not_eq_true',List.all_eq_true] at jH
  obtain ⟨⟨⟨⟨nD,a2E⟩,hiD⟩,hD⟩,zl⟩:=jH
  rw [hi] at zl
  simp only [jm,List.all_eq_true] at zl
  obtain ⟨aAo,zl⟩:=zl
  refine .inr ⟨(λ e=>by rw [e] at nD; cases nD),λ hww j hj BP=>?_⟩
  by_cases gR:j=i
  ·subst gR
   rcases rv with ⟨hw,hf⟩ | ⟨hw,rfl⟩
   ·exact ⟨oi,hi,hd,.inr ⟨hw,.inl ((hf R H (aR.refl _) hS).mono λ nx R' H' ⟨e1,e2,e3⟩=>by subst e2 e3; exact ⟨v,e1,aR.refl _,(λ _ _ h=>h),h⟩)⟩⟩
   ·exact ⟨oi,hi,hd,.inl ⟨hw,h⟩⟩
  ·
   have sA:j ∉ D:=λ sA=>by
    obtain ⟨_,hx⟩:=hD j sA
    unfold nO at BP
    cases ho:ops[j]? with
    | none=>simp [ho] at hx
    | some o =>
     simp only [ho,Array.all_eq_true_iff_forall_mem] at BP hx
     rw [Array.any_eq_true'] at hx
     obtain ⟨e,he,hx⟩:=hx
     have hr:=BP e he
     rw [jm] at hx
     have zt:e.on∈rem:=by
      rcases Bool.or_eq_true_iff.1 hx.2 with x | x
      ·have:e.on=i:=by simpa using x
       rw [this]; exact nD
      ·have hxD:e.on∈D:=by simpa using x
       exact (hD _ hxD).1
     simp [hx.1,zt] at hr
   have BO:=zl j hj
   have Ys:∃ oj,ops[j]? = some oj∧noSelect oj=true∧Ke ops oi oj=true:=by
    cases ho:ops[j]? with
    | none=>simp [gR,sA,ho] at BO
    | some oj=>simp [gR,sA,ho] at BO; exact ⟨oj,rfl,BO.1,BO.2⟩
   obtain ⟨oj,hoj,aBJ,l8⟩:=Ys
   rcases h with ⟨he,_⟩ | ⟨_,aEo⟩
   ·exact absurd ((List.mem_erase_of_ne gR).2 hj) (by rw [he]; simp)
   have az9:nO ops (rem.erase i) j=true:=by
    unfold nO at BP ⊢
    simp only [hoj,Array.all_eq_true_iff_forall_mem] at BP ⊢
    intro e he
    have:=BP e he
    rcases Bool.or_eq_true_iff.1 this with x | x
    ·simp [x]
    ·have hn:e.on ∉ rem:=by simpa using x
     have:e.on ∉ rem.erase i:=λ hm=>hn (List.mem_of_mem_erase hm)
     simp [this]
   have Zg:=aEo hww j ((List.mem_erase_of_ne gR).2 hj) az9
   obtain ⟨ha1,ha2⟩:=ae3 l8
   refine Dm.gb (oi:=oi) (v:=v) hoj aBJ l8 hS (zk j hj gR sA) Zg λ u R' H' hR Xd hA=>?_
   refine ih (rem.erase j) (gb oj.dst u t) R' H' (aQC aEM gR sA) (dM.erase _) Xd (λ x hx=>zk x (List.mem_of_mem_erase hx)) ?_ ?_
   ·rw [amx (λ d hd=>ha2 d hd)]
    refine rv.imp (λ ⟨hw,hf⟩=>⟨hw,λ cY eG tP avF=>?_⟩) id
    rw [ahm (ops:=ops) aAo (λ d hd=>ha2 d hd)]
    exact hf cY eG (hR.trans tP) avF
   ·rw [List.erase_comm,aO4 (a:=oi.dst) (b:=oj.dst) (λ d hd=>(ha1 d hd).2)]
    exact hA
variable {c:Ctx} {S:Nat→ah} {ops:Array Oper} {k:List Item} {R:az} {H:ah} {st st':St} {rem:List Nat} {n:Nat}
def Any(ab:Jd P B main)(c:Ctx)(S:Nat→ah)(ops:Array Oper)(k:List Item)(n:Nat)(rem:List Nat)(R:az)(H:ah)(st:St):Prop :=
 rem.Nodup∧∀ tmps,de c.n st tmps→GL ab c S ops (λ t R H=>ab.J R H (bc (ba c t k) c.cs)) n rem tmps R H
theorem At.draw{id:Nat}{is:List Nat}{n:Nat}(S:Nat→ah)(hm:P.follows .mixedOrders=true)(hk:(c.kind == CallKind.early)=false)(hb:backward ops=true)(hn:ops.size=n)(mT:List.range n=is)(h:Any ab c S ops k n is R H st):At ab c R H st (.code (.region id ops true)::k):=by
 intro tmps ht
 subst hn; subst mT
 refine ab.step rfl λ w hw=>?_
 have hA:JL ops (Array.replicate ops.size false) (List.range ops.size):=⟨by simp,List.nodup_range,λ i=>by
  simp only [List.mem_range,Array.getD_eq_getD_getElem?]
  constructor
  ·intro hi; exact ⟨hi,by simp [hi]⟩
  ·exact λ x=>x.1⟩
 have key:=λ t=>aei (ab:=ab) (k:=k) hk hb (λ _ _ _ hq=>hq) ops.size t _ [] _ tmps R H hA (by simp) (h.2 tmps ht)
 obtain ⟨is,h1,h2⟩:=key (if (Question.order c.fn id).forced then 0 else (Question.order c.fn id).cut (w.tape w.drawn (.order c.fn id)))
 refine ⟨bc (ba c tmps (.inRegion ops is::k)) c.cs,{ w with drawn:=w.drawn+1 },#[],R,H,?_,by simp,⟨⟨hw.r,hw.h,hw.nd,hw.dj,hw.os,hw.tape,hw.out⟩,λ _ _ x=>x,dD _,λ _ _ _=>rfl,λ _ _ x=>.inl x,λ _ o x=>.inl ⟨o,x⟩⟩,h2⟩
 simp only [Question.forced,oA,if_false,List.reverse_nil,List.nil_append] at h1
 simp [stepG,stepG.exec,bc,ba,choose,Sem.run,Question.forced,Region.schedule,hm,Region.linearise,h1]
theorem At.arc{id:Nat}{is:List Nat}{n:Nat}(hm:P.follows .mixedOrders=true)(hk:(c.kind == CallKind.early)=false)(hb:backward ops=true)(hn:ops.size=n)(mT:List.range n=is)(h:Any ab c (λ _=>H) ops k n is R H st):At ab c R H st (.code (.region id ops true)::k):=At.draw (λ _=>H) hm hk hb hn mT h
theorem qa.II{o:Oper}{i:Nat}{tmps:Array Value}(h:qa ab c o R H st λ R' H' st'=>aR R R'∧(∀ p∈S i,p∈H→p∈H')∧Any ab c S ops k n rem R' H' st')(ho:ops[i]? = some o)(hw:Region.wanted o (yielded ops tmps)=true)(ht:de c.n st tmps) :
  Dm ab c (S i) ops i tmps R H λ t' R' H'=>GL ab c S ops (λ t R H=>ab.J R H (bc (ba c t k) c.cs)) n rem t' R' H':=by
 obtain ⟨hd,mi,h | ⟨f,args,h1,h2⟩⟩:=h
 ·exact ⟨o,ho,hd,.inr ⟨hw,.inl ((h _ (ht.knows c [])).mono λ nx R' H' ⟨v,hv,st',hs,hR,hS,hA⟩=>⟨v,hv,hR,hS,hA.2 _ ((ht.put v mi).sub hs)⟩)⟩⟩
 ·exact ⟨o,ho,hd,.inr ⟨hw,.inr ⟨f,args,h1 _ (ht.knows c []),h2.mono λ v R' H' ⟨st',hs,hR,hS,hA⟩=>⟨hR,hS,hA.2 _ ((ht.put v mi).sub hs)⟩⟩⟩⟩
theorem Any.done(h:At ab c R H st k):Any ab c S ops k n [] R H st:=⟨List.nodup_nil,λ tmps ht=>by
 cases n with
 | zero=>exact ⟨rfl,h tmps ht⟩
 | succ n=>exact .inl ⟨rfl,h tmps ht⟩⟩
theorem Any.take{i:Nat}{o:Oper}{v:Value}{N:ah}(D:List Nat)(ho:ops[i]? = some o)(jH:qO ops rem i D=true)(hd:nG o.op=false)(mi:cB o.dst c.n)(hw:cX ops st o=some true)(zk:∀ j∈rem,j≠i→j ∉ D→∀ p∈N,p∈S j)(hS:∀ p∈N,p∈H)(hf:∀ ρ,Knows st ρ→ad3 P B N R ρ o v)(hs:ay (cE o.dst v st) st')(dM:rem.Nodup)
  {qG:List Nat} (hr:rem.erase i=qG) (h:Any ab c S ops k n qG R H st'):Any ab c S ops k (n+1) rem R H st:=by
 subst hr
 exact ⟨dM,λ tmps ht=>ae2 ho hd n rem tmps R H jH dM hS zk (.inl ⟨ln ht hw,hf _ (ht.knows c [])⟩) (h.2 _ ((ht.put v mi).sub hs))⟩
theorem Any.FQ{i d:Nat}{o:Oper}{v:Value}{N:ah}(D:List Nat)(ho:ops[i]? = some o)(om:o.dst=some d)(hw:cX ops st o=some true)(jH:qO ops rem i D=true)(zk:∀ j∈rem,j≠i→j ∉ D→∀ p∈N,p∈S j)(hS:∀ p∈N,p∈H)
  (hf:∀ R' H',aR R R'→(∀ p∈N,p∈H')→bf P B c o R' H' st λ R1 H1 m7=>R1=R'∧H1=H'∧m7=[(d,v)]) (hs:ay ((d,v)::st) st') (dM:rem.Nodup)
  {qG:List Nat} (hr:rem.erase i=qG) (h:Any ab c S ops k n qG R H st'):Any ab c S ops k (n+1) rem R H st:=by
 have h0:=hf R H (aR.refl _) hS
 refine Any.take (v:=v) D ho jH h0.1 h0.2.1 hw zk hS (λ ρ bl R' H' hR Xd=>?_) (by rw [om]; exact hs) dM hr h
 refine ((hf R' H' hR Xd).2.2 ρ bl).mono λ nx cY eG ⟨u,hu,m7,qp,e1,e2,e3⟩=>?_
 subst e3
 rw [om] at qp
 have huv:u=v:=by
  have:=qp d v (by simp)
  simp only [cE,List.lookup_cons,beq_self_eq_true] at this
  exact j6 this
 subst huv
 exact ⟨hu,e1,e2⟩
theorem Any.aQB{i:Nat}{o:Oper}(D:List Nat)(ho:ops[i]? = some o)(jH:qO ops rem i D=true)(hd:nG o.op=false)(mi:cB o.dst c.n)(hw:cX ops st o=some false)(hs:ay (cE o.dst undef st) st')(dM:rem.Nodup)
  {qG:List Nat} (hr:rem.erase i=qG) (h:Any ab c S ops k n qG R H st'):Any ab c S ops k (n+1) rem R H st:=by
 subst hr
 exact ⟨dM,λ tmps ht=>ae2 (v:=undef) (N:=[]) ho hd n rem tmps R H jH dM (by simp) (by simp) (.inr ⟨ln ht hw,rfl⟩) (h.2 _ ((ht.put undef mi).sub hs))⟩
theorem Any.one{i:Nat}{o:Oper}(ho:ops[i]? = some o)(lI:rem.filter (nO ops rem)=[i])(hw:cX ops st o=some true)(dM:rem.Nodup){qG:List Nat}(hr:rem.erase i=qG)
  (h:qa ab c o R H st λ R' H' st'=>aR R R'∧(∀ p∈S i,p∈H→p∈H')∧Any ab c S ops k n qG R' H' st'):Any ab c S ops k (n+1) rem R H st:=by
 subst hr
 refine ⟨dM,λ tmps ht=>.inr ⟨(λ e=>by rw [e] at lI; cases lI),λ _ j hj BP=>?_⟩⟩
 have:j∈rem.filter (nO ops rem):=List.mem_filter.2 ⟨hj,BP⟩
 rw [lI] at this
 obtain rfl:j=i:=by simpa using this
 exact h.II ho (ln ht hw) ht
theorem aJR{H H':ah}(h:∀ p∈H,p∈H'){X:ah}:∀ p∈H,p∈X→p∈H':=λ p hp _=>h p hp
end
section
variable {P:Program} {B:Base} {main:Bool} {ab:Jd P B main} {c:Ctx} {R:az} {H H':ah} {st st':St} {k:List Item}
theorem Tf{w:World}(hs:List.Sublist H' H)(hw:Fits B R H w):gu B R H w R H' w :=
 ⟨⟨hw.r,λ b o h=>hw.h b o (hs.subset h),(hs.map _).nodup hw.nd,λ b o h=>hw.dj b o (hs.subset h),hw.os,hw.tape,hw.out⟩,λ _ _ x=>x,dD _,λ _ _ _=>rfl,λ _ _ x=>.inl x,λ _ o x=>.inl ⟨o,hs.subset x⟩⟩
theorem At.bU{todo:List Item}(hs:List.Sublist H' H)(h:At ab c R H' st todo):At ab c R H st todo:=At.ghost (λ _ hw=>Tf hs hw) h
theorem J.drop{g:Goroutine}(hs:List.Sublist H' H)(h:ab.J R H' g):ab.J R H g:=ab.ghost (λ _ hw=>Tf hs hw) h
theorem ac3{w:World}(hs:List.Perm H' H)(hw:Fits B R H w):gu B R H w R H' w :=
 ⟨⟨hw.r,λ b o h=>hw.h b o (hs.subset h),(hs.map _).nodup_iff.2 hw.nd,λ b o h=>hw.dj b o (hs.subset h),hw.os,hw.tape,hw.out⟩,λ _ _ x=>x,dD _,λ _ _ _=>rfl,λ _ _ x=>.inl x,λ _ o x=>.inl ⟨o,hs.subset x⟩⟩
theorem At.perm{todo:List Item}(hs:List.Perm H' H)(h:At ab c R H' st todo):At ab c R H st todo:=At.ghost (λ _ hw=>ac3 hs hw) h
theorem J.perm{g:Goroutine}(hs:List.Perm H' H)(h:ab.J R H' g):ab.J R H g:=ab.ghost (λ _ hw=>ac3 hs hw) h
def az.ins(R:az)(b:Nat)(o:Obj):az:=λ x=>if x=b then some o else R x
theorem az.aJN(R:az)(b:Nat)(o:Obj):R.ins b o b=some o:=by simp [az.ins]
theorem az.aiQ{R:az}{b:Nat}{o:Obj}(h:R b=none):aR R (R.ins b o):=λ x u hx=>by
 unfold az.ins
 split
 ·subst_vars; rw [h] at hx; cases hx
 ·exact hx
theorem aQR{w:World}{b:Nat}{o:Obj}(hw:Fits B R ((b,o)::H) w):gu B R ((b,o)::H) w (R.ins b o) H w:=by
 have hb:R b=none:=hw.dj b o (by simp)
 have dM:=hw.nd
 rw [List.map_cons,List.nodup_cons] at dM
 refine ⟨⟨λ x u hx=>?_,λ x u hx=>hw.h x u (by simp [hx]),dM.2,λ x u hx=>?_,hw.os,hw.tape,hw.out⟩,az.aiQ hb,dD _,λ _ _ _=>rfl,λ x u hx=>?_,λ x u hx=>.inl ⟨u,by simp [hx]⟩⟩
 ·unfold az.ins at hx
  split at hx
  ·subst_vars; cases hx; exact hw.h _ _ (by simp)
  ·exact hw.r x u hx
 ·have cU:x≠b:=λ e=>dM.1 (List.mem_map.2 ⟨(x,u),hx,e⟩)
  unfold az.ins
  rw [if_neg cU]
  exact hw.dj x u (by simp [hx])
 ·unfold az.ins at hx
  split at hx
  ·subst_vars; exact .inr (.inl ⟨o,by simp⟩)
  ·exact .inl hx
theorem J.freeze{g:Goroutine}{b:Nat}{o:Obj}(h:∀ R',aR R R'→R' b=some o→ab.J R' H g)(hb:R b=none):ab.J R ((b,o)::H) g :=
 ab.ghost (λ _ hw=>aQR hw) (h _ (az.aiQ hb) (az.aJN R b o))
theorem J.auR{fr:Frame}{cs:List Frame}{b:Nat}{o:Obj}(h:∀ R',aR R R'→R' b=some o→ab.J R' H (bc fr cs)):ab.J R ((b,o)::H) (bc fr cs):=by
 cases hb:R b with
 | none=>exact J.freeze h hb
 | some x =>
  refine ab.step rfl λ w hw=>?_
  have:=hw.dj b o (by simp)
  rw [hb] at this
  cases this
theorem At.freeze{todo:List Item}{b:Nat}{o:Obj}(h:∀ R',aR R R'→R' b=some o→At ab c R' H st todo):At ab c R ((b,o)::H) st todo :=
 λ tmps ht=>J.auR λ R' h1 h2=>h R' h1 h2 tmps ht
theorem de.alf{n t:Nat}{x:Value}{tmps:Array Value}(hx:st.lookup t=some x)(h:de n st tmps):de n ((t,x)::st) tmps:=by
 refine ⟨h.1,λ u v hu=>?_⟩
 rw [List.lookup_cons] at hu
 split at hu
 ·rename_i heq
  have:u=t:=by simpa using heq
  subst this
  cases hu
  exact h.2 _ _ hx
 ·exact h.2 u v hu
theorem At.loop{body:Code}(I:Nat→az→ah→St→Prop)
  (Xi:∀ n R H st,I n R H st→(∀ m R' H' st',m < n→I m R' H' st'→At ab c R' H' st' (.inLoop body::k))→At ab c R H st (.code body :: .inLoop body::k))
  {n:Nat} (h0:I n R H st):At ab c R H st (.code (.loop body)::k):=by
 have key:∀ n R H st,I n R H st→At ab c R H st (.code body :: .inLoop body::k):=by
  intro n
  induction n using Nat.strongRecOn with
  | ind n ih=>exact λ R H st hI=>Xi n R H st hI λ m R' H' st' hm KY=>At.inLoop (ih m hm R' H' st' KY)
 exact At.enterLoop (key n R H st h0)
end
theorem Cell.mono{R R':az}{H:ah}{a:Addr}{v:Value}(h:Cell R [] a v)(hR:aR R R'):Cell R' H a v:=by
 obtain ⟨h1,cs,e,fz,h2,h3⟩:=h
 exact ⟨h1,cs,e,fz,.inl (h2.elim (hR _ _) (λ x=>by cases x)),h3⟩
theorem aU.up{R R':az}{H:ah}{b o:Nat}{vs:List Value}(h:aU R [] b o vs)(hR:aR R R'):aU R' H b o vs:=λ j v hj=>(h j v hj).mono hR
theorem aU.any{R:az}{H:ah}{b o:Nat}{vs:List Value}(h:aU R [] b o vs):aU R H b o vs:=h.up (aR.refl R)
theorem aU.one{R:az}{H:ah}{b o j:Nat}{v:Value}{vs:List Value}(h:aU R H b o vs)(hj:vs[j]? = some v):Cell R H ⟨b,o+j,none⟩ v:=h j v hj
end Go.Lg
