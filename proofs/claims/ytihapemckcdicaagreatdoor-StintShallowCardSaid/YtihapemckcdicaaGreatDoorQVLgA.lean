/- The base of a logic of goroutines in company. Conditions: none. -/
import Derived.Conc.Beside
import Derived.Conc.Events
import Derived.Conc.Listed
import Derived.Orders
namespace Go.Lg
open Go.Conc
abbrev ax:=Nat→Option Obj
abbrev aj:=List (Nat × Obj)
structure Base where
 os:Os→Prop
 tape:Nat→Question→Nat
 out:Array (Nat × ByteArray)
structure Fits (B:Base) (R:ax) (H:aj) (w:World):Prop where
 r:∀ b o,R b=some o→w.heap[b]? = some o
 h:∀ b o,(b,o)∈H→w.heap[b]? = some o
 nd:(H.map (·.1)).Nodup
 dj:∀ b o,(b,o)∈H→R b=none
 os:B.os w.os
 tape:w.tape=B.tape
 out:w.output=B.out
theorem k6{w:World}{b:Nat}{o:Obj}(h:w.heap[b]? = some o):b < w.heap.size:=(Array.getElem?_eq_some_iff.1 h).1
structure fK (B:Base) (R:ax) (H:aj) (w:World) (R':ax) (H':aj) (w':World):Prop where
 fits:Fits B R' H' w'
 rle:∀ b o,R b=some o→R' b=some o
 size:w.heap.size≤w'.heap.size
 same:∀ b,b < w.heap.size→(∀ o,(b,o) ∉ H)→w'.heap[b]? = w.heap[b]?
 FM:∀ b o,R' b=some o→R b=some o∨(∃ o',(b,o')∈H)∨w.heap.size≤b
 xI:∀ b o,(b,o)∈H'→(∃ o',(b,o')∈H)∨w.heap.size≤b
theorem fK.refl{B:Base}{R:ax}{H:aj}{w:World}(h:Fits B R H w):fK B R H w R H w :=
 ⟨h,λ _ _ x=>x,Nat.le_refl _,λ _ _ _=>rfl,λ _ _ x=>.inl x,λ _ o x=>.inl ⟨o,x⟩⟩
theorem fK.trans{B:Base}{R R' cI:ax}{H H' dW:aj}{w w' Pj:World}(h:fK B R H w R' H' w')(k:fK B R' H' w' cI dW Pj):fK B R H w cI dW Pj:=by
 refine ⟨k.fits,λ b o x=>k.rle b o (h.rle b o x),Nat.le_trans h.size k.size,λ b hb hn=>?_,λ b o x=>?_,λ b o x=>?_⟩
 ·rw [k.same b (Nat.lt_of_lt_of_le hb h.size) (λ o ho=>?_),h.same b hb hn]
  rcases h.xI b o ho with ⟨o',eX⟩ | tu
  ·exact hn o' eX
  ·omega
 ·rcases k.FM b o x with x | ⟨o',x⟩ | x
  ·exact h.FM b o x
  ·exact .inr (h.xI b o' x)
  ·exact .inr (.inr (Nat.le_trans h.size x))
 ·rcases k.xI b o x with ⟨o',x⟩ | x
  ·exact h.xI b o' x
  ·exact .inr (Nat.le_trans h.size x)
def A6(R:ax)(H:aj)(n:Nat)(write:Bool)(b:Nat):Prop:=(write=false∧(R b).isSome=true)∨(∃ o,(b,o)∈H)∨n≤b
def gQ(R:ax)(H:aj)(n m:Nat)(e:Event):Prop :=
 match e.loc with
 | .cell a=>e.sync=false∧a.block < m∧A6 R H n e.write a.block
 | .obj b=>e.sync=false∧b < m∧A6 R H n e.write b
 | .mark .noRoom=>True
 | _=>False
theorem A6.up{B:Base}{R R':ax}{H H':aj}{w w':World}(h:fK B R H w R' H' w'){wr:Bool}{b:Nat}(k:A6 R' H' w'.heap.size wr b):A6 R H w.heap.size wr b:=by
 rcases k with ⟨k1,k2⟩ | ⟨o,k⟩ | k
 ·obtain ⟨o,ho⟩:=Option.isSome_iff_exists.1 k2
  rcases h.FM b o ho with x | x | x
  ·exact .inl ⟨k1,by simp [x]⟩
  ·exact .inr (.inl x)
  ·exact .inr (.inr x)
 ·exact .inr (h.xI b o k)
 ·exact .inr (.inr (Nat.le_trans h.size k))
theorem gQ.up{B:Base}{R R':ax}{H H':aj}{w w':World}(h:fK B R H w R' H' w'){m:Nat}{e:Event}(k:gQ R' H' w'.heap.size m e):gQ R H w.heap.size m e:=by
 unfold gQ at k ⊢
 split at k
 ·exact ⟨k.1,k.2.1,k.2.2.up h⟩
 ·exact ⟨k.1,k.2.1,k.2.2.up h⟩
 ·trivial
 ·exact k.elim
theorem gQ.more{R:ax}{H:aj}{n m m':Nat}{e:Event}(hm:m≤m')(k:gQ R H n m e):gQ R H n m' e:=by
 unfold gQ at k ⊢
 split at k
 ·exact ⟨k.1,by omega,k.2.2⟩
 ·exact ⟨k.1,by omega,k.2.2⟩
 ·trivial
 ·exact k.elim
def aF{α:Type}(P:Program)(B:Base)(R:ax)(H:aj)(s:Sem α)(K:α→ax→aj→Prop):Prop :=
 ∀ w,Fits B R H w→∃ a w' R' H',s.run P w = .ok a w'∧(∀ e∈s.events P w #[],gQ R H w.heap.size w'.heap.size e)∧fK B R H w R' H' w'∧K a R' H'
section
variable {P:Program} {B:Base} {R:ax} {H:aj}
theorem aF.mono{α:Type}{s:Sem α}{K K':α→ax→aj→Prop}(h:aF P B R H s K)(hk:∀ a R' H',K a R' H'→K' a R' H'):aF P B R H s K':=by
 intro w hw
 obtain ⟨a,w',R',H',h1,h2,h3,h4⟩:=h w hw
 exact ⟨a,w',R',H',h1,h2,h3,hk _ _ _ h4⟩
theorem aF.pure{α:Type}{a:α}{K:α→ax→aj→Prop}(h:K a R H):aF P B R H (Pure.pure a:Sem α) K :=
 λ w hw=>⟨a,w,R,H,rfl,by simp,fK.refl hw,h⟩
theorem aF.bind{α β:Type}{s:Sem α}{f:α→Sem β}{K:β→ax→aj→Prop}(h:aF P B R H s λ a R' H'=>aF P B R' H' (f a) K):aF P B R H (s >>= f) K:=by
 intro w hw
 obtain ⟨a,w',R',H',h1,h2,h3,h4⟩:=h w hw
 obtain ⟨b,Pj,cI,dW,k1,k2,k3,k4⟩:=h4 w' h3.fits
 refine ⟨b,Pj,cI,dW,by simp [h1,k1],λ e he=>?_,h3.trans k3,k4⟩
 rw [Sem.events_bind,h1,Result.evThen_ok,Sem.events_acc] at he
 rcases Array.mem_append.1 he with he | he
 ·exact (h2 e he).more k3.size
 ·exact (k2 e he).up h3
theorem aF.map{α β:Type}{s:Sem α}{f:α→β}{K:β→ax→aj→Prop}(h:aF P B R H s λ a R' H'=>K (f a) R' H'):aF P B R H (f <$> s) K:=by
 intro w hw
 obtain ⟨a,w',R',H',h1,h2,h3,h4⟩:=h w hw
 exact ⟨f a,w',R',H',by simp [h1],by simpa using h2,h3,h4⟩
def ai{α:Type}(P:Program)(s:Sem α)(a:α):Prop:=∀ w,s.run P w = .ok a w∧s.events P w #[]=#[]
theorem ai.ok{α:Type}{s:Sem α}{a:α}{K:α→ax→aj→Prop}(h:ai P s a)(hk:K a R H):aF P B R H s K :=
 λ w hw=>⟨a,w,R,H,(h w).1,by rw [(h w).2]; simp,fK.refl hw,hk⟩
theorem ai.pure{α:Type}(a:α):ai P (Pure.pure a:Sem α) a:=λ _=>⟨rfl,rfl⟩
theorem ai.bind{α β:Type}{s:Sem α}{f:α→Sem β}{a:α}{b:β}(h:ai P s a)(k:ai P (f a) b):ai P (s >>= f) b :=
 λ w=>⟨by simp [(h w).1,(k w).1],by rw [Sem.events_bind,(h w).1,(h w).2]; exact (k w).2⟩
theorem ai.map{α β:Type}{s:Sem α}{f:α→β}{a:α}(h:ai P s a):ai P (f <$> s) (f a) :=
 λ w=>⟨by simp [(h w).1],by simpa using (h w).2⟩
theorem ai.program:ai P program P:=λ _=>⟨rfl,rfl⟩
theorem ai.underlying{t:TypeId}{d:TypeDesc}(h:P.underlying t=some d):ai P (underlying t) d:=λ w=>⟨by simp [Go.underlying,h],by simp⟩
theorem ai.typeInfo{t:TypeId}{i:TypeInfo}(h:P.info? t=some i):ai P (typeInfo t) i:=λ w=>⟨by simp [Go.typeInfo,h],by simp⟩
theorem ai.eT{α β:Type}{s:Sem α}{f:α→Sem β}{a:α}{K:β→ax→aj→Prop}(h:ai P s a)(hk:aF P B R H (f a) K):aF P B R H (s >>= f) K :=
 aF.bind (h.ok hk)
def Cell(R:ax)(H:aj)(a:Addr)(v:Value):Prop :=
 a.spot=none∧∃ cs e fz,(R a.block=some (.cells cs e fz)∨(a.block,Obj.cells cs e fz)∈H)∧cs[a.off]? = some v
theorem Cell.at_{w:World}{a:Addr}{v:Value}(h:Cell R H a v)(hw:Fits B R H w):w.cell? a=some v:=by
 obtain ⟨hs,cs,e,fz,h1,h2⟩:=h
 have hh:w.heap[a.block]? = some (.cells cs e fz):=h1.elim (hw.r _ _) (hw.h _ _)
 simp [World.cell?,hh,hs,h2]
theorem Cell.touch{a:Addr}{v:Value}(h:Cell R H a v)(n:Nat):A6 R H n false a.block:=by
 obtain ⟨_,cs,e,fz,h1,_⟩:=h
 rcases h1 with h1 | h1
 ·exact .inl ⟨rfl,by simp [h1]⟩
 ·exact .inr (.inl ⟨_,h1⟩)
theorem aDf{w:World}{a:Addr}{v:Value}(h:w.cell? a=some v):a.block < w.heap.size:=by
 unfold World.cell? at h
 split at h
 ·exact k6 ‹_›
 ·cases h
theorem aF.load{a:Addr}{v:Value}{K:Value→ax→aj→Prop}(h:Cell R H a v)(hk:K v R H):aF P B R H (load a) K:=by
 intro w hw
 have hc:=h.at_ hw
 refine ⟨v,w,R,H,by simp [hc],?_,fK.refl hw,hk⟩
 intro e he
 simp only [events_load,hc] at he
 simp at he
 subst he
 exact ⟨rfl,aDf hc,h.touch _⟩
theorem aF.new{o:Obj}{K:Nat→ax→aj→Prop}(hk:∀ r,R r=none→(∀ x,(r,x) ∉ H)→K r R ((r,o)::H)):aF P B R H (newObj o) K:=by
 intro w hw
 have hR:R w.heap.size=none:=by
  cases h:R w.heap.size with
  | none=>rfl
  | some x=>exact absurd (k6 (hw.r _ _ h)) (Nat.lt_irrefl _)
 have hH:∀ x,(w.heap.size,x) ∉ H:=λ x hx=>absurd (k6 (hw.h _ _ hx)) (Nat.lt_irrefl _)
 have tv:∀ b (x:Obj),w.heap[b]? = some x→(w.heap.push o)[b]? = some x:=λ b x hx=>by
  have:=k6 hx
  rw [Array.getElem?_push]
  rw [if_neg (by omega)]; exact hx
 refine ⟨w.heap.size,{ w with heap:=w.heap.push o },R,(w.heap.size,o)::H,by simp,by simp,⟨⟨?_,?_,?_,?_,hw.os,hw.tape,hw.out⟩,λ _ _ x=>x,by simp,?_,λ _ _ x=>.inl x,?_⟩,hk _ hR hH⟩
 ·exact λ b x hx=>tv b x (hw.r b x hx)
 ·intro b x hx
  rcases List.mem_cons.1 hx with hx | hx
  ·cases hx; simp
  ·exact tv b x (hw.h b x hx)
 ·rw [List.map_cons,List.nodup_cons]
  refine ⟨λ hm=>?_,hw.nd⟩
  obtain ⟨p,hp,he⟩:=List.mem_map.1 hm
  have MO:p.1=w.heap.size:=he
  exact hH p.2 (by rw [← MO]; exact hp)
 ·intro b x hx
  rcases List.mem_cons.1 hx with hx | hx
  ·cases hx; exact hR
  ·exact hw.dj b x hx
 ·intro b hb _
  show (w.heap.push o)[b]? = _
  rw [Array.getElem?_push,if_neg (by omega)]
 ·intro b x hx
  rcases List.mem_cons.1 hx with hx | hx
  ·cases hx; exact .inr (Nat.le_refl _)
  ·exact .inl ⟨x,hx⟩
inductive fj:aj→Nat→Obj→Obj→aj→Prop
 | here {b:Nat} {o o':Obj} {H:aj}:fj ((b,o)::H) b o o' ((b,o')::H)
 | there {b:Nat} {o o':Obj} {p:Nat × Obj} {H H':aj}:fj H b o o' H'→fj (p::H) b o o' (p::H')
theorem fj.keys{H H':aj}{b:Nat}{o o':Obj}(h:fj H b o o' H'):H'.map (·.1)=H.map (·.1):=by
 induction h with
 | here=>rfl
 | there _ ih=>simp [ih]
theorem fj.mem{H H':aj}{b:Nat}{o o':Obj}(h:fj H b o o' H'):(b,o)∈H:=by
 induction h with
 | here=>simp
 | there _ ih=>exact List.mem_cons_of_mem _ ih
theorem fj.old{H H':aj}{b:Nat}{o o':Obj}(h:fj H b o o' H')(hn:(H.map (·.1)).Nodup):∀ c x,(c,x)∈H'→(c=b∧x=o')∨(c≠b∧(c,x)∈H):=by
 induction h with
 | @here b o o' H =>
  intro c x hx
  rw [List.map_cons,List.nodup_cons] at hn
  rcases List.mem_cons.1 hx with gA | gA
  ·cases gA; exact .inl ⟨rfl,rfl⟩
  ·refine .inr ⟨λ e=>hn.1 ?_,List.mem_cons_of_mem _ gA⟩
   rw [← e]
   exact List.mem_map.2 ⟨(c,x),gA,rfl⟩
 | @there b o o' p H H' hs ih =>
  intro c x hx
  rw [List.map_cons,List.nodup_cons] at hn
  rcases List.mem_cons.1 hx with hx | hx
  ·subst hx
   refine .inr ⟨λ e=>hn.1 ?_,by simp⟩
   simp only at e ⊢
   subst e
   exact List.mem_map.2 ⟨_,hs.mem,rfl⟩
  ·exact (ih hn.2 c x hx).imp id λ y=>⟨y.1,List.mem_cons_of_mem _ y.2⟩
theorem Fits.M8{H':aj}{b:Nat}{o o':Obj}{w:World}(hw:Fits B R H w)(h:fj H b o o' H') :
  fK B R H w R H' { w with heap:=w.heap.setIfInBounds b o' }:=by
 have hb:w.heap[b]? = some o:=hw.h _ _ h.mem
 have bL:=k6 hb
 have cT:∀ c,c≠b→(w.heap.setIfInBounds b o')[c]? = w.heap[c]? := λ c hc=>Array.getElem?_setIfInBounds_ne (by omega)
 refine ⟨⟨?_,?_,by rw [h.keys]; exact hw.nd,?_,hw.os,hw.tape,hw.out⟩,λ _ _ x=>x,by simp,?_,λ _ _ x=>.inl x,?_⟩
 ·intro c x hx
  show (w.heap.setIfInBounds b o')[c]? = _
  rw [cT c (λ e=>by subst e; have:=hw.dj _ _ h.mem; rw [hx] at this; cases this)]
  exact hw.r c x hx
 ·intro c x hx
  show (w.heap.setIfInBounds b o')[c]? = _
  rcases h.old hw.nd c x hx with ⟨rfl,rfl⟩ | ⟨hc,hx⟩
  ·rw [Array.getElem?_setIfInBounds_self_of_lt bL]
  ·rw [cT c hc]; exact hw.h c x hx
 ·intro c x hx
  rcases h.old hw.nd c x hx with ⟨rfl,_⟩ | ⟨_,hx⟩
  ·exact hw.dj _ _ h.mem
  ·exact hw.dj c x hx
 ·intro c _ hn
  exact cT c (λ e=>by subst e; exact hn _ h.mem)
 ·intro c x hx
  rcases h.old hw.nd c x hx with ⟨rfl,_⟩ | ⟨_,hx⟩
  ·exact .inl ⟨_,h.mem⟩
  ·exact .inl ⟨_,hx⟩
theorem aF.store{a:Addr}{v:Value}{cs:Array Value}{e:TypeId}{H':aj}{K:Unit→ax→aj→Prop}(h1:v.oneCell'=true)(ha:a.spot=none)(bL:a.off < cs.size)
  (hs:fj H a.block (.cells cs e (0,0)) (.cells (cs.setIfInBounds a.off v) e (0,0)) H') (hk:K () R H'):aF P B R H (store a v) K:=by
 intro w hw
 have hb:w.heap[a.block]? = some (.cells cs e (0,0)):=hw.h _ _ hs.mem
 have hc:w.cell? a=some cs[a.off]:=by simp [World.cell?,hb,ha,bL]
 have hf:w.frozen? a=false:=by simp [World.frozen?,hb]
 have M8:w.setCell a v={ w with heap:=w.heap.setIfInBounds a.block (.cells (cs.setIfInBounds a.off v) e (0,0)) }:=by
  simp only [World.setCell]
  congr 1
  apply Array.ext_getElem?
  intro i
  rw [Array.getElem?_modify]
  by_cases hi:a.block=i
  ·subst hi
   rw [Array.getElem?_setIfInBounds_self_of_lt (k6 hb),hb]
   simp [ha]
  ·simp [hi,Array.getElem?_setIfInBounds_ne hi]
 refine ⟨(),w.setCell a v,R,H',by rw [run_store P w a v _ h1]; simp [hc,hf],?_,?_,hk⟩
 ·intro e he
  rw [events_store P w #[] a v _ h1] at he
  simp [hc,hf] at he
  subst he
  refine ⟨rfl,?_,.inr (.inl ⟨_,hs.mem⟩)⟩
  simpa [World.setCell] using k6 hb
 ·rw [M8]; exact hw.M8 hs
def Obj.plain:Obj→Bool
 | .cells .. => false
 | .chan .. => false
 | _=>true
theorem aF.getObj{r:Nat}{o:Obj}{K:Obj→ax→aj→Prop}(ho:Obj.plain o=true)(h:R r=some o∨(r,o)∈H)(hk:K o R H):aF P B R H (getObj r) K:=by
 intro w hw
 have hh:w.heap[r]? = some o:=h.elim (hw.r _ _) (hw.h _ _)
 have j5:(Go.getObj r).run P w = .ok o w:=by
  cases o <;> simp_all [Obj.plain,Go.getObj,Sem.run]
 have jH:(Go.getObj r).events P w #[]=#[⟨.obj r,false,false⟩]:=by
  cases o <;> simp_all [Obj.plain,Go.getObj,Sem.events,Sem.runT,Obj.isChan,-Sem.runT_eq]
 refine ⟨o,w,R,H,j5,?_,fK.refl hw,hk⟩
 intro e he
 rw [jH] at he
 simp at he
 subst he
 exact ⟨rfl,k6 hh,h.elim (λ x=>.inl ⟨rfl,by simp [x]⟩) (λ x=>.inr (.inl ⟨_,x⟩))⟩
theorem aF.setObj{r:Nat}{o o':Obj}{H':aj}{K:Unit→ax→aj→Prop}(ho:Obj.plain o=true)(eX:Obj.plain o'=true)(hs:fj H r o o' H')(hk:K () R H'):aF P B R H (setObj r o') K:=by
 intro w hw
 have hh:w.heap[r]? = some o:=hw.h _ _ hs.mem
 have j5:(Go.setObj r o').run P w = .ok () { w with heap:=w.heap.setIfInBounds r o' }:=by
  cases o <;> simp_all [Obj.plain,Go.setObj,Sem.run]
 have jH:(Go.setObj r o').events P w #[]=#[⟨.obj r,true,false⟩]:=by
  cases o <;> simp_all [Obj.plain,Go.setObj,Sem.events,Sem.runT,-Sem.runT_eq] <;> (cases o' <;> simp_all [Obj.isChan])
 refine ⟨(),_,R,H',j5,?_,hw.M8 hs,hk⟩
 intro e he
 rw [jH] at he
 simp at he
 subst he
 exact ⟨rfl,by simpa using k6 hh,.inr (.inl ⟨_,hs.mem⟩)⟩
theorem aF.choose{q:Question}{K:Nat→ax→aj→Prop}(hk:∀ t,K (if q.forced then 0 else q.cut t) R H):aF P B R H (choose q) K:=by
 intro w hw
 cases hf:q.forced with
 | true =>
  have:=hk 0
  rw [hf] at this
  exact ⟨0,w,R,H,by simp [Go.choose,Sem.run,hf],by simp,fK.refl hw,by simpa using this⟩
 | false =>
  have:=hk (w.tape w.drawn q)
  rw [hf] at this
  exact ⟨q.cut (w.tape w.drawn q),{ w with drawn:=w.drawn+1 },R,H,by simp [Go.choose,Sem.run,hf],by simp,⟨⟨hw.r,hw.h,hw.nd,hw.dj,hw.os,hw.tape,hw.out⟩,λ _ _ x=>x,Nat.le_refl _,λ _ _ _=>rfl,λ _ _ x=>.inl x,λ _ o x=>.inl ⟨o,x⟩⟩,by simpa using this⟩
theorem aF.aFj{K:Unit→ax→aj→Prop}(hk:K () R H):aF P B R H (mark .noRoom) K :=
 λ w hw=>⟨(),w,R,H,rfl,by simp [gQ],fK.refl hw,hk⟩
end
end Go.Lg
namespace Go.Lg
open Go.Conc
structure Jd (P:Program) (B:Base) (main:Bool) where
 J:ax→aj→Goroutine→Prop
 step:∀ {R H g},g.status = .running→(∀ w,Fits B R H w→∃ g' w' es R' H',stepG P main g w = .go g' w' es∧(∀ e∈es,gQ R H w.heap.size w'.heap.size e)∧fK B R H w R' H' w'∧J R' H' g')→J R H g
 ghost:∀ {R H R' H' g},(∀ w,Fits B R H w→fK B R H w R' H' w)→J R' H' g→J R H g
abbrev St:=List (Nat × Value)
structure Ctx where
 fn:FuncId
 kind:CallKind
 ro:Option Nat
 n:Nat
 defers:List Deferred
 cs:List Frame
def aV(fr:Frame)(cs:List Frame):Goroutine:={ frame:=fr,callers:=cs,status:=.running,dying:=none }
def aU(c:Ctx)(tmps:Array Value)(todo:List Item):Frame:={ fn:=c.fn,tmps,todo,defers:=c.defers,mode:=.run,kind:=c.kind,roundOf:=c.ro }
def cS(n:Nat)(st:St)(tmps:Array Value):Prop:=tmps.size=n∧∀ t v,st.lookup t=some v→tmps[t]? = some v
def cj(st:St):St→Prop
 | []=>True
 | p::r=>st.lookup p.1=some p.2∧cj st r
def aA(st st':St):Prop:=∀ t v,st'.lookup t=some v→st.lookup t=some v
theorem cj.sub{st:St}:∀ {st':St},cj st st'→aA st st'
 | [],_,_,_,h=>by cases h
 | p::r,hs,t,v,h=>by
  rw [List.lookup_cons] at h
  split at h
  ·rename_i heq
   cases h
   have:t=p.1:=by simpa using heq
   subst this
   exact hs.1
  ·exact cj.sub hs.2 t v h
theorem aA.refl(st:St):aA st st:=λ _ _ h=>h
theorem cS.sub{n:Nat}{st st':St}{tmps:Array Value}(h:cS n st tmps)(hs:aA st st'):cS n st' tmps:=⟨h.1,λ t v x=>h.2 t v (hs t v x)⟩
def bZ(dst:Option Tmp)(v:Value)(st:St):St:=match dst with | some d=>(d,v)::st | none=>st
theorem aA.put{dst:Option Tmp}{d:Tmp}{v:Value}{st:St}(h:dst=some d):aA (bZ dst v st) ((d,v)::st):=by subst h; exact aA.refl _
theorem aA.N3{dst:Option Tmp}{v:Value}{st:St}(h:dst=none):aA (bZ dst v st) st:=by subst h; exact aA.refl _
def fB(dst:Option Tmp)(v:Value)(tmps:Array Value):Array Value:=match dst with | some d=>tmps.setIfInBounds d v | none=>tmps
def akX(dst:Option Tmp)(n:Nat):Bool:=match dst with | some d=>Nat.blt d n | none=>true
def bT(dst:Option Tmp)(n:Nat):Prop:=akX dst n=true
theorem bT.lt{d n:Nat}(h:bT (some d) n):d < n:=by
 have:Nat.blt d n=true:=h
 simpa [Nat.blt_eq] using this
theorem cS.put{n:Nat}{st:St}{tmps:Array Value}(h:cS n st tmps){dst:Option Tmp}(v:Value)(hd:bT dst n):cS n (bZ dst v st) (fB dst v tmps):=by
 cases dst with
 | none=>exact h
 | some d =>
  refine ⟨by simp [fB,h.1],λ t u hu=>?_⟩
  have hd':d < tmps.size:=by rw [h.1]; exact hd.lt
  simp only [bZ,List.lookup_cons] at hu
  split at hu
  ·rename_i heq
   cases hu
   have:t=d:=by simpa using heq
   subst this
   simp [fB,hd']
  ·rename_i heq
   have cT:t≠d:=by simpa using heq
   simp only [fB]
   rw [Array.getElem?_setIfInBounds_ne (Ne.symm cT)]
   exact h.2 t u hu
def bl(st:St):Operand→Option Value
 | .tmp t=>st.lookup t
 | .const v=>some v
 | .global g=>some (.pointer (some ⟨g,0,none⟩))
 | .func f=>some (.func (.func f) #[] #[])
def Knows(st:St)(ρ:Operand→Value):Prop:=∀ x v,bl st x=some v→ρ x=v
theorem cS.knows{n:Nat}{st:St}{tmps:Array Value}(h:cS n st tmps)(c:Ctx)(todo:List Item):Knows st (aU c tmps todo).eval:=by
 intro x v hx
 cases x with
 | tmp t =>
  have:=h.2 t v hx
  simp [aU,Frame.eval,Array.getD_eq_getD_getElem?,this]
 | const u=>cases hx; rfl
 | global g=>cases hx; rfl
 | func f=>cases hx; rfl
section
variable {P:Program} {B:Base} {main:Bool} (ae:Jd P B main)
def At(c:Ctx)(R:ax)(H:aj)(st:St)(todo:List Item):Prop:=∀ tmps,cS c.n st tmps→ae.J R H (aV (aU c tmps todo) c.cs)
variable {ae} {c:Ctx} {R:ax} {H:aj} {st:St} {k:List Item}
theorem At.sub{st':St}{todo:List Item}(hs:aA st st')(h:At ae c R H st' todo):At ae c R H st todo:=λ tmps ht=>h tmps (ht.sub hs)
theorem At.ghost{R':ax}{H':aj}{todo:List Item}(hg:∀ w,Fits B R H w→fK B R H w R' H' w)(h:At ae c R' H' st todo):At ae c R H st todo:=λ tmps ht=>ae.ghost hg (h tmps ht)
theorem Jd.ctl{R:ax}{H:aj}{g g':Goroutine}(hs:g.status = .running)(h:∀ w,stepG P main g w = .go g' w)(hj:ae.J R H g'):ae.J R H g :=
 ae.step hs λ w hw=>⟨g',w,#[],R,H,h w,by simp,fK.refl hw,hj⟩
theorem At.skip(h:At ae c R H st k):At ae c R H st (.code .skip::k):=λ tmps ht=>Jd.ctl rfl (λ w=>by simp [stepG,stepG.exec,aV,aU]) (h tmps ht)
theorem At.label{l:Nat}(h:At ae c R H st k):At ae c R H st (.code (.label l)::k):=λ tmps ht=>Jd.ctl rfl (λ w=>by simp [stepG,stepG.exec,aV,aU]) (h tmps ht)
theorem At.inBlock{id:Nat}(h:At ae c R H st k):At ae c R H st (.inBlock id::k):=λ tmps ht=>Jd.ctl rfl (λ w=>by simp [stepG,stepG.exec,aV,aU]) (h tmps ht)
theorem At.seq{x y:Code}(h:At ae c R H st (.code x :: .code y::k)):At ae c R H st (.code (.seq x y)::k):=λ tmps ht=>Jd.ctl rfl (λ w=>by simp [stepG,stepG.exec,aV,aU]) (h tmps ht)
theorem At.block{id:Nat}{x:Code}(h:At ae c R H st (.code x :: .inBlock id::k)):At ae c R H st (.code (.block id x)::k):=λ tmps ht=>Jd.ctl rfl (λ w=>by simp [stepG,stepG.exec,aV,aU]) (h tmps ht)
theorem At.scope{x:Code}(h:At ae c R H st (.code x :: .inScope x::k)):At ae c R H st (.code (.scope x)::k):=λ tmps ht=>Jd.ctl rfl (λ w=>by simp [stepG,stepG.exec,aV,aU]) (h tmps ht)
theorem At.enterLoop{x:Code}(h:At ae c R H st (.code x :: .inLoop x::k)):At ae c R H st (.code (.loop x)::k):=λ tmps ht=>Jd.ctl rfl (λ w=>by simp [stepG,stepG.exec,aV,aU]) (h tmps ht)
theorem At.inLoop{x:Code}(h:At ae c R H st (.code x :: .inLoop x::k)):At ae c R H st (.inLoop x::k):=λ tmps ht=>Jd.ctl rfl (λ w=>by simp [stepG,stepG.exec,aV,aU]) (h tmps ht)
theorem At.exit{id:Nat}{k':List Item}(he:exitTo id k=some k')(h:At ae c R H st k'):At ae c R H st (.code (.exit id)::k):=λ tmps ht=>Jd.ctl rfl (λ w=>by simp [stepG,stepG.exec,aV,aU,he]) (h tmps ht)
theorem At.region{id:Nat}{ops:Array Oper}(h:At ae c R H st (.inRegion ops (List.range ops.size)::k)):At ae c R H st (.code (.region id ops false)::k):=λ tmps ht=>Jd.ctl rfl (λ w=>by simp [stepG,stepG.exec,aV,aU]) (h tmps ht)
theorem At.aP{ops:Array Oper}(h:At ae c R H st k):At ae c R H st (.inRegion ops []::k):=λ tmps ht=>Jd.ctl rfl (λ w=>by simp [stepG,stepG.exec,aV,aU]) (h tmps ht)
theorem At.cond{x:Operand}{th el:Code}{t:Bool}(hx:bl st x=some (.bool t))(h1:t=true→At ae c R H st (.code th::k))(h2:t=false→At ae c R H st (.code el::k)):At ae c R H st (.code (.cond x th el)::k):=by
 intro tmps ht
 have he:=ht.knows c (.code (.cond x th el)::k) x _ hx
 cases t with
 | true=>exact Jd.ctl rfl (λ w=>by simp only [aU] at he; simp [stepG,stepG.exec,aV,aU,he]) (h1 rfl tmps ht)
 | false=>exact Jd.ctl rfl (λ w=>by simp only [aU] at he; simp [stepG,stepG.exec,aV,aU,he]) (h2 rfl tmps ht)
theorem At.cond_true{x:Operand}{th el:Code}(hx:bl st x=some (.bool true))(h:At ae c R H st (.code th::k)):At ae c R H st (.code (.cond x th el)::k):=At.cond hx (λ _=>h) (λ e=>by cases e)
theorem At.cond_false{x:Operand}{th el:Code}(hx:bl st x=some (.bool false))(h:At ae c R H st (.code el::k)):At ae c R H st (.code (.cond x th el)::k):=At.cond hx (λ e=>by cases e) (λ _=>h)
def mI:Op→Bool
 | .defer _=>true
 | _=>false
theorem px{tmps:Array Value}{ops:Array Oper}{i:Nat}{rest:List Nat}{o:Oper}{w:World}(ho:ops[i]? = some o)(hw:Region.wanted o (yielded ops tmps)=true)(hd:mI o.op=false) :
  stepG P main (aV (aU c tmps (.inRegion ops (i::rest)::k)) c.cs) w=stepG.apply P true (aU c tmps (.inRegion ops (i::rest)::k)) c.cs none (execOp (aU c tmps (.inRegion ops (i::rest)::k)).eval o) w:=by
 cases hr:c.ro with
 | none=>simp [aV,stepG,stepG.exec,stepG.oper,Frame.oper?,aU,ho,hw,hr]
 | some l =>
  simp only [aV,stepG,stepG.exec,stepG.oper,Frame.oper?,aU,ho,hw,hr,Option.map_some,Option.getD_some,if_true]
  split
  ·rename_i h1 h2; rw [h2] at hd; cases hd
  ·rfl
theorem XQ{tmps:Array Value}{ops:Array Oper}{i:Nat}{rest:List Nat}{o:Oper}{w:World}(ho:ops[i]? = some o)(hw:Region.wanted o (yielded ops tmps)=false) :
  stepG P main (aV (aU c tmps (.inRegion ops (i::rest)::k)) c.cs) w = .go (aV (aU c (fB o.dst undef tmps) (.inRegion ops rest::k)) c.cs) w:=by
 simp only [aV,stepG,stepG.exec,aU,ho,hw,Option.map_some,Option.getD_some,Frame.finish,Option.bind_some,fB]
 cases o.dst <;> rfl
theorem pR{tmps:Array Value}{ops:Array Oper}{i:Nat}{rest:List Nat}{o:Oper}{v:Value}(ho:ops[i]? = some o) :
  (aU c tmps (.inRegion ops (i::rest)::k)).finish v=aU c (fB o.dst v tmps) (.inRegion ops rest::k):=by
 simp only [Frame.finish,aU,ho,Option.bind_some,fB]
 cases o.dst <;> rfl
def cN(ops:Array Oper)(st:St)(o:Oper):Option Bool :=
 match o.guard with
 | none=>some true
 | some (j,want)=>match ((ops[j]?).bind (·.dst)).bind (st.lookup ·) with
  | some (.bool b)=>some (b == want)
  | some (.tuple _)=>some false
  | _=>none
theorem kl{n:Nat}{ops:Array Oper}{tmps:Array Value}{o:Oper}{b:Bool}(ht:cS n st tmps)(h:cN ops st o=some b):Region.wanted o (yielded ops tmps)=b:=by
 unfold cN at h
 unfold Region.wanted
 split at h
 ·rename_i hg; simp only [hg]; exact Option.some.inj h
 ·rename_i j want hg
  simp only [hg,yielded]
  cases hd:(ops[j]?).bind (·.dst) with
  | none=>simp [hd] at h
  | some d =>
   simp only [hd,Option.bind_some] at h ⊢
   cases hl:st.lookup d with
   | none=>simp [hl] at h
   | some v =>
    rw [hl] at h
    rw [ht.2 d v hl]
    cases v <;> simp at h ⊢ <;> first | (rw [← h]; done) | exact h.symm | (subst h; rfl)
theorem A8{fr:Frame}{cs:List Frame}{s:Sem Next}{w w':World}{v:Value}(hk:fr.kind ≠ .early)(hr:s.run P w = .ok (.value v) w') :
  stepG.apply P true fr cs none s w = .go (aV (fr.finish v) cs) w' (seen P fr.fn (s.events P w #[])):=by
 have dM:(fr.kind == CallKind.early)=false:=by simpa using hk
 simp [stepG.apply,hr,aV,dM,GStep.after]
theorem QE{fr:Frame}{cs:List Frame}{s:Sem Next}{w w':World}(hk:fr.kind ≠ .early)(hr:s.run P w = .ok .skip w') :
  stepG.apply P true fr cs none s w = .go (aV (fr.finish undef) cs) w' (seen P fr.fn (s.events P w #[])):=by
 have dM:(fr.kind == CallKind.early)=false:=by simpa using hk
 simp [stepG.apply,hr,aV,dM,GStep.after]
theorem Hk{fr:Frame}{cs:List Frame}{s:Sem Next}{w w':World}{f:FuncId}{args:Array Value}{ops:Array Oper}{is:List Nat}{k:List Item}(ht:fr.todo = .inRegion ops is::k)(hk:fr.kind ≠ .early)(hr:s.run P w = .ok (.enter f args) w') :
  stepG.apply P true fr cs none s w = .go (aV (Frame.enter P f args .normal) (fr::cs)) w' (seen P fr.fn (s.events P w #[])):=by
 have dM:(fr.kind == CallKind.early)=false:=by simpa using hk
 simp [stepG.apply,hr,aV,dM,GStep.after,ht]
theorem At.op{ops:Array Oper}{i:Nat}{rest:List Nat}{o:Oper}(ho:ops[i]? = some o)(hw:cN ops st o=some true)(hd:mI o.op=false)(hk:c.kind ≠ .early)
  (h:∀ ρ,Knows st ρ→aF P B R H (execOp ρ o) λ nx R' H'=>∃ v,(nx = .value v∨(nx = .skip∧v=undef))∧bT o.dst c.n∧∃ st',aA (bZ o.dst v st) st'∧At ae c R' H' st' (.inRegion ops rest::k)) :
  At ae c R H st (.inRegion ops (i::rest)::k):=by
 intro tmps ht
 refine ae.step rfl λ w pZ=>?_
 obtain ⟨nx,w',R',H',h1,h2,h3,v,hv,kZ,st',hs,jF⟩:=h _ (ht.knows c _) w pZ
 refine ⟨aV (aU c (fB o.dst v tmps) (.inRegion ops rest::k)) c.cs,w',seen P c.fn ((execOp (aU c tmps (.inRegion ops (i::rest)::k)).eval o).events P w #[]),R',H',?_,λ e he=>h2 e (mem_seen he),h3,jF _ ((ht.put v kZ).sub hs)⟩
 rw [px ho (kl ht hw) hd,← pR (rest:=rest) (k:=k) (c:=c) (tmps:=tmps) (v:=v) ho]
 rcases hv with rfl | ⟨rfl,rfl⟩
 ·exact A8 hk h1
 ·exact QE hk h1
theorem At.unwanted{ops:Array Oper}{i:Nat}{rest:List Nat}{o:Oper}{st':St}(ho:ops[i]? = some o)(hw:cN ops st o=some false)(kZ:bT o.dst c.n)(hs:aA (bZ o.dst undef st) st')
  (h:At ae c R H st' (.inRegion ops rest::k)):At ae c R H st (.inRegion ops (i::rest)::k) :=
 λ _ ht=>Jd.ctl rfl (λ _=>XQ ho (kl ht hw)) (h _ ((ht.put undef kZ).sub hs))
def az(ae:Jd P B main)(f:FuncId)(args:Array Value)(R:ax)(H:aj)(Post:Value→ax→aj→Prop):Prop :=
 ∀ fr cs,(∀ v R' H',Post v R' H'→ae.J R' H' (aV (fr.finish v) cs))→ae.J R H (aV (Frame.enter P f args .normal) (fr::cs))
theorem az.mono{f:FuncId}{args:Array Value}{Post G9:Value→ax→aj→Prop}(h:az ae f args R H Post)(hp:∀ v R' H',Post v R' H'→G9 v R' H'):az ae f args R H G9 :=
 λ fr cs hk=>h fr cs λ v R' H' hv=>hk v R' H' (hp v R' H' hv)
theorem At.enters{ops:Array Oper}{i:Nat}{rest:List Nat}{o:Oper}{f:FuncId}{args:Array Value}{Post:Value→ax→aj→Prop}(ho:ops[i]? = some o)(hw:cN ops st o=some true)(hd:mI o.op=false)(hk:c.kind ≠ .early)(kZ:bT o.dst c.n)
  (he:∀ ρ,Knows st ρ→ai P (execOp ρ o) (.enter f args)) (hf:az ae f args R H Post)
  (h:∀ v R' H',Post v R' H'→∃ st',aA (bZ o.dst v st) st'∧At ae c R' H' st' (.inRegion ops rest::k)) :
  At ae c R H st (.inRegion ops (i::rest)::k):=by
 intro tmps ht
 refine ae.step rfl λ w pZ=>?_
 have hv:=he _ (ht.knows c (.inRegion ops (i::rest)::k)) w
 refine ⟨aV (Frame.enter P f args .normal) (aU c tmps (.inRegion ops (i::rest)::k)::c.cs),w,seen P c.fn ((execOp (aU c tmps (.inRegion ops (i::rest)::k)).eval o).events P w #[]),R,H,?_,?_,fK.refl pZ,hf _ _ λ v R' H' hp=>?_⟩
 ·rw [px ho (kl ht hw) hd]
  exact Hk rfl hk hv.1
 ·intro e Ig
  have:=mem_seen Ig
  rw [hv.2] at this
  simp at this
 ·obtain ⟨st',hs,jF⟩:=h v R' H' hp
  rw [pR ho]
  exact jF _ ((ht.put v kZ).sub hs)
def oO(ae:Jd P B main)(c:Ctx)(o:Oper)(R:ax)(H:aj)(st:St)(C:ax→aj→St→Prop):Prop :=
 mI o.op=false∧bT o.dst c.n ∧
  ((∀ ρ,Knows st ρ→aF P B R H (execOp ρ o) λ nx R' H'=>∃ v,(nx = .value v∨(nx = .skip∧v=undef))∧∃ st',aA (bZ o.dst v st) st'∧C R' H' st') ∨
   (∃ f args,(∀ ρ,Knows st ρ→ai P (execOp ρ o) (.enter f args))∧az ae f args R H λ v R' H'=>∃ st',aA (bZ o.dst v st) st'∧C R' H' st'))
def aK(P:Program)(B:Base)(c:Ctx)(o:Oper)(R:ax)(H:aj)(st:St)(C:ax→aj→St→Prop):Prop :=
 mI o.op=false∧bT o.dst c.n∧∀ ρ,Knows st ρ→aF P B R H (execOp ρ o) λ nx R' H'=>∃ v,(nx = .value v∨(nx = .skip∧v=undef))∧∃ st',aA (bZ o.dst v st) st'∧C R' H' st'
theorem aK.to{o:Oper}{C:ax→aj→St→Prop}(h:aK P B c o R H st C):oO ae c o R H st C:=⟨h.1,h.2.1,.inl h.2.2⟩
theorem At.step{ops:Array Oper}{i:Nat}{rest:List Nat}{o:Oper}(ho:ops[i]? = some o)(hw:cN ops st o=some true)(hk:(c.kind == CallKind.early)=false)
  (h:oO ae c o R H st λ R' H' st'=>At ae c R' H' st' (.inRegion ops rest::k)):At ae c R H st (.inRegion ops (i::rest)::k):=by
 obtain ⟨hd,kZ,h | ⟨f,args,h1,h2⟩⟩:=h
 ·exact At.op ho hw hd (by simpa using hk) λ ρ bd=>(h ρ bd).mono λ nx R' H' ⟨v,hv,hx⟩=>⟨v,hv,kZ,hx⟩
 ·exact At.enters ho hw hd (by simpa using hk) kZ h1 h2 λ v R' H' hx=>hx
theorem At.iq{ops:Array Oper}{i:Nat}{rest:List Nat}{o:Oper}(ho:ops[i]? = some o)(hw:cN ops st o=some true)(hk:(c.kind == CallKind.early)=false)
  (h:aK P B c o R H st λ R' H' st'=>At ae c R' H' st' (.inRegion ops rest::k)):At ae c R H st (.inRegion ops (i::rest)::k):=At.step ho hw hk h.to
theorem At.aGI{id n:Nat}{is:List Nat}{ops:Array Oper}(hn:ops.size=n)(lP:List.range n=is)(h:At ae c R H st (.inRegion ops is::k)):At ae c R H st (.code (.region id ops false)::k):=by
 subst hn; subst lP; exact At.region h
def uR:Nat→List Value→St
 | _,[]=>[]
 | i,v::r=>(i,v)::uR (i+1) r
theorem Hl:∀ (args:List Value) (i t:Nat) (v:Value),(uR i args).lookup t=some v→i≤t∧args[t - i]? = some v
 | [],_,_,_,h=>by cases h
 | a::r,i,t,v,h=>by
  simp only [uR,List.lookup_cons] at h
  split at h
  ·rename_i heq
   cases h
   have:t=i:=by simpa using heq
   subst this
   simp
  ·rename_i heq
   have cT:t≠i:=by simpa using heq
   obtain ⟨h1,h2⟩:=Hl r (i+1) t v h
   refine ⟨by omega,?_⟩
   have:t - i=(t - (i+1))+1:=by omega
   rw [this]
   simpa using h2
theorem az.bq{f:FuncId}{fn:Func}{body:Code}{args:List Value}{n:Nat}{Post:Value→ax→aj→Prop}(hf:P.funcs[f]? = some fn)(hb:fn.body=some body)(qI:fn.ntmps=n)(hn:Nat.ble args.length n=true)
  (h:∀ fr cs,(∀ v R' H',Post v R' H'→ae.J R' H' (aV (fr.finish v) cs))→At ae ⟨f,.normal,none,n,[],fr::cs⟩ R H (uR 0 args) [.code body]):az ae f args.toArray R H Post:=by
 subst qI
 intro fr cs hk
 have hn:args.length≤fn.ntmps:=by simpa [Nat.ble_eq] using hn
 have:=h fr cs hk (args.toArray++Array.replicate (fn.ntmps - args.length) undef) ⟨by simp; omega,λ t v ht=>?_⟩
 ·have e:Frame.enter P f args.toArray .normal=aU ⟨f,.normal,none,fn.ntmps,[],fr::cs⟩ (args.toArray++Array.replicate (fn.ntmps - args.length) undef) [.code body]:=by
   simp [Frame.enter,aU,hf,hb]
  rw [e]
  exact this
 ·obtain ⟨_,h2⟩:=Hl args 0 t v ht
  have bL:t < args.length:=by
   have:=(List.getElem?_eq_some_iff.1 h2).1
   simpa using this
  rw [Array.getElem?_append_left (by simpa using bL)]
  simpa using h2
def xW(st:St):List ResultVar→Option (List Value)
 | []=>some []
 | .tmp t::r=>match st.lookup t,xW st r with
  | some v,some vs=>some (v::vs)
  | _,_=>none
 | .cell _ _::_=>none
def gX:List Value→Value
 | [v]=>v
 | vs=>.tuple vs.toArray
theorem af5{st:St}{tmps:Array Value}{n:Nat}(ht:cS n st tmps):∀ (l:List ResultVar) (vs:List Value),xW st l=some vs →
  ai P (l.mapM (m:=Sem) λ
   | .tmp t=>pure (tmps.getD t undef)
   | .cell a t=>do loadVar t (← asAddr (tmps.getD a undef))) vs
 | [],vs,h=>by cases h; exact ai.pure _
 | .tmp t::r,vs,h=>by
  simp only [xW] at h
  cases hl:st.lookup t with
  | none=>simp [hl] at h
  | some v =>
   cases hr:xW st r with
   | none=>simp [hl,hr] at h
   | some us =>
    simp only [hl,hr,Option.some.injEq] at h
    subst h
    rw [List.mapM_cons]
    refine ai.bind (a:=v) ?_ (ai.bind (af5 ht r us hr) (ai.pure _))
    have:tmps.getD t undef=v:=by simp [Array.getD_eq_getD_getElem?,ht.2 t v hl]
    show ai P (pure (tmps.getD t undef)) v
    rw [this]; exact ai.pure _
 | .cell _ _::_,_,h=>by cases h
theorem X8{fn:Func}{st:St}{tmps:Array Value}{n:Nat}{vs:List Value}(ht:cS n st tmps)(h:xW st fn.results.toList=some vs):ai P (results fn tmps) (gX vs):=by
 unfold results
 rw [← Array.toArray_toList (xs:=fn.results),List.mapM_toArray]
 refine ai.bind (ai.map (af5 ht _ _ h)) ?_
 cases vs with
 | nil=>exact ai.pure _
 | cons v r=>cases r with
  | nil=>exact ai.pure _
  | cons _ _=>exact ai.pure _
end
end Go.Lg
namespace Go.Lg
open Go.Conc
theorem ry(b o n:Nat):(⟨b,o,none⟩:Addr).add n=⟨b,o+n,none⟩:=by
 unfold Addr.add; split
 ·subst_vars; rfl
 ·rfl
def gf(P:Program)(s f off:Nat):Prop:=∀ b o:Nat,ai P (Instr.fieldAt s (.pointer (some ⟨b,o,none⟩)) f) (.pointer (some ⟨b,o+off,none⟩))
def mU(P:Program)(t e n:Nat):Prop:=P.underlying t=some (.slice e)∧ai P (sizeOf e) n
def uO(P:Program)(t len e n:Nat):Prop:=P.underlying t=some (.array len e)∧ai P (sizeOf e) n
def ahN(z:Int):Prop:=-9223372036854775808≤z∧z≤9223372036854775807
theorem agM{z:Int}(h:ahN z):IntKind.wrap .i64 z=z:=by
 obtain ⟨h1,h2⟩:=h
 simp only [IntKind.wrap,IntKind.bits,IntKind.signed]
 simp
 omega
section
variable {P:Program} {B:Base} {main:Bool} {ae:Jd P B main} {c:Ctx} {R:ax} {H:aj} {st st':St} {o:Oper} {C:ax→aj→St→Prop}
theorem Ox.val{v:Value}(lO:mI o.op=false)(hd:bT o.dst c.n)
  (hv:∀ ρ,Knows st ρ→ai P (execOp ρ o) (.value v)) (hs:aA (bZ o.dst v st) st') (h:C R H st'):aK P B c o R H st C :=
 ⟨lO,hd,λ ρ bd=>(hv ρ bd).ok ⟨v,.inl rfl,st',hs,h⟩⟩
theorem Ox.lb{s:(Operand→Value)→Sem Value}{v:Value}(lO:mI o.op=false)(hd:bT o.dst c.n)
  (he:∀ ρ,execOp ρ o=(do let x ← s ρ; pure (.value x))) (hv:∀ ρ,Knows st ρ→ai P (s ρ) v) (hs:aA (bZ o.dst v st) st') (h:C R H st'):aK P B c o R H st C :=
 Ox.val lO hd (λ ρ bd=>by rw [he]; exact ai.bind (hv ρ bd) (ai.pure _)) hs h
theorem Ox.mem{s:(Operand→Value)→Sem Value}(lO:mI o.op=false)(hd:bT o.dst c.n)
  (he:∀ ρ,execOp ρ o=(do let x ← s ρ; pure (.value x)))
  (hv:∀ ρ,Knows st ρ→aF P B R H (s ρ) λ v R' H'=>∃ st',aA (bZ o.dst v st) st'∧C R' H' st'):aK P B c o R H st C :=
 ⟨lO,hd,λ ρ bd=>by
  rw [he]
  exact aF.bind ((hv ρ bd).mono λ v R' H' ⟨st',hs,h⟩=>aF.pure ⟨v,.inl rfl,st',hs,h⟩)⟩
theorem Ox.NV{s:(Operand→Value)→Sem Unit}(lO:mI o.op=false)(hd:o.dst=none)
  (he:∀ ρ,execOp ρ o=(do s ρ; pure .skip)) (hs:aA st st')
  (hv:∀ ρ,Knows st ρ→aF P B R H (s ρ) λ _ R' H'=>C R' H' st'):aK P B c o R H st C :=
 ⟨lO,by rw [hd]; rfl,λ ρ bd=>by
  rw [he]
  exact aF.bind ((hv ρ bd).mono λ v R' H' h=>aF.pure ⟨undef,.inr ⟨rfl,rfl⟩,st',by rw [hd]; exact hs,h⟩)⟩
theorem Ox.move{x:Operand}{v:Value}(ao:o.op = .move x)(hx:bl st x=some v)(hd:bT o.dst c.n)
  (hs:aA (bZ o.dst v st) st') (h:C R H st'):aK P B c o R H st C :=
 Ox.val (by rw [ao]; rfl) hd (λ ρ bd=>by simp only [execOp,ao,bd x v hx]; exact ai.pure _) hs h
theorem Ox.assign{x:Operand}{v:Value}(ao:o.op = .assign x)(hx:bl st x=some v)(hd:bT o.dst c.n)
  (hs:aA (bZ o.dst v st) st') (h:C R H st'):aK P B c o R H st C :=
 Ox.val (by rw [ao]; rfl) hd (λ ρ bd=>by simp only [execOp,ao,bd x v hx]; exact ai.pure _) hs h
theorem Ox.aGk{x y z:Operand}{v:Value}(ao:o.op = .pick x y z)(hx:bl st x=some (.bool true))(hy:bl st y=some v)(hd:bT o.dst c.n)
  (hs:aA (bZ o.dst v st) st') (h:C R H st'):aK P B c o R H st C :=
 Ox.val (by rw [ao]; rfl) hd (λ ρ bd=>by
  simp only [execOp,ao,bd x _ hx,bd y v hy,asBool]
  exact ai.bind (ai.pure true) (ai.pure _)) hs h
theorem Ox.aGj{x y z:Operand}{v:Value}(ao:o.op = .pick x y z)(hx:bl st x=some (.bool false))(hz:bl st z=some v)(hd:bT o.dst c.n)
  (hs:aA (bZ o.dst v st) st') (h:C R H st'):aK P B c o R H st C :=
 Ox.val (by rw [ao]; rfl) hd (λ ρ bd=>by
  simp only [execOp,ao,bd x _ hx,bd z v hz,asBool]
  exact ai.bind (ai.pure false) (ai.pure _)) hs h
theorem Ox.fieldAddr{x:Operand}{s f off b n:Nat}(ao:o.op = .fieldAddr s x f)(hx:bl st x=some (.pointer (some ⟨b,n,none⟩)))(hf:gf P s f off)(hd:bT o.dst c.n)
  (hs:aA (bZ o.dst (.pointer (some ⟨b,n+off,none⟩)) st) st') (h:C R H st'):aK P B c o R H st C :=
 Ox.lb (s:=λ ρ=>Instr.fieldAt s (ρ x) f) (by rw [ao]; rfl) hd (λ ρ=>by simp only [execOp,ao]) (λ ρ bd=>by rw [bd x _ hx]; exact hf b n) hs h
theorem X7{t e n b m len cap:Nat}{kd:IntKind}{j:Nat}(ht:mU P t e n)(hj:j < len) :
  ai P (Instr.indexAt t (.slice (some ⟨b,m,none⟩) len cap) (.int kd (j:Int))) (.pointer (some ⟨b,m+j * n,none⟩)):=by
 unfold Instr.indexAt
 refine ai.bind (a:=(kd,(j:Int))) (ai.pure _) (ai.bind (ai.underlying ht.1) (ai.bind (a:=(some (⟨b,m,none⟩:Addr),len,e)) (ai.pure _) (ai.bind (ai.underlying ht.1) ?_)))
 have h1:(0:Int)≤(j:Int)∧(j:Int) < (len:Int):=by omega
 simp only [h1,and_self,if_true,Int.toNat_natCast]
 refine ai.bind ht.2 ?_
 rw [ry]
 exact ai.pure _
theorem aIc{t e n b m len:Nat}{kd:IntKind}{j:Nat}(ht:uO P t len e n)(hj:j < len) :
  ai P (Instr.indexAt t (.pointer (some ⟨b,m,none⟩)) (.int kd (j:Int))) (.pointer (some ⟨b,m+j * n,none⟩)):=by
 unfold Instr.indexAt
 refine ai.bind (a:=(kd,(j:Int))) (ai.pure _) (ai.bind (ai.underlying ht.1) (ai.bind (a:=(⟨b,m,none⟩:Addr)) (ai.pure _) (ai.bind (a:=(some (⟨b,m,none⟩:Addr),len,e)) (ai.pure _) (ai.bind (ai.underlying ht.1) ?_))))
 have h1:(0:Int)≤(j:Int)∧(j:Int) < (len:Int):=by omega
 simp only [h1,and_self,if_true,Int.toNat_natCast]
 refine ai.bind ht.2 ?_
 rw [ry]
 exact ai.pure _
theorem Ay(op:BinOp)(t:TypeId)(x y:Operand)(ka kb:IntKind)(a b:Int):ai P (eqGuard op t x y (.int ka a) (.int kb b)) ():=by
 unfold eqGuard
 cases op <;> exact ai.pure _
def Rj:BinOp→Int→Int→Option Bool
 | .eql,x,y=>some (x == y)
 | .neq,x,y=>some (x != y)
 | .lss,x,y=>some (decide (x < y))
 | .leq,x,y=>some (decide (x≤y))
 | .gtr,x,y=>some (decide (x > y))
 | .geq,x,y=>some (decide (x ≥ y))
 | _,_,_=>none
theorem Ox.cmp{x y:Operand}{bo:BinOp}{t u:TypeId}{a b:Int}{kd:IntKind}{r:Bool}(ao:o.op = .binOp bo t x y u)(hx:bl st x=some (.int kd a))(hy:bl st y=some (.int kd b))(hr:Rj bo a b=some r)
  (hd:bT o.dst c.n) (hs:aA (bZ o.dst (.bool r) st) st') (h:C R H st'):aK P B c o R H st C :=
 Ox.lb (s:=λ ρ=>do eqGuard bo t x y (ρ x) (ρ y); binOp bo t (ρ x) (ρ y)) (by rw [ao]; rfl) hd (λ ρ=>by simp only [execOp,ao]) (λ ρ bd=>by
  rw [bd x _ hx,bd y _ hy]
  refine ai.bind (Ay _ _ _ _ _ _ _ _) ?_
  cases bo <;> simp only [Rj,Option.some.injEq,reduceCtorEq] at hr <;> subst hr <;> simp only [binOp,ne_eq,not_true_eq_false,if_false] <;> exact ai.pure _) hs h
def QF:BinOp→Int→Int→Option Int
 | .add,x,y=>some (x+y)
 | .sub,x,y=>some (x - y)
 | .mul,x,y=>some (x * y)
 | _,_,_=>none
theorem Ox.not{x:Operand}{t:TypeId}{a:Bool}(ao:o.op = .unOp .not t x)(hx:bl st x=some (.bool a))
  (hd:bT o.dst c.n) (hs:aA (bZ o.dst (.bool (!a)) st) st') (h:C R H st'):aK P B c o R H st C :=
 Ox.lb (s:=λ ρ=>Op.unary .not (ρ x)) (by rw [ao]; rfl) hd (λ ρ=>by simp only [execOp,ao]) (λ ρ bd=>by rw [bd x _ hx]; exact ai.pure _) hs h
theorem Ox.extract{x:Operand}{j:Nat}{vs:Array Value}{v:Value}(ao:o.op = .extract x j)(hx:bl st x=some (.tuple vs))(hj:vs[j]? = some v)
  (hd:bT o.dst c.n) (hs:aA (bZ o.dst v st) st') (h:C R H st'):aK P B c o R H st C :=
 Ox.lb (s:=λ ρ=>Instr.extract (ρ x) j) (by rw [ao]; rfl) hd (λ ρ=>by simp only [execOp,ao]) (λ ρ bd=>by
  rw [bd x _ hx]
  simp only [Instr.extract,hj]; exact ai.pure _) hs h
theorem Ox.makeFunc{fn:Fn}{first captured:Array Operand}{vs us:Array Value}(ao:o.op = .makeFunc fn first captured)(h1:first.toList.mapM (bl st)=some vs.toList)(h2:captured.toList.mapM (bl st)=some us.toList)
  (hd:bT o.dst c.n) (hs:aA (bZ o.dst (.func fn vs us) st) st') (h:C R H st'):aK P B c o R H st C :=
 Ox.lb (s:=λ ρ=>Instr.makeFunc fn (first.map ρ) (captured.map ρ)) (by rw [ao]; rfl) hd (λ ρ=>by simp only [execOp,ao]) (λ ρ bd=>by
  have key:∀ (l:List Operand) (r:List Value),l.mapM (bl st)=some r→l.map ρ=r:=by
   intro l
   induction l with
   | nil=>intro r hr; simpa using hr
   | cons a l ih =>
    intro r hr
    rw [List.mapM_cons] at hr
    cases ha:bl st a with
    | none=>simp [ha] at hr
    | some u =>
     cases hl:l.mapM (bl st) with
     | none=>simp [ha,hl] at hr
     | some us =>
      simp [ha,hl] at hr
      subst hr
      simp [bd a u ha,ih us hl]
  have e1:first.map ρ=vs:=by apply Array.ext'; simpa using key _ _ h1
  have e2:captured.map ρ=us:=by apply Array.ext'; simpa using key _ _ h2
  rw [e1,e2]
  exact ai.pure _) hs h
theorem Ox.len{x:Operand}{t e:TypeId}{a:Option Addr}{n cap:Nat}(ao:o.op = .call ⟨.builtin .len,#[x],#[t]⟩)(hx:bl st x=some (.slice a n cap))(ht:P.underlying t=some (.slice e))
  (hd:bT o.dst c.n) (hs:aA (bZ o.dst (.int .i64 (n:Int)) st) st') (h:C R H st'):aK P B c o R H st C :=
 Ox.val (by rw [ao]; rfl) hd (λ ρ bd=>by
  simp only [execOp,ao]
  refine ai.bind (a:=⟨.builtin .len #[t] o.type (#[x].map λ | .const _=>true | _=>false),#[x].map ρ⟩) (ai.pure _) ?_
  simp only [invoke,builtin]
  refine ai.bind (a:=.int .i64 (n:Int)) ?_ (ai.pure _)
  have e:(#[x].map ρ)=#[.slice a n cap]:=by simp [bd x _ hx]
  rw [e]
  exact ai.bind (ai.underlying ht) (ai.pure _)) hs h
theorem Ox.ND{x:Operand}{t:TypeId}{s:ByteArray}(ao:o.op = .call ⟨.builtin .len,#[x],#[t]⟩)(hx:bl st x=some (.string s))(ht:P.underlying t=some .string)
  (hd:bT o.dst c.n) (hs:aA (bZ o.dst (.int .i64 (s.size:Int)) st) st') (h:C R H st'):aK P B c o R H st C :=
 Ox.val (by rw [ao]; rfl) hd (λ ρ bd=>by
  simp only [execOp,ao]
  refine ai.bind (a:=⟨.builtin .len #[t] o.type (#[x].map λ | .const _=>true | _=>false),#[x].map ρ⟩) (ai.pure _) ?_
  simp only [invoke,builtin]
  refine ai.bind (a:=.int .i64 (s.size:Int)) ?_ (ai.pure _)
  have e:(#[x].map ρ)=#[.string s]:=by simp [bd x _ hx]
  rw [e]
  exact ai.bind (ai.underlying ht) (ai.pure _)) hs h
theorem Dg{f:FuncId}{fn:Func}{args:Array Value}(hf:P.funcs[f]? = some fn)(hn:(fn.name == "runtime.NumGoroutine")=false)(hb:fn.body.isNone=false):ai P (callFunc f args) (.enter f args):=by
 unfold callFunc
 refine ai.bind ai.program ?_
 simp only [hf,hn,hb]
 exact ai.pure _
structure bp (P:Program) (f:FuncId):Prop where
 ex:∃ fn,P.funcs[f]? = some fn∧(fn.name == "runtime.NumGoroutine")=false∧fn.body.isNone=false
def iG(st:St):List Operand→Option (List Value)
 | []=>some []
 | x::r=>match bl st x,iG st r with
  | some v,some vs=>some (v::vs)
  | _,_=>none
theorem A9{st:St}{ρ:Operand→Value}(bd:Knows st ρ):∀ (l:List Operand) (r:List Value),iG st l=some r→l.map ρ=r
 | [],r,h=>by cases h; rfl
 | x::l,r,h=>by
  simp only [iG] at h
  cases hx:bl st x with
  | none=>simp [hx] at h
  | some v =>
   cases hl:iG st l with
   | none=>simp [hx,hl] at h
   | some vs =>
    simp [hx,hl] at h
    subst h
    simp [bd x v hx,A9 bd l vs hl]
theorem Ox.dE{ca:Call}{x:Operand}{f:FuncId}{first captured:Array Value}{vs:List Value}{args:Array Value}
  (ao:o.op = .call ca) (hc:ca.callee = .value x) (hx:bl st x=some (.func (.func f) first captured)) (ha:iG st ca.args.toList=some vs) (he:bp P f) (H8:first++vs.toArray++captured=args)
  (hd:bT o.dst c.n) (hf:az ae f args R H λ v R' H'=>∃ st',aA (bZ o.dst v st) st'∧C R' H' st'):oO ae c o R H st C :=
 ⟨by rw [ao]; rfl,hd,.inr ⟨f,args,λ ρ bd=>by
  obtain ⟨fn,h1,h2,h3⟩:=he.ex
  simp only [execOp,ao,resolve,hc,bd x _ hx,Deferred.ofValue]
  have e:ca.args.map ρ=vs.toArray:=by apply Array.ext'; simpa using A9 bd _ _ ha
  refine ai.bind (a:=⟨.fn (.func f) captured,first++vs.toArray⟩) (by rw [e]; exact ai.pure _) ?_
  simp only [invoke,H8]
  exact Dg h1 h2 h3,hf⟩⟩
end
end Go.Lg
namespace Go.Lg
open Go.Conc
def iF(P:Program)(t:TypeId)(cs:Array Value):Prop:=∃ z,ai P (zeroValue t) z∧z.cells=cs
def gG(P:Program)(t:TypeId):Prop:=ai P (isAgg t) false∧ai P (sizeOf t) 1
def mR(P:Program)(t:TypeId)(n:Nat):Prop:=ai P (isAgg t) true∧ai P (sizeOf t) n
def aH(R:ax)(H:aj)(b o:Nat)(vs:List Value):Prop:=∀ j v,vs[j]? = some v→Cell R H ⟨b,o+j,none⟩ v
theorem aH.known{R:ax}{H:aj}{b o n:Nat}{cs:Array Value}{e:TypeId}{fz:Nat × Nat}{vs:List Value}(hm:R b=some (Obj.cells cs e fz))(hv:(cs.toList.drop o).take n=vs):aH R H b o vs:=by
 intro j v hj
 refine ⟨rfl,cs,e,fz,.inl hm,?_⟩
 subst hv
 rw [List.getElem?_take] at hj
 split at hj
 ·rw [List.getElem?_drop] at hj
  simpa using hj
 ·cases hj
def fN(cs:Array Value):Nat→List Value→Array Value
 | _,[]=>cs
 | o,v::r=>fN (cs.setIfInBounds o v) (o+1) r
theorem Kj:∀ (vs:List Value) (cs:Array Value) (o:Nat),(fN cs o vs).size=cs.size
 | [],_,_=>rfl
 | v::r,cs,o=>by simp only [fN]; rw [Kj r]; simp
theorem fj.mid{H H1 H':aj}{b:Nat}{o o' o'':Obj}(h:fj H b o o' H1)(k:fj H b o o'' H')(hn:(H.map (·.1)).Nodup):fj H1 b o' o'' H':=by
 induction h generalizing H' with
 | @here b o o' H =>
  cases k with
  | here=>exact .here
  | there k =>
   rw [List.map_cons,List.nodup_cons] at hn
   exact absurd (List.mem_map.2 ⟨_,k.mem,rfl⟩) hn.1
 | @there b o o' p H H1 hs ih =>
  cases k with
  | here =>
   rw [List.map_cons,List.nodup_cons] at hn
   exact absurd (List.mem_map.2 ⟨_,hs.mem,rfl⟩) hn.1
  | there k =>
   rw [List.map_cons,List.nodup_cons] at hn
   exact .there (ih k hn.2)
section
variable {P:Program} {B:Base} {main:Bool} {ae:Jd P B main} {c:Ctx} {R:ax} {H H':aj} {st st':St} {o:Oper} {C:ax→aj→St→Prop}
theorem aF.OF{b:Nat}{e:TypeId}{K:Unit→ax→aj→Prop}:∀ (vs:List Value) (cs:Array Value) (off i:Nat) (H H':aj),(∀ v∈vs,v.oneCell'=true)→off+i+vs.length≤cs.size →
  fj H b (.cells cs e (0,0)) (.cells (fN cs (off+i) vs) e (0,0)) H'→(H.map (·.1)).Nodup→K () R H'→aF P B R H (storeCells ⟨b,off,none⟩ vs i) K
 | [],cs,off,i,H,H',_,_,hs,hn,hk=>by
  have e1:H'=H:=by
   have:∀ {H H':aj} {o:Obj},fj H b o o H'→H'=H:=by
    intro H H' o h
    induction H generalizing H' with
    | nil=>cases h
    | cons p r ih =>
     cases h with
     | here=>rfl
     | there h=>rw [ih h]
   exact this hs
  subst e1
  simp only [storeCells]
  exact aF.pure hk
 | v::r,cs,off,i,H,H',h1,hl,hs,hn,hk=>by
  simp only [storeCells]
  simp only [List.length_cons] at hl
  have hex:∀ (H:aj) (o o':Obj),(b,o)∈H→∃ H1,fj H b o o' H1:=by
   intro H o o' hm
   induction H with
   | nil=>cases hm
   | cons p r ih =>
    rcases List.mem_cons.1 hm with rfl | hm
    ·exact ⟨_,.here⟩
    ·obtain ⟨H1,h1⟩:=ih hm
     exact ⟨_,.there h1⟩
  obtain ⟨H1,o8⟩:=hex H _ (.cells (cs.setIfInBounds (off+i) v) e (0,0)) hs.mem
  have TS:fj H1 b (.cells (cs.setIfInBounds (off+i) v) e (0,0)) (.cells (fN cs (off+i) (v::r)) e (0,0)) H':=fj.mid o8 hs hn
  refine aF.bind ?_
  rw [ry]
  refine aF.store (h1 v (by simp)) rfl (by show off+i < cs.size; omega) o8 ?_
  exact aF.OF r (cs.setIfInBounds (off+i) v) off (i+1) H1 H' (λ u hu=>h1 u (by simp [hu])) (by simp; omega) (by simpa [fN,Nat.add_assoc] using TS) (by rw [o8.keys]; exact hn) hk
theorem aF.given{α:Type}{s:Sem α}{K:α→ax→aj→Prop}(h:(H.map (·.1)).Nodup→aF P B R H s K):aF P B R H s K:=λ w hw=>h hw.nd w hw
theorem aF.storeVar{t:TypeId}{b off n:Nat}{e:TypeId}{v:Value}{cs:Array Value}{K:Unit→ax→aj→Prop}(hn:ai P (sizeOf t) n)(hvn:v.cells.size=n)(h1:∀ u∈v.cells.toList,u.oneCell'=true)(hl:off+n≤cs.size)
  (hs:fj H b (.cells cs e (0,0)) (.cells (fN cs off v.cells.toList) e (0,0)) H') (hk:K () R H'):aF P B R H (storeVar t ⟨b,off,none⟩ v) K:=by
 refine aF.given λ dR=>?_
 unfold Go.storeVar
 refine ai.eT hn ?_
 simp only [hvn,ne_eq,not_true_eq_false,if_false]
 exact aF.OF _ cs off 0 H H' h1 (by simp [hvn]; exact hl) (by simpa using hs) dR hk
theorem aF.loadCellsFrom{b off:Nat}{K:Array Value→ax→aj→Prop}:∀ (vs:List Value) (i:Nat) (acc:Array Value),aH R H b (off+i) vs→K (acc++vs.toArray) R H→aF P B R H (loadCellsFrom ⟨b,off,none⟩ i vs.length acc) K
 | [],i,acc,_,hk=>by
  simp only [List.length_nil,Go.loadCellsFrom]
  exact aF.pure (by simpa using hk)
 | v::r,i,acc,hc,hk=>by
  simp only [List.length_cons,Go.loadCellsFrom]
  refine aF.bind ?_
  rw [ry]
  refine aF.load (v:=v) (by simpa using hc 0 v rfl) ?_
  refine aF.loadCellsFrom r (i+1) (acc.push v) (λ j u hj=>?_) (by simpa using hk)
  have:=hc (j+1) u (by simpa using hj)
  simpa [Nat.add_assoc,Nat.add_comm,Nat.add_left_comm] using this
theorem Ox.bI{x:Operand}{t:TypeId}{b off:Nat}{v:Value}(ao:o.op = .load t x)(hx:bl st x=some (.pointer (some ⟨b,off,none⟩)))(ht:gG P t)(hc:Cell R H ⟨b,off,none⟩ v)
  (hd:bT o.dst c.n) (hs:aA (bZ o.dst v st) st') (h:C R H st'):aK P B c o R H st C :=
 Ox.mem (s:=λ ρ=>Instr.loadAt t (ρ x)) (by rw [ao]; rfl) hd (λ ρ=>by simp only [execOp,ao]) (λ ρ bd=>by
  rw [bd x _ hx]
  simp only [Instr.loadAt,Instr.sureAddr,loadVar]
  refine ai.eT (ai.pure _) (ai.eT ht.1 ?_)
  exact aF.load hc ⟨st',hs,h⟩)
theorem Ox.cy{x:Operand}{t:TypeId}{b off n:Nat}{vs:List Value}(ao:o.op = .load t x)(hx:bl st x=some (.pointer (some ⟨b,off,none⟩)))(ht:mR P t n)(hn:vs.length=n)(hc:aH R H b off vs)
  (hd:bT o.dst c.n) (hs:aA (bZ o.dst (.agg vs.toArray) st) st') (h:C R H st'):aK P B c o R H st C :=
 Ox.mem (s:=λ ρ=>Instr.loadAt t (ρ x)) (by rw [ao]; rfl) hd (λ ρ=>by simp only [execOp,ao]) (λ ρ bd=>by
  rw [bd x _ hx]
  simp only [Instr.loadAt,Instr.sureAddr,loadVar]
  refine ai.eT (ai.pure _) (ai.eT ht.1 ?_)
  simp only [if_true]
  refine ai.eT ht.2 (aF.bind ?_)
  subst hn
  exact aF.loadCellsFrom vs 0 #[] (by simpa using hc) (aF.pure ⟨st',by simpa using hs,h⟩))
theorem Ox.gM{x y:Operand}{t e:TypeId}{b off:Nat}{v:Value}{cs cs':Array Value}(ao:o.op = .store t x y)(hx:bl st x=some (.pointer (some ⟨b,off,none⟩)))(hy:bl st y=some v)(ht:gG P t)(hv:v.oneCell'=true)(hs:fj H b (.cells cs e (0,0)) (.cells cs' e (0,0)) H')(hl:Nat.blt off cs.size=true)(pX:cs.setIfInBounds off v=cs')
  (hd:o.dst=none) (IE:aA st st') (h:C R H' st'):aK P B c o R H st C :=
 Ox.NV (s:=λ ρ=>Instr.storeAt t (ρ x) (ρ y)) (by rw [ao]; rfl) hd (λ ρ=>by simp only [execOp,ao]) IE (λ ρ bd=>by
  rw [bd x _ hx,bd y _ hy]
  simp only [Instr.storeAt,Instr.sureAddr]
  refine ai.eT (ai.pure _) ?_
  have Vr:v.cells=#[v]:=by cases v <;> first | rfl | (simp [Value.oneCell'] at hv)
  refine aF.storeVar (cs:=cs) (e:=e) ht.2 (by rw [Vr]; rfl) (by rw [Vr]; simpa using hv) (Nat.le_of_ble_eq_true hl) ?_ h
  rw [Vr]
  simpa [fN,pX] using hs)
theorem Ox.cE{x y:Operand}{t e:TypeId}{b off n:Nat}{vs:Array Value}{cs cs':Array Value}(ao:o.op = .store t x y)(hx:bl st x=some (.pointer (some ⟨b,off,none⟩)))(hy:bl st y=some (.agg vs))(ht:mR P t n)(hn:vs.size=n)(h1:∀ u∈vs.toList,u.oneCell'=true)(hs:fj H b (.cells cs e (0,0)) (.cells cs' e (0,0)) H')(hl:Nat.ble (off+n) cs.size=true)(pX:fN cs off vs.toList=cs')
  (hd:o.dst=none) (IE:aA st st') (h:C R H' st'):aK P B c o R H st C :=
 Ox.NV (s:=λ ρ=>Instr.storeAt t (ρ x) (ρ y)) (by rw [ao]; rfl) hd (λ ρ=>by simp only [execOp,ao]) IE (λ ρ bd=>by
  rw [bd x _ hx,bd y _ hy]
  simp only [Instr.storeAt,Instr.sureAddr]
  refine ai.eT (ai.pure _) ?_
  exact aF.storeVar (cs:=cs) (e:=e) ht.2 hn h1 (Nat.le_of_ble_eq_true hl) (by simpa [Value.cells,pX] using hs) h)
theorem Ox.s8{x:Operand}{t:TypeId}{v:Value}(ao:o.op = .box t x)(hx:bl st x=some v)(hv:v.cells=#[v])(hd:bT o.dst c.n)
  (h:∀ b,R b=none→(∀ x,(b,x) ∉ H)→∃ st',aA (bZ o.dst (.pointer (some ⟨b,0,none⟩)) st) st'∧C R ((b,.cells #[v] t)::H) st'):aK P B c o R H st C :=
 Ox.mem (s:=λ ρ=>Instr.box t (ρ x)) (by rw [ao]; rfl) hd (λ ρ=>by simp only [execOp,ao]) (λ ρ bd=>by
  rw [bd x _ hx]
  simp only [Instr.box,newVar,newRow,hv]
  exact aF.bind (aF.bind (aF.new λ b h1 h2=>aF.pure (aF.pure (h b h1 h2)))))
theorem Ox.aam{x:Operand}{t:TypeId}{vs:Array Value}(ao:o.op = .box t x)(hx:bl st x=some (.agg vs))(hd:bT o.dst c.n)
  (h:∀ b,R b=none→(∀ x,(b,x) ∉ H)→∃ st',aA (bZ o.dst (.pointer (some ⟨b,0,none⟩)) st) st'∧C R ((b,.cells vs t)::H) st'):aK P B c o R H st C :=
 Ox.mem (s:=λ ρ=>Instr.box t (ρ x)) (by rw [ao]; rfl) hd (λ ρ=>by simp only [execOp,ao]) (λ ρ bd=>by
  rw [bd x _ hx]
  simp only [Instr.box,newVar,newRow,Value.cells]
  exact aF.bind (aF.bind (aF.new λ b h1 h2=>aF.pure (aF.pure (h b h1 h2)))))
theorem Ox.alloc{t:TypeId}{cs:Array Value}(ao:o.op = .alloc t)(ht:iF P t cs)(hd:bT o.dst c.n)
  (h:∀ b,R b=none→(∀ x,(b,x) ∉ H)→∃ st',aA (bZ o.dst (.pointer (some ⟨b,0,none⟩)) st) st'∧C R ((b,.cells cs t)::H) st'):aK P B c o R H st C :=
 Ox.mem (s:=λ _=>Instr.alloc t true (.tuple #[])) (by rw [ao]; rfl) hd (λ ρ=>by simp only [execOp,ao]) (λ ρ bd=>by
  obtain ⟨z,hz,rfl⟩:=ht
  simp only [Instr.alloc,newVar,newRow]
  exact ai.eT hz (aF.bind (aF.bind (aF.new λ b h1 h2=>aF.pure (aF.pure (h b h1 h2))))))
def Ae(st:St):List (Nat × Operand)→Option (List (Nat × Value))
 | []=>some []
 | (j,x)::r=>match bl st x,Ae st r with
  | some v,some vs=>some ((j,v)::vs)
  | _,_=>none
theorem Xv{ρ:Operand→Value}(bd:Knows st ρ):∀ (l:List (Nat × Operand)) (r:List (Nat × Value)),Ae st l=some r→l.map (λ (j,x)=>(j,ρ x))=r
 | [],r,h=>by cases h; rfl
 | (j,x)::l,r,h=>by
  simp only [Ae] at h
  cases hx:bl st x with
  | none=>simp [hx] at h
  | some v =>
   cases hl:Ae st l with
   | none=>simp [hx,hl] at h
   | some vs =>
    simp [hx,hl] at h
    subst h
    simp [bd x v hx,Xv bd l vs hl]
def uQ(P:Program)(t:TypeId)(places:List (Nat × Nat))(z:Array Value):Prop :=
 iF P t z∧∃ fs:Array Field,P.underlying t=some (.struct fs)∧ai P (fs.mapM λ f=>do pure (f.offset,← sizeOf f.type)) places.toArray
theorem Ox.build{t:TypeId}{parts:Array (Nat × Operand)}{ps:List (Nat × Value)}{places:List (Nat × Nat)}{z cells:Array Value}(ao:o.op = .build t parts)(ht:uQ P t places z)(hp:Ae st parts.toList=some ps)(hf:Instr.fill (places.toArray[·]?) z ps=some cells)
  (hd:bT o.dst c.n) (hs:aA (bZ o.dst (.agg cells) st) st') (h:C R H st'):aK P B c o R H st C :=
 Ox.lb (s:=λ ρ=>Instr.build t (parts.map λ (j,x)=>(j,ρ x))) (by rw [ao]; rfl) hd (λ ρ=>by simp only [execOp,ao]) (λ ρ bd=>by
  obtain ⟨⟨z0,hz,rfl⟩,fs,h1,h2⟩:=ht
  have e:(parts.map λ (j,x)=>(j,ρ x))=ps.toArray:=by apply Array.ext'; simpa using Xv bd _ _ hp
  rw [e]
  unfold Instr.build
  refine ai.bind hz (ai.bind (ai.underlying h1) (ai.bind h2 ?_))
  simp only [hf]
  exact ai.pure _) hs h
def sS(P:Program)(t e n:Nat)(z:Array Value):Prop:=P.underlying t=some (.slice e)∧ai P (sizeOf e) n∧iF P e z∧z.size=n∧0 < n
theorem Ox.buildSlice{t e n len:Nat}{parts:Array (Nat × Operand)}{ps:List (Nat × Value)}{z base cells:Array Value}(ao:o.op = .buildSlice t len parts)(ht:sS P t e n z)(hp:Ae st parts.toList=some ps)(hlen:len * n≤16777216)
  (hb:(Array.range (len * n)).map (z[· % z.size]!)=base) (hf:Instr.fill (λ j=>some (j * n,n)) base ps=some cells) (hd:bT o.dst c.n)
  (h:∀ b,R b=none→(∀ x,(b,x) ∉ H)→∃ st',aA (bZ o.dst (.slice (some ⟨b,0,none⟩) len len) st) st'∧C R ((b,.cells cells e)::H) st'):aK P B c o R H st C :=
 Ox.mem (s:=λ ρ=>Instr.buildSlice t len (parts.map λ (j,x)=>(j,ρ x))) (by rw [ao]; rfl) hd (λ ρ=>by simp only [execOp,ao]) (λ ρ bd=>by
  subst hb
  obtain ⟨h1,h2,⟨z0,hz,rfl⟩,h3,h4⟩:=ht
  have ep:(parts.map λ (j,x)=>(j,ρ x))=ps.toArray:=by apply Array.ext'; simpa using Xv bd _ _ hp
  rw [ep]
  unfold Instr.buildSlice
  refine ai.eT (ai.underlying h1) (ai.eT h2 ?_)
  have hl:¬ (len * n > 2 ^ 24):=by omega
  simp only [hl,if_false]
  have last:aF P B R H (do let a ← newRow e cells; pure (.slice (some a) len len)) λ v R' H'=>∃ st',aA (bZ o.dst v st) st'∧C R' H' st':=by
   simp only [newRow]
   exact aF.bind (aF.bind (aF.new λ b h1 h2=>aF.pure (aF.pure (h b h1 h2))))
  by_cases h0:len * n=0
  ·simp only [h0,if_true]
   refine ai.eT (ai.pure _) ?_
   have hr:∀ f:Nat→Value,(Array.range 0).map f=#[]:=λ f=>by simp [Array.range]
   simp only [h0,hr] at hf ⊢
   simp only [hf]
   exact last
  ·simp only [h0,if_false]
   refine ai.eT hz (ai.eT (ai.pure _) ?_)
   simp only [hf]
   exact last)
end
end Go.Lg
namespace Go.Lg
open Go.Conc
def aQ(R R':ax):Prop:=∀ b o,R b=some o→R' b=some o
theorem aQ.refl(R:ax):aQ R R:=λ _ _ h=>h
theorem aQ.trans{R R' cI:ax}(h:aQ R R')(k:aQ R' cI):aQ R cI:=λ b o x=>k b o (h b o x)
section
variable {P:Program} {B:Base} {main:Bool} (ae:Jd P B main)
def AY(c:Ctx)(S:aj)(ops:Array Oper)(i:Nat)(tmps:Array Value)(R:ax)(H:aj)(K:Array Value→ax→aj→Prop):Prop :=
 ∃ o,ops[i]? = some o∧mI o.op=false ∧
  ((Region.wanted o (yielded ops tmps)=false∧K (fB o.dst undef tmps) R H) ∨
   (Region.wanted o (yielded ops tmps)=true ∧
   ((aF P B R H (execOp (aU c tmps []).eval o) λ nx R' H'=>∃ v,(nx = .value v∨(nx = .skip∧v=undef))∧aQ R R'∧(∀ p∈S,p∈H→p∈H')∧K (fB o.dst v tmps) R' H') ∨
    (∃ f args,ai P (execOp (aU c tmps []).eval o) (.enter f args)∧az ae f args R H λ v R' H'=>aQ R R'∧(∀ p∈S,p∈H→p∈H')∧K (fB o.dst v tmps) R' H'))))
theorem J.given{R:ax}{H:aj}{g:Goroutine}(hs:g.status = .running)(h:(∃ w,Fits B R H w)→ae.J R H g):ae.J R H g:=by
 by_cases hw:∃ w,Fits B R H w
 ·exact h hw
 ·exact ae.step hs λ w hf=>absurd ⟨w,hf⟩ hw
def nE(ops:Array Oper)(rem:List Nat)(i:Nat):Bool:=match ops[i]? with
 | some o=>o.after.all λ e=>!Region.binds .any e || !rem.contains e.on
 | none=>false
def D8(c:Ctx)(S:Nat→aj)(ops:Array Oper)(Q:Array Value→ax→aj→Prop):Nat→List Nat→Array Value→ax→aj→Prop
 | 0,rem,t,R,H=>rem=[]∧Q t R H
 | n+1,rem,t,R,H=>(rem=[]∧Q t R H)∨(rem≠[]∧((∃ w,Fits B R H w)→∀ i∈rem,nE ops rem i=true→AY ae c (S i) ops i t R H λ t' R' H'=>D8 c S ops Q n (rem.erase i) t' R' H'))
variable {ae}
def backward(ops:Array Oper):Bool:=(List.range ops.size).all λ i=>match ops[i]? with
 | some o=>o.after.all λ e=>!Region.binds .any e || decide (e.on < i)
 | none=>true
theorem abK(c:Ctx)(tmps:Array Value)(todo:List Item):(aU c tmps todo).eval=(aU c tmps []).eval:=by
 funext x; cases x <;> rfl
theorem aiF{c:Ctx}{S:aj}{ops:Array Oper}{i:Nat}{rest:List Nat}{k:List Item}{tmps:Array Value}{R:ax}{H:aj}{K:Array Value→ax→aj→Prop}(hk:(c.kind == CallKind.early)=false)(h:AY ae c S ops i tmps R H K)
  (hK:∀ t R' H',K t R' H'→ae.J R' H' (aV (aU c t (.inRegion ops rest::k)) c.cs)):ae.J R H (aV (aU c tmps (.inRegion ops (i::rest)::k)) c.cs):=by
 obtain ⟨o,ho,hd,h⟩:=h
 have fL:(aU c tmps (.inRegion ops (i::rest)::k)).kind ≠ .early:=by show c.kind≠_; simpa using hk
 rcases h with ⟨h1,h2⟩ | ⟨h1,h2 | ⟨f,args,h2,h3⟩⟩
 ·exact Jd.ctl rfl (λ w=>XQ ho h1) (hK _ _ _ h2)
 ·refine ae.step rfl λ w pZ=>?_
  obtain ⟨nx,w',R',H',e1,e2,e3,v,hv,_,_,hKK⟩:=h2 w pZ
  refine ⟨aV (aU c (fB o.dst v tmps) (.inRegion ops rest::k)) c.cs,w',seen P c.fn ((execOp (aU c tmps []).eval o).events P w #[]),R',H',?_,λ e he=>e2 e (mem_seen he),e3,hK _ _ _ hKK⟩
  rw [px ho h1 hd,← pR (rest:=rest) (k:=k) (c:=c) (tmps:=tmps) (v:=v) ho,abK]
  rcases hv with rfl | ⟨rfl,rfl⟩
  ·exact A8 fL e1
  ·exact QE fL e1
 ·refine ae.step rfl λ w pZ=>?_
  have hv:=h2 w
  refine ⟨aV (Frame.enter P f args .normal) (aU c tmps (.inRegion ops (i::rest)::k)::c.cs),w,seen P c.fn ((execOp (aU c tmps []).eval o).events P w #[]),R,H,?_,?_,fK.refl pZ,h3 _ _ λ v R' H' hp=>?_⟩
  ·rw [px ho h1 hd,abK]
   exact Hk rfl fL hv.1
  ·intro e Ig
   have:=mem_seen Ig
   rw [hv.2] at this
   simp at this
  ·rw [pR ho]
   exact hK _ _ _ hp.2.2
def GU(ops:Array Oper)(listed:Array Bool)(rem:List Nat):Prop:=listed.size=ops.size∧rem.Nodup∧(∀ i,i∈rem↔(i < ops.size∧listed.getD i true=false))
theorem an1{listed:Array Bool}{i j:Nat}{d:Bool}(hi:i < listed.size):(listed.setIfInBounds i true).getD j d=if i=j then true else listed.getD j d:=by
 simp only [Array.getD_eq_getD_getElem?]
 by_cases h:i=j
 ·subst h; simp [hi]
 ·rw [if_neg h,Array.getElem?_setIfInBounds_ne h]
theorem GU.erase{ops:Array Oper}{listed:Array Bool}{rem:List Nat}(h:GU ops listed rem){i:Nat}(hi:i∈rem):GU ops (listed.setIfInBounds i true) (rem.erase i):=by
 obtain ⟨h1,h2,h3⟩:=h
 have bL:i < listed.size:=by rw [h1]; exact ((h3 i).1 hi).1
 refine ⟨by simp [h1],h2.erase _,λ j=>?_⟩
 rw [h2.mem_erase_iff,h3 j,an1 bL]
 by_cases e:i=j
 ·subst e; simp
 ·simp [e,Ne.symm e]
theorem adV:∀ (l:List Nat),l≠[]→∃ m∈l,∀ x∈l,m≤x
 | [],h=>absurd rfl h
 | [a],_=>⟨a,by simp,by simp⟩
 | a::b::r,_=>by
  obtain ⟨m,hm,hl⟩:=adV (b::r) (by simp)
  by_cases h:a≤m
  ·exact ⟨a,by simp,λ x hx=>by
    rcases List.mem_cons.1 hx with rfl | hx
    ·exact Nat.le_refl _
    ·exact Nat.le_trans h (hl x hx)⟩
  ·exact ⟨m,List.mem_cons_of_mem _ hm,λ x hx=>by
    rcases List.mem_cons.1 hx with rfl | hx
    ·omega
    ·exact hl x hx⟩
theorem Zo{c:Ctx}{S:Nat→aj}{ops:Array Oper}{k:List Item}{Q:Array Value→ax→aj→Prop}(hk:(c.kind == CallKind.early)=false)(hb:backward ops=true)
  (hQ:∀ t R H,Q t R H→ae.J R H (aV (aU c t k) c.cs)):∀ (fuel t:Nat) (listed:Array Bool) (acc:List Nat) (rem:List Nat) (tmps:Array Value) (R:ax) (H:aj),GU ops listed rem→rem.length≤fuel →
   D8 ae c S ops Q fuel rem tmps R H→∃ is,Region.linearise.go .any ops fuel t listed acc=acc.reverse++is∧ae.J R H (aV (aU c tmps (.inRegion ops is::k)) c.cs)
 | 0,t,listed,acc,rem,tmps,R,H,_,_,h=>⟨[],by simp [Region.linearise.go],Jd.ctl rfl (λ w=>by simp [stepG,stepG.exec,aV,aU]) (hQ _ _ _ h.2)⟩
 | fuel+1,t,listed,acc,rem,tmps,R,H,hA,hl,h=>by
  generalize M7:((List.range ops.size).filter λ i=>!listed.getD i true && ((ops[i]?).map (·.after.all λ e=>!Region.binds .any e || listed.getD e.on false)).getD false)=rs
  have mE:∀ i,i∈rs→i∈rem∧nE ops rem i=true:=by
   intro i hi
   rw [← M7] at hi
   simp only [List.mem_filter,List.mem_range,Bool.and_eq_true,Bool.not_eq_true'] at hi
   obtain ⟨h1,h2,h3⟩:=hi
   refine ⟨(hA.2.2 i).2 ⟨h1,h2⟩,?_⟩
   unfold nE
   cases ho:ops[i]? with
   | none=>simp [ho] at h3
   | some o =>
    simp only [ho,Option.map_some,Option.getD_some,Array.all_eq_true_iff_forall_mem] at h3 ⊢
    intro e he
    have:=h3 e he
    rcases Bool.or_eq_true_iff.1 this with x | x
    ·simp [x]
    ·have hn:e.on ∉ rem:=λ hm=>by
      have:=((hA.2.2 e.on).1 hm).2
      have bL:e.on < listed.size:=by rw [hA.1]; exact ((hA.2.2 e.on).1 hm).1
      simp only [Array.getD_eq_getD_getElem?,Array.getElem?_eq_getElem bL,Option.getD_some] at this x
      rw [x] at this; cases this
     simp [hn]
  rcases h with ⟨rfl,hq⟩ | ⟨cT,w5⟩
  ·have at2:rs=[]:=by
    cases rs with
    | nil=>rfl
    | cons a r=>exact absurd (mE a (by simp)).1 (by simp)
   refine ⟨[],?_,Jd.ctl rfl (λ w=>by simp [stepG,stepG.exec,aV,aU]) (hQ _ _ _ hq)⟩
   unfold Region.linearise.go
   simp only [M7,at2]
   simp
  ·
   have at3:rs≠[]:=by
    obtain ⟨m,hm,asK⟩:=adV rem cT
    have Tv:=((hA.2.2 m).1 hm).1
    have:m∈rs:=by
     rw [← M7]
     simp only [List.mem_filter,List.mem_range,Bool.and_eq_true,Bool.not_eq_true']
     refine ⟨Tv,((hA.2.2 m).1 hm).2,?_⟩
     have ho:ops[m]? = some ops[m]:=Array.getElem?_eq_getElem Tv
     simp only [ho,Option.map_some,Option.getD_some,Array.all_eq_true_iff_forall_mem]
     intro e he
     unfold backward at hb
     rw [List.all_eq_true] at hb
     have fV:=hb m (List.mem_range.2 Tv)
     simp only [ho,Array.all_eq_true_iff_forall_mem] at fV
     rcases Bool.or_eq_true_iff.1 (fV e he) with x | x
     ·simp [x]
     ·have bL:e.on < m:=by simpa using x
      have hn:e.on ∉ rem:=λ It=>by have:=asK _ It; omega
      have hl':e.on < listed.size:=by rw [hA.1]; omega
      have h1:listed.getD e.on true=true:=by
       cases hh:listed.getD e.on true with
       | true=>rfl
       | false=>exact absurd ((hA.2.2 e.on).2 ⟨by omega,hh⟩) hn
      simp only [Array.getD_eq_getD_getElem?,Array.getElem?_eq_getElem hl',Option.getD_some] at h1 ⊢
      simp [h1]
    intro e; rw [e] at this; cases this
   have hlen:t % rs.length < rs.length:=Nat.mod_lt _ (by
    cases rs with
    | nil=>exact absurd rfl at3
    | cons _ _=>simp)
   have hi:rs[t % rs.length]? = some rs[t % rs.length]:=List.getElem?_eq_getElem hlen
   generalize rs[t % rs.length]=i at hi
   obtain ⟨S6,mG⟩:=mE i (List.mem_of_getElem? hi)
   have Ua:=λ hw=>w5 hw i S6 mG
   have bL:(rem.erase i).length≤fuel:=by rw [List.length_erase_of_mem S6]; omega
   have hgo:∀ LJ,∃ is,Region.linearise.go .any ops fuel (t / rs.length) (listed.setIfInBounds i true) LJ=LJ.reverse++is:=λ LJ=>⟨_,linearise_go_acc .any ops fuel (t / rs.length) (listed.setIfInBounds i true) LJ⟩
   obtain ⟨is,lP⟩:=hgo (i::acc)
   refine ⟨i::is,?_,?_⟩
   ·rw [Region.linearise.go]
    simp only [M7,hi]
    rw [lP]; simp
   ·refine J.given ae rfl λ hw=>?_
    refine aiF hk (Ua hw) λ t' R' H' hK=>?_
    obtain ⟨qP,h1,h2⟩:=Zo hk hb hQ fuel (t / rs.length) (listed.setIfInBounds i true) (i::acc) (rem.erase i) t' R' H' (hA.erase S6) bL hK
    rw [lP] at h1
    have:is=qP:=by simpa using h1
    rw [this]; exact h2
end
section
variable {P:Program} {B:Base} {main:Bool} {ae:Jd P B main}
def noSelect(o:Oper):Bool:=match o.op with | .select _ _=>false | _=>true
def looks(ops:Array Oper)(o:Oper):List Nat :=
 (o.op.operands.toList.filterMap λ | .tmp t=>some t | _=>none)++(match o.guard with | some (j,_)=>((ops[j]?).bind (·.dst)).toList | none=>[])
def Hj(ops:Array Oper)(a b:Oper):Bool :=
 (match a.dst with | some d=>!(looks ops b).contains d && b.dst != some d | none=>true) && (match b.dst with | some d=>!(looks ops a).contains d | none=>true)
theorem aGo{a b:Option Tmp}{v u:Value}{t:Array Value}(h:∀ d,a=some d→b≠some d):fB a v (fB b u t)=fB b u (fB a v t):=by
 cases a with
 | none=>rfl
 | some x=>cases b with
  | none=>rfl
  | some y =>
   have cT:x≠y:=λ e=>h x rfl (by rw [e])
   simp only [fB]
   exact Array.setIfInBounds_comm u v (Ne.symm cT)
theorem amz{c:Ctx}{t:Array Value}{dst:Option Tmp}{v:Value}{x:Operand}(h:∀ d,dst=some d→x ≠ .tmp d):(aU c (fB dst v t) []).eval x=(aU c t []).eval x:=by
 cases dst with
 | none=>rfl
 | some d=>cases x with
  | tmp y =>
   have cT:d≠y:=λ e=>h d rfl (by rw [e])
   simp only [aU,Frame.eval,fB,Array.getD_eq_getD_getElem?]
   rw [Array.getElem?_setIfInBounds_ne cT]
  | _=>rfl
theorem acf{c:Ctx}{ops:Array Oper}{t:Array Value}{dst:Option Tmp}{v:Value}{o:Oper}(hs:noSelect o=true)(h:∀ d,dst=some d→d ∉ looks ops o):execOp (aU c (fB dst v t) []).eval o=execOp (aU c t []).eval o:=by
 refine execOp_congr o (λ cs b e=>by rw [noSelect,e] at hs; cases hs) λ x hx=>amz λ d hd e=>h d hd ?_
 subst e
 unfold looks
 exact List.mem_append_left _ (List.mem_filterMap.2 ⟨_,Array.mem_toList_iff.2 hx,rfl⟩)
theorem agE{ops:Array Oper}{t:Array Value}{dst:Option Tmp}{v:Value}{o:Oper}(h:∀ d,dst=some d→d ∉ looks ops o):Region.wanted o (yielded ops (fB dst v t))=Region.wanted o (yielded ops t):=by
 unfold Region.wanted
 cases hg:o.guard with
 | none=>rfl
 | some g =>
  obtain ⟨j,want⟩:=g
  simp only [yielded]
  cases hd:(ops[j]?).bind (·.dst) with
  | none=>rfl
  | some d =>
   simp only [Option.bind_some]
   cases dst with
   | none=>rfl
   | some d' =>
    have cT:d'≠d:=λ e=>h d' rfl (by
     subst e
     unfold looks
     rw [hg]
     exact List.mem_append_right _ (by simp [hd]))
    simp only [fB]
    rw [Array.getElem?_setIfInBounds_ne cT]
theorem Z5{ops:Array Oper}{a b:Oper}(h:Hj ops a b=true):(∀ d,a.dst=some d→d ∉ looks ops b∧b.dst≠some d)∧(∀ d,b.dst=some d→d ∉ looks ops a):=by
 unfold Hj at h
 rw [Bool.and_eq_true] at h
 refine ⟨λ d hd=>?_,λ d hd=>?_⟩
 ·rw [hd] at h; simpa using h.1
 ·rw [hd] at h; simpa using h.2
theorem AY.fB{c:Ctx}{S:aj}{ops:Array Oper}{j:Nat}{oi oj:Oper}{t:Array Value}{v:Value}{R:ax}{H:aj}{K1 K:Array Value→ax→aj→Prop}(hj:ops[j]? = some oj)(hs:noSelect oj=true)(kY:Hj ops oi oj=true){F:aj}(hS:∀ p∈F,p∈H)(hFS:∀ p∈F,p∈S)
  (h:AY ae c S ops j (fB oi.dst v t) R H K1) (hK:∀ u R' H',aQ R R'→(∀ p∈F,p∈H')→K1 (Go.Lg.fB oj.dst u (Go.Lg.fB oi.dst v t)) R' H'→K (Go.Lg.fB oj.dst u t) R' H'):AY ae c S ops j t R H K:=by
 obtain ⟨h1,h2⟩:=Z5 kY
 obtain ⟨o,ho,hd,h⟩:=h
 obtain rfl:o=oj:=Option.some.inj (ho.symm.trans hj)
 rw [agE (λ d hd=>(h1 d hd).1),acf hs (λ d hd=>(h1 d hd).1)] at h
 refine ⟨o,ho,hd,?_⟩
 rcases h with ⟨a,b⟩ | ⟨a,b | ⟨f,args,b,b'⟩⟩
 ·exact .inl ⟨a,hK _ _ _ (aQ.refl _) hS b⟩
 ·exact .inr ⟨a,.inl (b.mono λ nx R' H' ⟨u,x,y,z,hk⟩=>⟨u,x,y,z,hK _ _ _ y (λ p hp=>z p (hFS p hp) (hS p hp)) hk⟩)⟩
 ·exact .inr ⟨a,.inr ⟨f,args,b,b'.mono λ u R' H' ⟨y,z,hk⟩=>⟨y,z,hK _ _ _ y (λ p hp=>z p (hFS p hp) (hS p hp)) hk⟩⟩⟩
def Zd(P:Program)(B:Base)(S:aj)(R:ax)(ρ:Operand→Value)(o:Oper)(v:Value):Prop :=
 ∀ R' H',aQ R R'→(∀ p∈S,p∈H')→aF P B R' H' (execOp ρ o) λ nx cI dW=>(nx = .value v∨(nx = .skip∧v=undef))∧cI=R'∧dW=H'
def qi(ops:Array Oper)(rem:List Nat)(i:Nat)(D:List Nat):Bool :=
 rem.contains i && nE ops rem i && !D.contains i && D.all (λ j=>rem.contains j && match ops[j]? with | some o=>o.after.any λ e=>Region.binds .any e && (e.on == i || D.contains e.on) | none=>false) &&
 (match ops[i]? with | some oi=>noSelect oi && rem.all (λ j=>j == i || D.contains j || match ops[j]? with | some oj=>noSelect oj && Hj ops oi oj | none=>false) | none=>false)
theorem aHN{ops:Array Oper}{rem:List Nat}{i j:Nat}{D:List Nat}(h:qi ops rem i D=true)(gi:j≠i)(qH:j ∉ D):qi ops (rem.erase j) i D=true:=by
 unfold qi at h ⊢
 simp only [Bool.and_eq_true,Bool.not_eq_true',List.all_eq_true,List.contains_iff_mem] at h ⊢
 obtain ⟨⟨⟨⟨h1,h2⟩,h3⟩,h4⟩,h5⟩:=h
 refine ⟨⟨⟨⟨(List.mem_erase_of_ne (Ne.symm gi)).2 h1,?_⟩,h3⟩,λ x hx=>⟨(List.mem_erase_of_ne (λ e=>qH (by rw [← e]; exact hx))).2 (h4 x hx).1,(h4 x hx).2⟩⟩,?_⟩
 ·unfold nE at h2 ⊢
  cases ho:ops[i]? with
  | none=>simp [ho] at h2
  | some o =>
   simp only [ho,Array.all_eq_true_iff_forall_mem] at h2 ⊢
   intro e he
   have:=h2 e he
   rcases Bool.or_eq_true_iff.1 this with x | x
   ·simp [x]
   ·have hn:e.on ∉ rem:=by simpa using x
    have:e.on ∉ rem.erase j:=λ hm=>hn (List.mem_of_mem_erase hm)
    simp [this]
 ·cases ho:ops[i]? with
  | none=>simp [ho] at h5
  | some oi =>
   simp only [ho,Bool.and_eq_true,List.all_eq_true] at h5 ⊢
   exact ⟨h5.1,λ x hx=>h5.2 x (List.mem_of_mem_erase hx)⟩
theorem Z4{c:Ctx}{S:Nat→aj}{ops:Array Oper}{Q:Array Value→ax→aj→Prop}{i:Nat}{oi:Oper}{D:List Nat}{N:aj}{v:Value}(hi:ops[i]? = some oi)(hd:mI oi.op=false):∀ (n:Nat) (rem:List Nat) (t:Array Value) (R:ax) (H:aj),
  qi ops rem i D=true→rem.Nodup→(∀ p∈N,p∈H)→(∀ j∈rem,j≠i→j ∉ D→∀ p∈N,p∈S j)→((Region.wanted oi (yielded ops t)=true∧Zd P B N R (aU c t []).eval oi v)∨(Region.wanted oi (yielded ops t)=false∧v=undef))→D8 ae c S ops Q n (rem.erase i) (fB oi.dst v t) R H→D8 ae c S ops Q (n+1) rem t R H:=by
 intro n
 induction n with
 | zero =>
  intro rem t R H jI dR hS wZ pZ h
  unfold qi at jI
  simp only [Bool.and_eq_true,List.contains_iff_mem] at jI
  have mE:i∈rem:=jI.1.1.1.1
  refine .inr ⟨(λ e=>by rw [e] at mE; cases mE),λ _ j hj _=>?_⟩
  have gi:j=i:=by
   by_cases e:j=i
   ·exact e
   ·exact absurd ((List.mem_erase_of_ne e).2 hj) (by rw [h.1]; simp)
  subst gi
  rcases pZ with ⟨hw,hf⟩ | ⟨hw,rfl⟩
  ·exact ⟨oi,hi,hd,.inr ⟨hw,.inl ((hf R H (aQ.refl _) hS).mono λ nx R' H' ⟨e1,e2,e3⟩=>by subst e2 e3; exact ⟨v,e1,aQ.refl _,(λ _ _ h=>h),h⟩)⟩⟩
  ·exact ⟨oi,hi,hd,.inl ⟨hw,h⟩⟩
 | succ n ih =>
  intro rem t R H jI dR hS wZ pZ h
  have axF:=jI
  unfold qi at jI
  simp only [Bool.and_eq_true,List.contains_iff_mem,Bool.not_eq_true',List.all_eq_true] at jI
  obtain ⟨⟨⟨⟨mE,aSO⟩,hiD⟩,hD⟩,w5⟩:=jI
  rw [hi] at w5
  simp only [Bool.and_eq_true,List.all_eq_true] at w5
  obtain ⟨asP,w5⟩:=w5
  refine .inr ⟨(λ e=>by rw [e] at mE; cases mE),λ Vu j hj zn=>?_⟩
  by_cases gi:j=i
  ·subst gi
   rcases pZ with ⟨hw,hf⟩ | ⟨hw,rfl⟩
   ·exact ⟨oi,hi,hd,.inr ⟨hw,.inl ((hf R H (aQ.refl _) hS).mono λ nx R' H' ⟨e1,e2,e3⟩=>by subst e2 e3; exact ⟨v,e1,aQ.refl _,(λ _ _ h=>h),h⟩)⟩⟩
   ·exact ⟨oi,hi,hd,.inl ⟨hw,h⟩⟩
  ·
   have qH:j ∉ D:=λ qH=>by
    obtain ⟨_,hx⟩:=hD j qH
    unfold nE at zn
    cases ho:ops[j]? with
    | none=>simp [ho] at hx
    | some o =>
     simp only [ho,Array.all_eq_true_iff_forall_mem] at zn hx
     rw [Array.any_eq_true'] at hx
     obtain ⟨e,he,hx⟩:=hx
     have hr:=zn e he
     rw [Bool.and_eq_true] at hx
     have BC:e.on∈rem:=by
      rcases Bool.or_eq_true_iff.1 hx.2 with x | x
      ·have:e.on=i:=by simpa using x
       rw [this]; exact mE
      ·have hxD:e.on∈D:=by simpa using x
       exact (hD _ hxD).1
     simp [hx.1,BC] at hr
   have zl:=w5 j hj
   have To:∃ oj,ops[j]? = some oj∧noSelect oj=true∧Hj ops oi oj=true:=by
    cases ho:ops[j]? with
    | none=>simp [gi,qH,ho] at zl
    | some oj=>simp [gi,qH,ho] at zl; exact ⟨oj,rfl,zl.1,zl.2⟩
   obtain ⟨oj,hoj,at4,kY⟩:=To
   rcases h with ⟨he,_⟩ | ⟨_,awd⟩
   ·exact absurd ((List.mem_erase_of_ne gi).2 hj) (by rw [he]; simp)
   have asC:nE ops (rem.erase i) j=true:=by
    unfold nE at zn ⊢
    simp only [hoj,Array.all_eq_true_iff_forall_mem] at zn ⊢
    intro e he
    have:=zn e he
    rcases Bool.or_eq_true_iff.1 this with x | x
    ·simp [x]
    ·have hn:e.on ∉ rem:=by simpa using x
     have:e.on ∉ rem.erase i:=λ hm=>hn (List.mem_of_mem_erase hm)
     simp [this]
   have Ua:=awd Vu j ((List.mem_erase_of_ne gi).2 hj) asC
   obtain ⟨ha1,ha2⟩:=Z5 kY
   refine AY.fB (oi:=oi) (v:=v) hoj at4 kY hS (wZ j hj gi qH) Ua λ u R' H' hR Su hA=>?_
   refine ih (rem.erase j) (fB oj.dst u t) R' H' (aHN axF gi qH) (dR.erase _) Su (λ x hx=>wZ x (List.mem_of_mem_erase hx)) ?_ ?_
   ·rw [agE (λ d hd=>ha2 d hd)]
    refine pZ.imp (λ ⟨hw,hf⟩=>⟨hw,λ cI dW rG aoE=>?_⟩) id
    rw [acf (ops:=ops) asP (λ d hd=>ha2 d hd)]
    exact hf cI dW (hR.trans rG) aoE
   ·rw [List.erase_comm,aGo (a:=oi.dst) (b:=oj.dst) (λ d hd=>(ha1 d hd).2)]
    exact hA
variable {c:Ctx} {S:Nat→aj} {ops:Array Oper} {k:List Item} {R:ax} {H:aj} {st st':St} {rem:List Nat} {n:Nat}
def Any(ae:Jd P B main)(c:Ctx)(S:Nat→aj)(ops:Array Oper)(k:List Item)(n:Nat)(rem:List Nat)(R:ax)(H:aj)(st:St):Prop :=
 rem.Nodup∧∀ tmps,cS c.n st tmps→D8 ae c S ops (λ t R H=>ae.J R H (aV (aU c t k) c.cs)) n rem tmps R H
theorem At.draw{id:Nat}{is:List Nat}{n:Nat}(S:Nat→aj)(hm:P.follows .mixedOrders=true)(hk:(c.kind == CallKind.early)=false)(hb:backward ops=true)(hn:ops.size=n)(lP:List.range n=is)(h:Any ae c S ops k n is R H st):At ae c R H st (.code (.region id ops true)::k):=by
 intro tmps ht
 subst hn; subst lP
 refine ae.step rfl λ w hw=>?_
 have hA:GU ops (Array.replicate ops.size false) (List.range ops.size):=⟨by simp,List.nodup_range,λ i=>by
  simp only [List.mem_range,Array.getD_eq_getD_getElem?]
  constructor
  ·intro hi; exact ⟨hi,by simp [hi]⟩
  ·exact λ x=>x.1⟩
 have key:=λ t=>Zo (ae:=ae) (k:=k) hk hb (λ _ _ _ hq=>hq) ops.size t _ [] _ tmps R H hA (by simp) (h.2 tmps ht)
 obtain ⟨is,h1,h2⟩:=key (if (Question.order c.fn id).forced then 0 else (Question.order c.fn id).cut (w.tape w.drawn (.order c.fn id)))
 refine ⟨aV (aU c tmps (.inRegion ops is::k)) c.cs,{ w with drawn:=w.drawn+1 },#[],R,H,?_,by simp,⟨⟨hw.r,hw.h,hw.nd,hw.dj,hw.os,hw.tape,hw.out⟩,λ _ _ x=>x,Nat.le_refl _,λ _ _ _=>rfl,λ _ _ x=>.inl x,λ _ o x=>.inl ⟨o,x⟩⟩,h2⟩
 simp only [Question.forced,Bool.false_eq_true,if_false,List.reverse_nil,List.nil_append] at h1
 simp [stepG,stepG.exec,aV,aU,choose,Sem.run,Question.forced,Region.schedule,hm,Region.linearise,h1]
theorem At.akU{id:Nat}{is:List Nat}{n:Nat}(hm:P.follows .mixedOrders=true)(hk:(c.kind == CallKind.early)=false)(hb:backward ops=true)(hn:ops.size=n)(lP:List.range n=is)(h:Any ae c (λ _=>H) ops k n is R H st):At ae c R H st (.code (.region id ops true)::k):=At.draw (λ _=>H) hm hk hb hn lP h
theorem oO.FP{o:Oper}{i:Nat}{tmps:Array Value}(h:oO ae c o R H st λ R' H' st'=>aQ R R'∧(∀ p∈S i,p∈H→p∈H')∧Any ae c S ops k n rem R' H' st')(ho:ops[i]? = some o)(hw:Region.wanted o (yielded ops tmps)=true)(ht:cS c.n st tmps) :
  AY ae c (S i) ops i tmps R H λ t' R' H'=>D8 ae c S ops (λ t R H=>ae.J R H (aV (aU c t k) c.cs)) n rem t' R' H':=by
 obtain ⟨hd,kZ,h | ⟨f,args,h1,h2⟩⟩:=h
 ·exact ⟨o,ho,hd,.inr ⟨hw,.inl ((h _ (ht.knows c [])).mono λ nx R' H' ⟨v,hv,st',hs,hR,hS,hA⟩=>⟨v,hv,hR,hS,hA.2 _ ((ht.put v kZ).sub hs)⟩)⟩⟩
 ·exact ⟨o,ho,hd,.inr ⟨hw,.inr ⟨f,args,h1 _ (ht.knows c []),h2.mono λ v R' H' ⟨st',hs,hR,hS,hA⟩=>⟨hR,hS,hA.2 _ ((ht.put v kZ).sub hs)⟩⟩⟩⟩
theorem Any.done(h:At ae c R H st k):Any ae c S ops k n [] R H st:=⟨List.nodup_nil,λ tmps ht=>by
 cases n with
 | zero=>exact ⟨rfl,h tmps ht⟩
 | succ n=>exact .inl ⟨rfl,h tmps ht⟩⟩
theorem Any.take{i:Nat}{o:Oper}{v:Value}{N:aj}(D:List Nat)(ho:ops[i]? = some o)(jI:qi ops rem i D=true)(hd:mI o.op=false)(kZ:bT o.dst c.n)(hw:cN ops st o=some true)(wZ:∀ j∈rem,j≠i→j ∉ D→∀ p∈N,p∈S j)(hS:∀ p∈N,p∈H)(hf:∀ ρ,Knows st ρ→Zd P B N R ρ o v)(hs:aA (bZ o.dst v st) st')(dR:rem.Nodup)
  {pn:List Nat} (hr:rem.erase i=pn) (h:Any ae c S ops k n pn R H st'):Any ae c S ops k (n+1) rem R H st:=by
 subst hr
 exact ⟨dR,λ tmps ht=>Z4 ho hd n rem tmps R H jI dR hS wZ (.inl ⟨kl ht hw,hf _ (ht.knows c [])⟩) (h.2 _ ((ht.put v kZ).sub hs))⟩
theorem Any.Dd{i d:Nat}{o:Oper}{v:Value}{N:aj}(D:List Nat)(ho:ops[i]? = some o)(od:o.dst=some d)(hw:cN ops st o=some true)(jI:qi ops rem i D=true)(wZ:∀ j∈rem,j≠i→j ∉ D→∀ p∈N,p∈S j)(hS:∀ p∈N,p∈H)
  (hf:∀ R' H',aQ R R'→(∀ p∈N,p∈H')→aK P B c o R' H' st λ R1 H1 vV=>R1=R'∧H1=H'∧vV=[(d,v)]) (hs:aA ((d,v)::st) st') (dR:rem.Nodup)
  {pn:List Nat} (hr:rem.erase i=pn) (h:Any ae c S ops k n pn R H st'):Any ae c S ops k (n+1) rem R H st:=by
 have h0:=hf R H (aQ.refl _) hS
 refine Any.take (v:=v) D ho jI h0.1 h0.2.1 hw wZ hS (λ ρ bd R' H' hR Su=>?_) (by rw [od]; exact hs) dR hr h
 refine ((hf R' H' hR Su).2.2 ρ bd).mono λ nx cI dW ⟨u,hu,vV,o8,e1,e2,e3⟩=>?_
 subst e3
 rw [od] at o8
 have huv:u=v:=by
  have:=o8 d v (by simp)
  simp only [bZ,List.lookup_cons,beq_self_eq_true] at this
  exact Option.some.inj this
 subst huv
 exact ⟨hu,e1,e2⟩
theorem Any.aHM{i:Nat}{o:Oper}(D:List Nat)(ho:ops[i]? = some o)(jI:qi ops rem i D=true)(hd:mI o.op=false)(kZ:bT o.dst c.n)(hw:cN ops st o=some false)(hs:aA (bZ o.dst undef st) st')(dR:rem.Nodup)
  {pn:List Nat} (hr:rem.erase i=pn) (h:Any ae c S ops k n pn R H st'):Any ae c S ops k (n+1) rem R H st:=by
 subst hr
 exact ⟨dR,λ tmps ht=>Z4 (v:=undef) (N:=[]) ho hd n rem tmps R H jI dR (by simp) (by simp) (.inr ⟨kl ht hw,rfl⟩) (h.2 _ ((ht.put undef kZ).sub hs))⟩
theorem Any.one{i:Nat}{o:Oper}(ho:ops[i]? = some o)(mG:rem.filter (nE ops rem)=[i])(hw:cN ops st o=some true)(dR:rem.Nodup){pn:List Nat}(hr:rem.erase i=pn)
  (h:oO ae c o R H st λ R' H' st'=>aQ R R'∧(∀ p∈S i,p∈H→p∈H')∧Any ae c S ops k n pn R' H' st'):Any ae c S ops k (n+1) rem R H st:=by
 subst hr
 refine ⟨dR,λ tmps ht=>.inr ⟨(λ e=>by rw [e] at mG; cases mG),λ _ j hj zn=>?_⟩⟩
 have:j∈rem.filter (nE ops rem):=List.mem_filter.2 ⟨hj,zn⟩
 rw [mG] at this
 obtain rfl:j=i:=by simpa using this
 exact h.FP ho (kl ht hw) ht
theorem aB6{H H':aj}(h:∀ p∈H,p∈H'){X:aj}:∀ p∈H,p∈X→p∈H':=λ p hp _=>h p hp
end
end Go.Lg
namespace Go.Lg
open Go.Conc
section
variable {P:Program} {B:Base} {main:Bool} {ae:Jd P B main} {c:Ctx} {R:ax} {H H':aj} {st st':St} {k:List Item}
theorem ON{w:World}(hs:List.Sublist H' H)(hw:Fits B R H w):fK B R H w R H' w :=
 ⟨⟨hw.r,λ b o h=>hw.h b o (hs.subset h),(hs.map _).nodup hw.nd,λ b o h=>hw.dj b o (hs.subset h),hw.os,hw.tape,hw.out⟩,λ _ _ x=>x,Nat.le_refl _,λ _ _ _=>rfl,λ _ _ x=>.inl x,λ _ o x=>.inl ⟨o,hs.subset x⟩⟩
theorem At.drop{todo:List Item}(hs:List.Sublist H' H)(h:At ae c R H' st todo):At ae c R H st todo:=At.ghost (λ _ hw=>ON hs hw) h
theorem J.drop{g:Goroutine}(hs:List.Sublist H' H)(h:ae.J R H' g):ae.J R H g:=ae.ghost (λ _ hw=>ON hs hw) h
theorem X3{w:World}(hs:List.Perm H' H)(hw:Fits B R H w):fK B R H w R H' w :=
 ⟨⟨hw.r,λ b o h=>hw.h b o (hs.subset h),(hs.map _).nodup_iff.2 hw.nd,λ b o h=>hw.dj b o (hs.subset h),hw.os,hw.tape,hw.out⟩,λ _ _ x=>x,Nat.le_refl _,λ _ _ _=>rfl,λ _ _ x=>.inl x,λ _ o x=>.inl ⟨o,hs.subset x⟩⟩
theorem At.perm{todo:List Item}(hs:List.Perm H' H)(h:At ae c R H' st todo):At ae c R H st todo:=At.ghost (λ _ hw=>X3 hs hw) h
theorem J.perm{g:Goroutine}(hs:List.Perm H' H)(h:ae.J R H' g):ae.J R H g:=ae.ghost (λ _ hw=>X3 hs hw) h
def ax.ins(R:ax)(b:Nat)(o:Obj):ax:=λ x=>if x=b then some o else R x
theorem ax.aB3(R:ax)(b:Nat)(o:Obj):R.ins b o b=some o:=by simp [ax.ins]
theorem ax.adI{R:ax}{b:Nat}{o:Obj}(h:R b=none):aQ R (R.ins b o):=λ x u hx=>by
 unfold ax.ins
 split
 ·subst_vars; rw [h] at hx; cases hx
 ·exact hx
theorem aH0{w:World}{b:Nat}{o:Obj}(hw:Fits B R ((b,o)::H) w):fK B R ((b,o)::H) w (R.ins b o) H w:=by
 have hb:R b=none:=hw.dj b o (by simp)
 have dR:=hw.nd
 rw [List.map_cons,List.nodup_cons] at dR
 refine ⟨⟨λ x u hx=>?_,λ x u hx=>hw.h x u (by simp [hx]),dR.2,λ x u hx=>?_,hw.os,hw.tape,hw.out⟩,ax.adI hb,Nat.le_refl _,λ _ _ _=>rfl,λ x u hx=>?_,λ x u hx=>.inl ⟨u,by simp [hx]⟩⟩
 ·unfold ax.ins at hx
  split at hx
  ·subst_vars; cases hx; exact hw.h _ _ (by simp)
  ·exact hw.r x u hx
 ·have cT:x≠b:=λ e=>dR.1 (List.mem_map.2 ⟨(x,u),hx,e⟩)
  unfold ax.ins
  rw [if_neg cT]
  exact hw.dj x u (by simp [hx])
 ·unfold ax.ins at hx
  split at hx
  ·subst_vars; exact .inr (.inl ⟨o,by simp⟩)
  ·exact .inl hx
theorem J.freeze{g:Goroutine}{b:Nat}{o:Obj}(h:∀ R',aQ R R'→R' b=some o→ae.J R' H g)(hb:R b=none):ae.J R ((b,o)::H) g :=
 ae.ghost (λ _ hw=>aH0 hw) (h _ (ax.adI hb) (ax.aB3 R b o))
theorem J.anY{fr:Frame}{cs:List Frame}{b:Nat}{o:Obj}(h:∀ R',aQ R R'→R' b=some o→ae.J R' H (aV fr cs)):ae.J R ((b,o)::H) (aV fr cs):=by
 cases hb:R b with
 | none=>exact J.freeze h hb
 | some x =>
  refine ae.step rfl λ w hw=>?_
  have:=hw.dj b o (by simp)
  rw [hb] at this
  cases this
theorem At.freeze{todo:List Item}{b:Nat}{o:Obj}(h:∀ R',aQ R R'→R' b=some o→At ae c R' H st todo):At ae c R ((b,o)::H) st todo :=
 λ tmps ht=>J.anY λ R' h1 h2=>h R' h1 h2 tmps ht
theorem cS.afu{n t:Nat}{x:Value}{tmps:Array Value}(hx:st.lookup t=some x)(h:cS n st tmps):cS n ((t,x)::st) tmps:=by
 refine ⟨h.1,λ u v hu=>?_⟩
 rw [List.lookup_cons] at hu
 split at hu
 ·rename_i heq
  have:u=t:=by simpa using heq
  subst this
  cases hu
  exact h.2 _ _ hx
 ·exact h.2 u v hu
theorem At.loop{body:Code}(I:Nat→ax→aj→St→Prop)
  (Sy:∀ n R H st,I n R H st→(∀ m R' H' st',m < n→I m R' H' st'→At ae c R' H' st' (.inLoop body::k))→At ae c R H st (.code body :: .inLoop body::k))
  {n:Nat} (h0:I n R H st):At ae c R H st (.code (.loop body)::k):=by
 have key:∀ n R H st,I n R H st→At ae c R H st (.code body :: .inLoop body::k):=by
  intro n
  induction n using Nat.strongRecOn with
  | ind n ih=>exact λ R H st hI=>Sy n R H st hI λ m R' H' st' hm HO=>At.inLoop (ih m hm R' H' st' HO)
 exact At.enterLoop (key n R H st h0)
end
theorem Cell.mono{R R':ax}{H:aj}{a:Addr}{v:Value}(h:Cell R [] a v)(hR:aQ R R'):Cell R' H a v:=by
 obtain ⟨h1,cs,e,fz,h2,h3⟩:=h
 exact ⟨h1,cs,e,fz,.inl (h2.elim (hR _ _) (λ x=>by cases x)),h3⟩
theorem aH.up{R R':ax}{H:aj}{b o:Nat}{vs:List Value}(h:aH R [] b o vs)(hR:aQ R R'):aH R' H b o vs:=λ j v hj=>(h j v hj).mono hR
theorem aH.any{R:ax}{H:aj}{b o:Nat}{vs:List Value}(h:aH R [] b o vs):aH R H b o vs:=h.up (aQ.refl R)
theorem aH.one{R:ax}{H:aj}{b o j:Nat}{v:Value}{vs:List Value}(h:aH R H b o vs)(hj:vs[j]? = some v):Cell R H ⟨b,o+j,none⟩ v:=h j v hj
end Go.Lg
