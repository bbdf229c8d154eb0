/- The base of a logic of goroutines in company. Conditions: none. -/
import Derived.Conc.Beside
import Derived.Conc.Events
import Derived.Conc.Listed
import Derived.Orders
namespace Go.Lg
open Go.Conc
abbrev av:=Nat→Option Obj
abbrev ai:=List (Nat × Obj)
structure Base where
 os:Os→Prop
 tape:Nat→Question→Nat
 out:Array (Nat × ByteArray)
structure Fits (B:Base) (R:av) (H:ai) (w:World):Prop where
 r:∀ b o,R b=some o→w.heap[b]? = some o
 h:∀ b o,(b,o)∈H→w.heap[b]? = some o
 nd:(H.map (·.1)).Nodup
 dj:∀ b o,(b,o)∈H→R b=none
 os:B.os w.os
 tape:w.tape=B.tape
 out:w.output=B.out
theorem kP{w:World}{b:Nat}{o:Obj}(h:w.heap[b]? = some o):b < w.heap.size:=(Array.getElem?_eq_some_iff.1 h).1
structure fw (B:Base) (R:av) (H:ai) (w:World) (R':av) (H':ai) (w':World):Prop where
 fits:Fits B R' H' w'
 rle:∀ b o,R b=some o→R' b=some o
 size:w.heap.size≤w'.heap.size
 same:∀ b,b < w.heap.size→(∀ o,(b,o) ∉ H)→w'.heap[b]? = w.heap[b]?
 DJ:∀ b o,R' b=some o→R b=some o∨(∃ o',(b,o')∈H)∨w.heap.size≤b
 wj:∀ b o,(b,o)∈H'→(∃ o',(b,o')∈H)∨w.heap.size≤b
theorem fw.refl{B:Base}{R:av}{H:ai}{w:World}(h:Fits B R H w):fw B R H w R H w :=
 ⟨h,λ _ _ x=>x,Nat.le_refl _,λ _ _ _=>rfl,λ _ _ x=>.inl x,λ _ o x=>.inl ⟨o,x⟩⟩
theorem fw.trans{B:Base}{R R' cy:av}{H H' dI:ai}{w w' MF:World}(h:fw B R H w R' H' w')(k:fw B R' H' w' cy dI MF):fw B R H w cy dI MF:=by
 refine ⟨k.fits,λ b o x=>k.rle b o (h.rle b o x),Nat.le_trans h.size k.size,λ b hb hn=>?_,λ b o x=>?_,λ b o x=>?_⟩
 ·rw [k.same b (Nat.lt_of_lt_of_le hb h.size) (λ o ho=>?_),h.same b hb hn]
  rcases h.wj b o ho with ⟨o',eJ⟩ | r9
  ·exact hn o' eJ
  ·omega
 ·rcases k.DJ b o x with x | ⟨o',x⟩ | x
  ·exact h.DJ b o x
  ·exact .inr (h.wj b o' x)
  ·exact .inr (.inr (Nat.le_trans h.size x))
 ·rcases k.wj b o x with ⟨o',x⟩ | x
  ·exact h.wj b o' x
  ·exact .inr (Nat.le_trans h.size x)
def zA(R:av)(H:ai)(n:Nat)(write:Bool)(b:Nat):Prop:=(write=false∧(R b).isSome=true)∨(∃ o,(b,o)∈H)∨n≤b
def gA(R:av)(H:ai)(n m:Nat)(e:Event):Prop :=
 match e.loc with
 | .cell a=>e.sync=false∧a.block < m∧zA R H n e.write a.block
 | .obj b=>e.sync=false∧b < m∧zA R H n e.write b
 | .mark .noRoom=>True
 | _=>False
theorem zA.up{B:Base}{R R':av}{H H':ai}{w w':World}(h:fw B R H w R' H' w'){wr:Bool}{b:Nat}(k:zA R' H' w'.heap.size wr b):zA R H w.heap.size wr b:=by
 rcases k with ⟨k1,k2⟩ | ⟨o,k⟩ | k
 ·obtain ⟨o,ho⟩:=Option.isSome_iff_exists.1 k2
  rcases h.DJ b o ho with x | x | x
  ·exact .inl ⟨k1,by simp [x]⟩
  ·exact .inr (.inl x)
  ·exact .inr (.inr x)
 ·exact .inr (h.wj b o k)
 ·exact .inr (.inr (Nat.le_trans h.size k))
theorem gA.up{B:Base}{R R':av}{H H':ai}{w w':World}(h:fw B R H w R' H' w'){m:Nat}{e:Event}(k:gA R' H' w'.heap.size m e):gA R H w.heap.size m e:=by
 unfold gA at k ⊢
 split at k
 ·exact ⟨k.1,k.2.1,k.2.2.up h⟩
 ·exact ⟨k.1,k.2.1,k.2.2.up h⟩
 ·trivial
 ·exact k.elim
theorem gA.more{R:av}{H:ai}{n m m':Nat}{e:Event}(hm:m≤m')(k:gA R H n m e):gA R H n m' e:=by
 unfold gA at k ⊢
 split at k
 ·exact ⟨k.1,by omega,k.2.2⟩
 ·exact ⟨k.1,by omega,k.2.2⟩
 ·trivial
 ·exact k.elim
def aL{α:Type}(P:Program)(B:Base)(R:av)(H:ai)(s:Sem α)(K:α→av→ai→Prop):Prop :=
 ∀ w,Fits B R H w→∃ a w' R' H',s.run P w = .ok a w'∧(∀ e∈s.events P w #[],gA R H w.heap.size w'.heap.size e)∧fw B R H w R' H' w'∧K a R' H'
section
variable {P:Program} {B:Base} {R:av} {H:ai}
theorem aL.mono{α:Type}{s:Sem α}{K K':α→av→ai→Prop}(h:aL P B R H s K)(hk:∀ a R' H',K a R' H'→K' a R' H'):aL P B R H s K':=by
 intro w hw
 obtain ⟨a,w',R',H',h1,h2,h3,h4⟩:=h w hw
 exact ⟨a,w',R',H',h1,h2,h3,hk _ _ _ h4⟩
theorem aL.pure{α:Type}{a:α}{K:α→av→ai→Prop}(h:K a R H):aL P B R H (Pure.pure a:Sem α) K :=
 λ w hw=>⟨a,w,R,H,rfl,by simp,fw.refl hw,h⟩
theorem aL.bind{α β:Type}{s:Sem α}{f:α→Sem β}{K:β→av→ai→Prop}(h:aL P B R H s λ a R' H'=>aL P B R' H' (f a) K):aL P B R H (s >>= f) K:=by
 intro w hw
 obtain ⟨a,w',R',H',h1,h2,h3,h4⟩:=h w hw
 obtain ⟨b,MF,cy,dI,k1,k2,k3,k4⟩:=h4 w' h3.fits
 refine ⟨b,MF,cy,dI,by simp [h1,k1],λ e he=>?_,h3.trans k3,k4⟩
 rw [Sem.events_bind,h1,Result.evThen_ok,Sem.events_acc] at he
 rcases Array.mem_append.1 he with he | he
 ·exact (h2 e he).more k3.size
 ·exact (k2 e he).up h3
theorem aL.map{α β:Type}{s:Sem α}{f:α→β}{K:β→av→ai→Prop}(h:aL P B R H s λ a R' H'=>K (f a) R' H'):aL P B R H (f <$> s) K:=by
 intro w hw
 obtain ⟨a,w',R',H',h1,h2,h3,h4⟩:=h w hw
 exact ⟨f a,w',R',H',by simp [h1],by simpa using h2,h3,h4⟩
def ah{α:Type}(P:Program)(s:Sem α)(a:α):Prop:=∀ w,s.run P w = .ok a w∧s.events P w #[]=#[]
theorem ah.ok{α:Type}{s:Sem α}{a:α}{K:α→av→ai→Prop}(h:ah P s a)(hk:K a R H):aL P B R H s K :=
 λ w hw=>⟨a,w,R,H,(h w).1,by rw [(h w).2]; simp,fw.refl hw,hk⟩
theorem ah.pure{α:Type}(a:α):ah P (Pure.pure a:Sem α) a:=λ _=>⟨rfl,rfl⟩
theorem ah.bind{α β:Type}{s:Sem α}{f:α→Sem β}{a:α}{b:β}(h:ah P s a)(k:ah P (f a) b):ah P (s >>= f) b :=
 λ w=>⟨by simp [(h w).1,(k w).1],by rw [Sem.events_bind,(h w).1,(h w).2]; exact (k w).2⟩
theorem ah.map{α β:Type}{s:Sem α}{f:α→β}{a:α}(h:ah P s a):ah P (f <$> s) (f a) :=
 λ w=>⟨by simp [(h w).1],by simpa using (h w).2⟩
theorem ah.program:ah P program P:=λ _=>⟨rfl,rfl⟩
theorem ah.underlying{t:TypeId}{d:TypeDesc}(h:P.underlying t=some d):ah P (underlying t) d:=λ w=>⟨by simp [Go.underlying,h],by simp⟩
theorem ah.typeInfo{t:TypeId}{i:TypeInfo}(h:P.info? t=some i):ah P (typeInfo t) i:=λ w=>⟨by simp [Go.typeInfo,h],by simp⟩
theorem ah.dM{α β:Type}{s:Sem α}{f:α→Sem β}{a:α}{K:β→av→ai→Prop}(h:ah P s a)(hk:aL P B R H (f a) K):aL P B R H (s >>= f) K :=
 aL.bind (h.ok hk)
def Cell(R:av)(H:ai)(a:Addr)(v:Value):Prop :=
 a.spot=none∧∃ cs e fz,(R a.block=some (.cells cs e fz)∨(a.block,Obj.cells cs e fz)∈H)∧cs[a.off]? = some v
theorem Cell.at_{w:World}{a:Addr}{v:Value}(h:Cell R H a v)(hw:Fits B R H w):w.cell? a=some v:=by
 obtain ⟨hs,cs,e,fz,h1,h2⟩:=h
 have hh:w.heap[a.block]? = some (.cells cs e fz):=h1.elim (hw.r _ _) (hw.h _ _)
 simp [World.cell?,hh,hs,h2]
theorem Cell.touch{a:Addr}{v:Value}(h:Cell R H a v)(n:Nat):zA R H n false a.block:=by
 obtain ⟨_,cs,e,fz,h1,_⟩:=h
 rcases h1 with h1 | h1
 ·exact .inl ⟨rfl,by simp [h1]⟩
 ·exact .inr (.inl ⟨_,h1⟩)
theorem ati{w:World}{a:Addr}{v:Value}(h:w.cell? a=some v):a.block < w.heap.size:=by
 unfold World.cell? at h
 split at h
 ·exact kP ‹_›
 ·cases h
theorem aL.load{a:Addr}{v:Value}{K:Value→av→ai→Prop}(h:Cell R H a v)(hk:K v R H):aL P B R H (load a) K:=by
 intro w hw
 have hc:=h.at_ hw
 refine ⟨v,w,R,H,by simp [hc],?_,fw.refl hw,hk⟩
 intro e he
 simp only [events_load,hc] at he
 simp at he
 subst he
 exact ⟨rfl,ati hc,h.touch _⟩
theorem aL.new{o:Obj}{K:Nat→av→ai→Prop}(hk:∀ r,R r=none→(∀ x,(r,x) ∉ H)→K r R ((r,o)::H)):aL P B R H (newObj o) K:=by
 intro w hw
 have hR:R w.heap.size=none:=by
  cases h:R w.heap.size with
  | none=>rfl
  | some x=>exact absurd (kP (hw.r _ _ h)) (Nat.lt_irrefl _)
 have hH:∀ x,(w.heap.size,x) ∉ H:=λ x hx=>absurd (kP (hw.h _ _ hx)) (Nat.lt_irrefl _)
 have sa:∀ b (x:Obj),w.heap[b]? = some x→(w.heap.push o)[b]? = some x:=λ b x hx=>by
  have:=kP hx
  rw [Array.getElem?_push]
  rw [if_neg (by omega)]; exact hx
 refine ⟨w.heap.size,{ w with heap:=w.heap.push o },R,(w.heap.size,o)::H,by simp,by simp,⟨⟨?_,?_,?_,?_,hw.os,hw.tape,hw.out⟩,λ _ _ x=>x,by simp,?_,λ _ _ x=>.inl x,?_⟩,hk _ hR hH⟩
 ·exact λ b x hx=>sa b x (hw.r b x hx)
 ·intro b x hx
  rcases List.mem_cons.1 hx with hx | hx
  ·cases hx; simp
  ·exact sa b x (hw.h b x hx)
 ·rw [List.map_cons,List.nodup_cons]
  refine ⟨λ hm=>?_,hw.nd⟩
  obtain ⟨p,hp,he⟩:=List.mem_map.1 hm
  have Kk:p.1=w.heap.size:=he
  exact hH p.2 (by rw [← Kk]; exact hp)
 ·intro b x hx
  rcases List.mem_cons.1 hx with hx | hx
  ·cases hx; exact hR
  ·exact hw.dj b x hx
 ·intro b hb _
  show (w.heap.push o)[b]? = _
  rw [Array.getElem?_push,if_neg (by omega)]
 ·intro b x hx
  rcases List.mem_cons.1 hx with hx | hx
  ·cases hx; exact .inr (Nat.le_refl _)
  ·exact .inl ⟨x,hx⟩
inductive eP:ai→Nat→Obj→Obj→ai→Prop
 | here {b:Nat} {o o':Obj} {H:ai}:eP ((b,o)::H) b o o' ((b,o')::H)
 | there {b:Nat} {o o':Obj} {p:Nat × Obj} {H H':ai}:eP H b o o' H'→eP (p::H) b o o' (p::H')
theorem eP.keys{H H':ai}{b:Nat}{o o':Obj}(h:eP H b o o' H'):H'.map (·.1)=H.map (·.1):=by
 induction h with
 | here=>rfl
 | there _ ih=>simp [ih]
theorem eP.mem{H H':ai}{b:Nat}{o o':Obj}(h:eP H b o o' H'):(b,o)∈H:=by
 induction h with
 | here=>simp
 | there _ ih=>exact List.mem_cons_of_mem _ ih
theorem eP.old{H H':ai}{b:Nat}{o o':Obj}(h:eP H b o o' H')(hn:(H.map (·.1)).Nodup):∀ c x,(c,x)∈H'→(c=b∧x=o')∨(c≠b∧(c,x)∈H):=by
 induction h with
 | @here b o o' H =>
  intro c x hx
  rw [List.map_cons,List.nodup_cons] at hn
  rcases List.mem_cons.1 hx with gv | gv
  ·cases gv; exact .inl ⟨rfl,rfl⟩
  ·refine .inr ⟨λ e=>hn.1 ?_,List.mem_cons_of_mem _ gv⟩
   rw [← e]
   exact List.mem_map.2 ⟨(c,x),gv,rfl⟩
 | @there b o o' p H H' hs ih =>
  intro c x hx
  rw [List.map_cons,List.nodup_cons] at hn
  rcases List.mem_cons.1 hx with hx | hx
  ·subst hx
   refine .inr ⟨λ e=>hn.1 ?_,by simp⟩
   simp only at e ⊢
   subst e
   exact List.mem_map.2 ⟨_,hs.mem,rfl⟩
  ·exact (ih hn.2 c x hx).imp id λ y=>⟨y.1,List.mem_cons_of_mem _ y.2⟩
theorem Fits.KA{H':ai}{b:Nat}{o o':Obj}{w:World}(hw:Fits B R H w)(h:eP H b o o' H') :
  fw B R H w R H' { w with heap:=w.heap.setIfInBounds b o' }:=by
 have hb:w.heap[b]? = some o:=hw.h _ _ h.mem
 have bJ:=kP hb
 have eB:∀ c,c≠b→(w.heap.setIfInBounds b o')[c]? = w.heap[c]? := λ c hc=>Array.getElem?_setIfInBounds_ne (by omega)
 refine ⟨⟨?_,?_,by rw [h.keys]; exact hw.nd,?_,hw.os,hw.tape,hw.out⟩,λ _ _ x=>x,by simp,?_,λ _ _ x=>.inl x,?_⟩
 ·intro c x hx
  show (w.heap.setIfInBounds b o')[c]? = _
  rw [eB c (λ e=>by subst e; have:=hw.dj _ _ h.mem; rw [hx] at this; cases this)]
  exact hw.r c x hx
 ·intro c x hx
  show (w.heap.setIfInBounds b o')[c]? = _
  rcases h.old hw.nd c x hx with ⟨rfl,rfl⟩ | ⟨hc,hx⟩
  ·rw [Array.getElem?_setIfInBounds_self_of_lt bJ]
  ·rw [eB c hc]; exact hw.h c x hx
 ·intro c x hx
  rcases h.old hw.nd c x hx with ⟨rfl,_⟩ | ⟨_,hx⟩
  ·exact hw.dj _ _ h.mem
  ·exact hw.dj c x hx
 ·intro c _ hn
  exact eB c (λ e=>by subst e; exact hn _ h.mem)
 ·intro c x hx
  rcases h.old hw.nd c x hx with ⟨rfl,_⟩ | ⟨_,hx⟩
  ·exact .inl ⟨_,h.mem⟩
  ·exact .inl ⟨_,hx⟩
theorem aL.store{a:Addr}{v:Value}{cs:Array Value}{e:TypeId}{H':ai}{K:Unit→av→ai→Prop}(h1:v.oneCell'=true)(ha:a.spot=none)(bJ:a.off < cs.size)
  (hs:eP H a.block (.cells cs e (0,0)) (.cells (cs.setIfInBounds a.off v) e (0,0)) H') (hk:K () R H'):aL P B R H (store a v) K:=by
 intro w hw
 have hb:w.heap[a.block]? = some (.cells cs e (0,0)):=hw.h _ _ hs.mem
 have hc:w.cell? a=some cs[a.off]:=by simp [World.cell?,hb,ha,bJ]
 have hf:w.frozen? a=false:=by simp [World.frozen?,hb]
 have KA:w.setCell a v={ w with heap:=w.heap.setIfInBounds a.block (.cells (cs.setIfInBounds a.off v) e (0,0)) }:=by
  simp only [World.setCell]
  congr 1
  apply Array.ext_getElem?
  intro i
  rw [Array.getElem?_modify]
  by_cases hi:a.block=i
  ·subst hi
   rw [Array.getElem?_setIfInBounds_self_of_lt (kP hb),hb]
   simp [ha]
  ·simp [hi,Array.getElem?_setIfInBounds_ne hi]
 refine ⟨(),w.setCell a v,R,H',by rw [run_store P w a v _ h1]; simp [hc,hf],?_,?_,hk⟩
 ·intro e he
  rw [events_store P w #[] a v _ h1] at he
  simp [hc,hf] at he
  subst he
  refine ⟨rfl,?_,.inr (.inl ⟨_,hs.mem⟩)⟩
  simpa [World.setCell] using kP hb
 ·rw [KA]; exact hw.KA hs
def Obj.plain:Obj→Bool
 | .cells .. => false
 | .chan .. => false
 | _=>true
theorem aL.getObj{r:Nat}{o:Obj}{K:Obj→av→ai→Prop}(ho:Obj.plain o=true)(h:R r=some o∨(r,o)∈H)(hk:K o R H):aL P B R H (getObj r) K:=by
 intro w hw
 have hh:w.heap[r]? = some o:=h.elim (hw.r _ _) (hw.h _ _)
 have jS:(Go.getObj r).run P w = .ok o w:=by
  cases o <;> simp_all [Obj.plain,Go.getObj,Sem.run]
 have jv:(Go.getObj r).events P w #[]=#[⟨.obj r,false,false⟩]:=by
  cases o <;> simp_all [Obj.plain,Go.getObj,Sem.events,Sem.runT,Obj.isChan,-Sem.runT_eq]
 refine ⟨o,w,R,H,jS,?_,fw.refl hw,hk⟩
 intro e he
 rw [jv] at he
 simp at he
 subst he
 exact ⟨rfl,kP hh,h.elim (λ x=>.inl ⟨rfl,by simp [x]⟩) (λ x=>.inr (.inl ⟨_,x⟩))⟩
theorem aL.setObj{r:Nat}{o o':Obj}{H':ai}{K:Unit→av→ai→Prop}(ho:Obj.plain o=true)(eJ:Obj.plain o'=true)(hs:eP H r o o' H')(hk:K () R H'):aL P B R H (setObj r o') K:=by
 intro w hw
 have hh:w.heap[r]? = some o:=hw.h _ _ hs.mem
 have jS:(Go.setObj r o').run P w = .ok () { w with heap:=w.heap.setIfInBounds r o' }:=by
  cases o <;> simp_all [Obj.plain,Go.setObj,Sem.run]
 have jv:(Go.setObj r o').events P w #[]=#[⟨.obj r,true,false⟩]:=by
  cases o <;> simp_all [Obj.plain,Go.setObj,Sem.events,Sem.runT,-Sem.runT_eq] <;> (cases o' <;> simp_all [Obj.isChan])
 refine ⟨(),_,R,H',jS,?_,hw.KA hs,hk⟩
 intro e he
 rw [jv] at he
 simp at he
 subst he
 exact ⟨rfl,by simpa using kP hh,.inr (.inl ⟨_,hs.mem⟩)⟩
theorem aL.choose{q:Question}{K:Nat→av→ai→Prop}(hk:∀ t,K (if q.forced then 0 else q.cut t) R H):aL P B R H (choose q) K:=by
 intro w hw
 cases hf:q.forced with
 | true =>
  have:=hk 0
  rw [hf] at this
  exact ⟨0,w,R,H,by simp [Go.choose,Sem.run,hf],by simp,fw.refl hw,by simpa using this⟩
 | false =>
  have:=hk (w.tape w.drawn q)
  rw [hf] at this
  exact ⟨q.cut (w.tape w.drawn q),{ w with drawn:=w.drawn+1 },R,H,by simp [Go.choose,Sem.run,hf],by simp,⟨⟨hw.r,hw.h,hw.nd,hw.dj,hw.os,hw.tape,hw.out⟩,λ _ _ x=>x,Nat.le_refl _,λ _ _ _=>rfl,λ _ _ x=>.inl x,λ _ o x=>.inl ⟨o,x⟩⟩,by simpa using this⟩
theorem aL.avc{K:Unit→av→ai→Prop}(hk:K () R H):aL P B R H (mark .noRoom) K :=
 λ w hw=>⟨(),w,R,H,rfl,by simp [gA],fw.refl hw,hk⟩
end
end Go.Lg
namespace Go.Lg
open Go.Conc
structure Jd (P:Program) (B:Base) (main:Bool) where
 J:av→ai→Goroutine→Prop
 step:∀ {R H g},g.status = .running→(∀ w,Fits B R H w→∃ g' w' es R' H',stepG P main g w = .go g' w' es∧(∀ e∈es,gA R H w.heap.size w'.heap.size e)∧fw B R H w R' H' w'∧J R' H' g')→J R H g
 ghost:∀ {R H R' H' g},(∀ w,Fits B R H w→fw B R H w R' H' w)→J R' H' g→J R H g
abbrev St:=List (Nat × Value)
structure Ctx where
 fn:FuncId
 kind:CallKind
 ro:Option Nat
 n:Nat
 defers:List Deferred
 cs:List Frame
def aX(fr:Frame)(cs:List Frame):Goroutine:={ frame:=fr,callers:=cs,status:=.running,dying:=none }
def aV(c:Ctx)(tmps:Array Value)(todo:List Item):Frame:={ fn:=c.fn,tmps,todo,defers:=c.defers,mode:=.run,kind:=c.kind,roundOf:=c.ro }
def cL(n:Nat)(st:St)(tmps:Array Value):Prop:=tmps.size=n∧∀ t v,st.lookup t=some v→tmps[t]? = some v
def bS(st:St):St→Prop
 | []=>True
 | p::r=>st.lookup p.1=some p.2∧bS st r
def aF(st st':St):Prop:=∀ t v,st'.lookup t=some v→st.lookup t=some v
theorem bS.sub{st:St}:∀ {st':St},bS st st'→aF st st'
 | [],_,_,_,h=>by cases h
 | p::r,hs,t,v,h=>by
  rw [List.lookup_cons] at h
  split at h
  ·rename_i heq
   cases h
   have:t=p.1:=by simpa using heq
   subst this
   exact hs.1
  ·exact bS.sub hs.2 t v h
theorem aF.refl(st:St):aF st st:=λ _ _ h=>h
theorem cL.sub{n:Nat}{st st':St}{tmps:Array Value}(h:cL n st tmps)(hs:aF st st'):cL n st' tmps:=⟨h.1,λ t v x=>h.2 t v (hs t v x)⟩
def bT(dst:Option Tmp)(v:Value)(st:St):St:=match dst with | some d=>(d,v)::st | none=>st
theorem aF.put{dst:Option Tmp}{d:Tmp}{v:Value}{st:St}(h:dst=some d):aF (bT dst v st) ((d,v)::st):=by subst h; exact aF.refl _
theorem aF.Lv{dst:Option Tmp}{v:Value}{st:St}(h:dst=none):aF (bT dst v st) st:=by subst h; exact aF.refl _
def fg(dst:Option Tmp)(v:Value)(tmps:Array Value):Array Value:=match dst with | some d=>tmps.setIfInBounds d v | none=>tmps
def agH(dst:Option Tmp)(n:Nat):Bool:=match dst with | some d=>Nat.blt d n | none=>true
def bQ(dst:Option Tmp)(n:Nat):Prop:=agH dst n=true
theorem bQ.lt{d n:Nat}(h:bQ (some d) n):d < n:=by
 have:Nat.blt d n=true:=h
 simpa [Nat.blt_eq] using this
theorem cL.put{n:Nat}{st:St}{tmps:Array Value}(h:cL n st tmps){dst:Option Tmp}(v:Value)(hd:bQ dst n):cL n (bT dst v st) (fg dst v tmps):=by
 cases dst with
 | none=>exact h
 | some d =>
  refine ⟨by simp [fg,h.1],λ t u hu=>?_⟩
  have hd':d < tmps.size:=by rw [h.1]; exact hd.lt
  simp only [bT,List.lookup_cons] at hu
  split at hu
  ·rename_i heq
   cases hu
   have:t=d:=by simpa using heq
   subst this
   simp [fg,hd']
  ·rename_i heq
   have eB:t≠d:=by simpa using heq
   simp only [fg]
   rw [Array.getElem?_setIfInBounds_ne (Ne.symm eB)]
   exact h.2 t u hu
def bg(st:St):Operand→Option Value
 | .tmp t=>st.lookup t
 | .const v=>some v
 | .global g=>some (.pointer (some ⟨g,0,none⟩))
 | .func f=>some (.func (.func f) #[] #[])
def Knows(st:St)(ρ:Operand→Value):Prop:=∀ x v,bg st x=some v→ρ x=v
theorem cL.knows{n:Nat}{st:St}{tmps:Array Value}(h:cL n st tmps)(c:Ctx)(todo:List Item):Knows st (aV c tmps todo).eval:=by
 intro x v hx
 cases x with
 | tmp t =>
  have:=h.2 t v hx
  simp [aV,Frame.eval,Array.getD_eq_getD_getElem?,this]
 | const u=>cases hx; rfl
 | global g=>cases hx; rfl
 | func f=>cases hx; rfl
section
variable {P:Program} {B:Base} {main:Bool} (ab:Jd P B main)
def U(c:Ctx)(R:av)(H:ai)(st:St)(todo:List Item):Prop:=∀ tmps,cL c.n st tmps→ab.J R H (aX (aV c tmps todo) c.cs)
variable {ab} {c:Ctx} {R:av} {H:ai} {st:St} {k:List Item}
theorem U.sub{st':St}{todo:List Item}(hs:aF st st')(h:U ab c R H st' todo):U ab c R H st todo:=λ tmps ht=>h tmps (ht.sub hs)
theorem U.ghost{R':av}{H':ai}{todo:List Item}(hg:∀ w,Fits B R H w→fw B R H w R' H' w)(h:U ab c R' H' st todo):U ab c R H st todo:=λ tmps ht=>ab.ghost hg (h tmps ht)
theorem Jd.ctl{R:av}{H:ai}{g g':Goroutine}(hs:g.status = .running)(h:∀ w,stepG P main g w = .go g' w)(hj:ab.J R H g'):ab.J R H g :=
 ab.step hs λ w hw=>⟨g',w,#[],R,H,h w,by simp,fw.refl hw,hj⟩
theorem U.skip(h:U ab c R H st k):U ab c R H st (.code .skip::k):=λ tmps ht=>Jd.ctl rfl (λ w=>by simp [stepG,stepG.exec,aX,aV]) (h tmps ht)
theorem U.label{l:Nat}(h:U ab c R H st k):U ab c R H st (.code (.label l)::k):=λ tmps ht=>Jd.ctl rfl (λ w=>by simp [stepG,stepG.exec,aX,aV]) (h tmps ht)
theorem U.inBlock{id:Nat}(h:U ab c R H st k):U ab c R H st (.inBlock id::k):=λ tmps ht=>Jd.ctl rfl (λ w=>by simp [stepG,stepG.exec,aX,aV]) (h tmps ht)
theorem U.seq{x y:Code}(h:U ab c R H st (.code x :: .code y::k)):U ab c R H st (.code (.seq x y)::k):=λ tmps ht=>Jd.ctl rfl (λ w=>by simp [stepG,stepG.exec,aX,aV]) (h tmps ht)
theorem U.block{id:Nat}{x:Code}(h:U ab c R H st (.code x :: .inBlock id::k)):U ab c R H st (.code (.block id x)::k):=λ tmps ht=>Jd.ctl rfl (λ w=>by simp [stepG,stepG.exec,aX,aV]) (h tmps ht)
theorem U.scope{x:Code}(h:U ab c R H st (.code x :: .inScope x::k)):U ab c R H st (.code (.scope x)::k):=λ tmps ht=>Jd.ctl rfl (λ w=>by simp [stepG,stepG.exec,aX,aV]) (h tmps ht)
theorem U.enterLoop{x:Code}(h:U ab c R H st (.code x :: .inLoop x::k)):U ab c R H st (.code (.loop x)::k):=λ tmps ht=>Jd.ctl rfl (λ w=>by simp [stepG,stepG.exec,aX,aV]) (h tmps ht)
theorem U.inLoop{x:Code}(h:U ab c R H st (.code x :: .inLoop x::k)):U ab c R H st (.inLoop x::k):=λ tmps ht=>Jd.ctl rfl (λ w=>by simp [stepG,stepG.exec,aX,aV]) (h tmps ht)
theorem U.exit{id:Nat}{k':List Item}(he:exitTo id k=some k')(h:U ab c R H st k'):U ab c R H st (.code (.exit id)::k):=λ tmps ht=>Jd.ctl rfl (λ w=>by simp [stepG,stepG.exec,aX,aV,he]) (h tmps ht)
theorem U.region{id:Nat}{ops:Array Oper}(h:U ab c R H st (.inRegion ops (List.range ops.size)::k)):U ab c R H st (.code (.region id ops false)::k):=λ tmps ht=>Jd.ctl rfl (λ w=>by simp [stepG,stepG.exec,aX,aV]) (h tmps ht)
theorem U.aU{ops:Array Oper}(h:U ab c R H st k):U ab c R H st (.inRegion ops []::k):=λ tmps ht=>Jd.ctl rfl (λ w=>by simp [stepG,stepG.exec,aX,aV]) (h tmps ht)
theorem U.cond{x:Operand}{th el:Code}{t:Bool}(hx:bg st x=some (.bool t))(h1:t=true→U ab c R H st (.code th::k))(h2:t=false→U ab c R H st (.code el::k)):U ab c R H st (.code (.cond x th el)::k):=by
 intro tmps ht
 have he:=ht.knows c (.code (.cond x th el)::k) x _ hx
 cases t with
 | true=>exact Jd.ctl rfl (λ w=>by simp only [aV] at he; simp [stepG,stepG.exec,aX,aV,he]) (h1 rfl tmps ht)
 | false=>exact Jd.ctl rfl (λ w=>by simp only [aV] at he; simp [stepG,stepG.exec,aX,aV,he]) (h2 rfl tmps ht)
theorem U.cond_true{x:Operand}{th el:Code}(hx:bg st x=some (.bool true))(h:U ab c R H st (.code th::k)):U ab c R H st (.code (.cond x th el)::k):=U.cond hx (λ _=>h) (λ e=>by cases e)
theorem U.cond_false{x:Operand}{th el:Code}(hx:bg st x=some (.bool false))(h:U ab c R H st (.code el::k)):U ab c R H st (.code (.cond x th el)::k):=U.cond hx (λ e=>by cases e) (λ _=>h)
def mc:Op→Bool
 | .defer _=>true
 | _=>false
theorem oN{tmps:Array Value}{ops:Array Oper}{i:Nat}{rest:List Nat}{o:Oper}{w:World}(ho:ops[i]? = some o)(hw:Region.wanted o (yielded ops tmps)=true)(hd:mc o.op=false) :
  stepG P main (aX (aV c tmps (.inRegion ops (i::rest)::k)) c.cs) w=stepG.apply P true (aV c tmps (.inRegion ops (i::rest)::k)) c.cs none (execOp (aV c tmps (.inRegion ops (i::rest)::k)).eval o) w:=by
 cases hr:c.ro with
 | none=>simp [aX,stepG,stepG.exec,stepG.oper,Frame.oper?,aV,ho,hw,hr]
 | some l =>
  simp only [aX,stepG,stepG.exec,stepG.oper,Frame.oper?,aV,ho,hw,hr,Option.map_some,Option.getD_some,if_true]
  split
  ·rename_i h1 h2; rw [h2] at hd; cases hd
  ·rfl
theorem T4{tmps:Array Value}{ops:Array Oper}{i:Nat}{rest:List Nat}{o:Oper}{w:World}(ho:ops[i]? = some o)(hw:Region.wanted o (yielded ops tmps)=false) :
  stepG P main (aX (aV c tmps (.inRegion ops (i::rest)::k)) c.cs) w = .go (aX (aV c (fg o.dst undef tmps) (.inRegion ops rest::k)) c.cs) w:=by
 simp only [aX,stepG,stepG.exec,aV,ho,hw,Option.map_some,Option.getD_some,Frame.finish,Option.bind_some,fg]
 cases o.dst <;> rfl
theorem pa{tmps:Array Value}{ops:Array Oper}{i:Nat}{rest:List Nat}{o:Oper}{v:Value}(ho:ops[i]? = some o) :
  (aV c tmps (.inRegion ops (i::rest)::k)).finish v=aV c (fg o.dst v tmps) (.inRegion ops rest::k):=by
 simp only [Frame.finish,aV,ho,Option.bind_some,fg]
 cases o.dst <;> rfl
def cF(ops:Array Oper)(st:St)(o:Oper):Option Bool :=
 match o.guard with
 | none=>some true
 | some (j,want)=>match ((ops[j]?).bind (·.dst)).bind (st.lookup ·) with
  | some (.bool b)=>some (b == want)
  | some (.tuple _)=>some false
  | _=>none
theorem jY{n:Nat}{ops:Array Oper}{tmps:Array Value}{o:Oper}{b:Bool}(ht:cL n st tmps)(h:cF ops st o=some b):Region.wanted o (yielded ops tmps)=b:=by
 unfold cF at h
 unfold Region.wanted
 split at h
 ·rename_i hg; simp only [hg]; exact Option.some.inj h
 ·rename_i j want hg
  simp only [hg,yielded]
  cases hd:(ops[j]?).bind (·.dst) with
  | none=>simp [hd] at h
  | some d =>
   simp only [hd,Option.bind_some] at h ⊢
   cases hl:st.lookup d with
   | none=>simp [hl] at h
   | some v =>
    rw [hl] at h
    rw [ht.2 d v hl]
    cases v <;> simp at h ⊢ <;> first | (rw [← h]; done) | exact h.symm | (subst h; rfl)
theorem zB{fr:Frame}{cs:List Frame}{s:Sem Next}{w w':World}{v:Value}(hk:fr.kind ≠ .early)(hr:s.run P w = .ok (.value v) w') :
  stepG.apply P true fr cs none s w = .go (aX (fr.finish v) cs) w' (seen P fr.fn (s.events P w #[])):=by
 have dy:(fr.kind == CallKind.early)=false:=by simpa using hk
 simp [stepG.apply,hr,aX,dy,GStep.after]
theorem N1{fr:Frame}{cs:List Frame}{s:Sem Next}{w w':World}(hk:fr.kind ≠ .early)(hr:s.run P w = .ok .skip w') :
  stepG.apply P true fr cs none s w = .go (aX (fr.finish undef) cs) w' (seen P fr.fn (s.events P w #[])):=by
 have dy:(fr.kind == CallKind.early)=false:=by simpa using hk
 simp [stepG.apply,hr,aX,dy,GStep.after]
theorem E7{fr:Frame}{cs:List Frame}{s:Sem Next}{w w':World}{f:FuncId}{args:Array Value}{ops:Array Oper}{is:List Nat}{k:List Item}(ht:fr.todo = .inRegion ops is::k)(hk:fr.kind ≠ .early)(hr:s.run P w = .ok (.enter f args) w') :
  stepG.apply P true fr cs none s w = .go (aX (Frame.enter P f args .normal) (fr::cs)) w' (seen P fr.fn (s.events P w #[])):=by
 have dy:(fr.kind == CallKind.early)=false:=by simpa using hk
 simp [stepG.apply,hr,aX,dy,GStep.after,ht]
theorem U.op{ops:Array Oper}{i:Nat}{rest:List Nat}{o:Oper}(ho:ops[i]? = some o)(hw:cF ops st o=some true)(hd:mc o.op=false)(hk:c.kind ≠ .early)
  (h:∀ ρ,Knows st ρ→aL P B R H (execOp ρ o) λ nx R' H'=>∃ v,(nx = .value v∨(nx = .skip∧v=undef))∧bQ o.dst c.n∧∃ st',aF (bT o.dst v st) st'∧U ab c R' H' st' (.inRegion ops rest::k)) :
  U ab c R H st (.inRegion ops (i::rest)::k):=by
 intro tmps ht
 refine ab.step rfl λ w pn=>?_
 obtain ⟨nx,w',R',H',h1,h2,h3,v,hv,kV,st',hs,jq⟩:=h _ (ht.knows c _) w pn
 refine ⟨aX (aV c (fg o.dst v tmps) (.inRegion ops rest::k)) c.cs,w',seen P c.fn ((execOp (aV c tmps (.inRegion ops (i::rest)::k)).eval o).events P w #[]),R',H',?_,λ e he=>h2 e (mem_seen he),h3,jq _ ((ht.put v kV).sub hs)⟩
 rw [oN ho (jY ht hw) hd,← pa (rest:=rest) (k:=k) (c:=c) (tmps:=tmps) (v:=v) ho]
 rcases hv with rfl | ⟨rfl,rfl⟩
 ·exact zB hk h1
 ·exact N1 hk h1
theorem U.unwanted{ops:Array Oper}{i:Nat}{rest:List Nat}{o:Oper}{st':St}(ho:ops[i]? = some o)(hw:cF ops st o=some false)(kV:bQ o.dst c.n)(hs:aF (bT o.dst undef st) st')
  (h:U ab c R H st' (.inRegion ops rest::k)):U ab c R H st (.inRegion ops (i::rest)::k) :=
 λ _ ht=>Jd.ctl rfl (λ _=>T4 ho (jY ht hw)) (h _ ((ht.put undef kV).sub hs))
def ax(ab:Jd P B main)(f:FuncId)(args:Array Value)(R:av)(H:ai)(Post:Value→av→ai→Prop):Prop :=
 ∀ fr cs,(∀ v R' H',Post v R' H'→ab.J R' H' (aX (fr.finish v) cs))→ab.J R H (aX (Frame.enter P f args .normal) (fr::cs))
theorem ax.mono{f:FuncId}{args:Array Value}{Post EX:Value→av→ai→Prop}(h:ax ab f args R H Post)(hp:∀ v R' H',Post v R' H'→EX v R' H'):ax ab f args R H EX :=
 λ fr cs hk=>h fr cs λ v R' H' hv=>hk v R' H' (hp v R' H' hv)
theorem U.enters{ops:Array Oper}{i:Nat}{rest:List Nat}{o:Oper}{f:FuncId}{args:Array Value}{Post:Value→av→ai→Prop}(ho:ops[i]? = some o)(hw:cF ops st o=some true)(hd:mc o.op=false)(hk:c.kind ≠ .early)(kV:bQ o.dst c.n)
  (he:∀ ρ,Knows st ρ→ah P (execOp ρ o) (.enter f args)) (hf:ax ab f args R H Post)
  (h:∀ v R' H',Post v R' H'→∃ st',aF (bT o.dst v st) st'∧U ab c R' H' st' (.inRegion ops rest::k)) :
  U ab c R H st (.inRegion ops (i::rest)::k):=by
 intro tmps ht
 refine ab.step rfl λ w pn=>?_
 have hv:=he _ (ht.knows c (.inRegion ops (i::rest)::k)) w
 refine ⟨aX (Frame.enter P f args .normal) (aV c tmps (.inRegion ops (i::rest)::k)::c.cs),w,seen P c.fn ((execOp (aV c tmps (.inRegion ops (i::rest)::k)).eval o).events P w #[]),R,H,?_,?_,fw.refl pn,hf _ _ λ v R' H' hp=>?_⟩
 ·rw [oN ho (jY ht hw) hd]
  exact E7 rfl hk hv.1
 ·intro e F5
  have:=mem_seen F5
  rw [hv.2] at this
  simp at this
 ·obtain ⟨st',hs,jq⟩:=h v R' H' hp
  rw [pa ho]
  exact jq _ ((ht.put v kV).sub hs)
def n9(ab:Jd P B main)(c:Ctx)(o:Oper)(R:av)(H:ai)(st:St)(C:av→ai→St→Prop):Prop :=
 mc o.op=false∧bQ o.dst c.n ∧
  ((∀ ρ,Knows st ρ→aL P B R H (execOp ρ o) λ nx R' H'=>∃ v,(nx = .value v∨(nx = .skip∧v=undef))∧∃ st',aF (bT o.dst v st) st'∧C R' H' st') ∨
   (∃ f args,(∀ ρ,Knows st ρ→ah P (execOp ρ o) (.enter f args))∧ax ab f args R H λ v R' H'=>∃ st',aF (bT o.dst v st) st'∧C R' H' st'))
def aW(P:Program)(B:Base)(c:Ctx)(o:Oper)(R:av)(H:ai)(st:St)(C:av→ai→St→Prop):Prop :=
 mc o.op=false∧bQ o.dst c.n∧∀ ρ,Knows st ρ→aL P B R H (execOp ρ o) λ nx R' H'=>∃ v,(nx = .value v∨(nx = .skip∧v=undef))∧∃ st',aF (bT o.dst v st) st'∧C R' H' st'
theorem aW.to{o:Oper}{C:av→ai→St→Prop}(h:aW P B c o R H st C):n9 ab c o R H st C:=⟨h.1,h.2.1,.inl h.2.2⟩
theorem U.step{ops:Array Oper}{i:Nat}{rest:List Nat}{o:Oper}(ho:ops[i]? = some o)(hw:cF ops st o=some true)(hk:(c.kind == CallKind.early)=false)
  (h:n9 ab c o R H st λ R' H' st'=>U ab c R' H' st' (.inRegion ops rest::k)):U ab c R H st (.inRegion ops (i::rest)::k):=by
 obtain ⟨hd,kV,h | ⟨f,args,h1,h2⟩⟩:=h
 ·exact U.op ho hw hd (by simpa using hk) λ ρ ba=>(h ρ ba).mono λ nx R' H' ⟨v,hv,hx⟩=>⟨v,hv,kV,hx⟩
 ·exact U.enters ho hw hd (by simpa using hk) kV h1 h2 λ v R' H' hx=>hx
theorem U.gR{ops:Array Oper}{i:Nat}{rest:List Nat}{o:Oper}(ho:ops[i]? = some o)(hw:cF ops st o=some true)(hk:(c.kind == CallKind.early)=false)
  (h:aW P B c o R H st λ R' H' st'=>U ab c R' H' st' (.inRegion ops rest::k)):U ab c R H st (.inRegion ops (i::rest)::k):=U.step ho hw hk h.to
theorem U.awv{id n:Nat}{is:List Nat}{ops:Array Oper}(hn:ops.size=n)(lH:List.range n=is)(h:U ab c R H st (.inRegion ops is::k)):U ab c R H st (.code (.region id ops false)::k):=by
 subst hn; subst lH; exact U.region h
def tB:Nat→List Value→St
 | _,[]=>[]
 | i,v::r=>(i,v)::tB (i+1) r
theorem E8:∀ (args:List Value) (i t:Nat) (v:Value),(tB i args).lookup t=some v→i≤t∧args[t - i]? = some v
 | [],_,_,_,h=>by cases h
 | a::r,i,t,v,h=>by
  simp only [tB,List.lookup_cons] at h
  split at h
  ·rename_i heq
   cases h
   have:t=i:=by simpa using heq
   subst this
   simp
  ·rename_i heq
   have eB:t≠i:=by simpa using heq
   obtain ⟨h1,h2⟩:=E8 r (i+1) t v h
   refine ⟨by omega,?_⟩
   have:t - i=(t - (i+1))+1:=by omega
   rw [this]
   simpa using h2
theorem ax.bl{f:FuncId}{fn:Func}{body:Code}{args:List Value}{n:Nat}{Post:Value→av→ai→Prop}(hf:P.funcs[f]? = some fn)(hb:fn.body=some body)(pX:fn.ntmps=n)(hn:Nat.ble args.length n=true)
  (h:∀ fr cs,(∀ v R' H',Post v R' H'→ab.J R' H' (aX (fr.finish v) cs))→U ab ⟨f,.normal,none,n,[],fr::cs⟩ R H (tB 0 args) [.code body]):ax ab f args.toArray R H Post:=by
 subst pX
 intro fr cs hk
 have hn:args.length≤fn.ntmps:=by simpa [Nat.ble_eq] using hn
 have:=h fr cs hk (args.toArray++Array.replicate (fn.ntmps - args.length) undef) ⟨by simp; omega,λ t v ht=>?_⟩
 ·have e:Frame.enter P f args.toArray .normal=aV ⟨f,.normal,none,fn.ntmps,[],fr::cs⟩ (args.toArray++Array.replicate (fn.ntmps - args.length) undef) [.code body]:=by
   simp [Frame.enter,aV,hf,hb]
  rw [e]
  exact this
 ·obtain ⟨_,h2⟩:=E8 args 0 t v ht
  have bJ:t < args.length:=by
   have:=(List.getElem?_eq_some_iff.1 h2).1
   simpa using this
  rw [Array.getElem?_append_left (by simpa using bJ)]
  simpa using h2
def wD(st:St):List ResultVar→Option (List Value)
 | []=>some []
 | .tmp t::r=>match st.lookup t,wD st r with
  | some v,some vs=>some (v::vs)
  | _,_=>none
 | .cell _ _::_=>none
def gG:List Value→Value
 | [v]=>v
 | vs=>.tuple vs.toArray
theorem abX{st:St}{tmps:Array Value}{n:Nat}(ht:cL n st tmps):∀ (l:List ResultVar) (vs:List Value),wD st l=some vs →
  ah P (l.mapM (m:=Sem) λ
   | .tmp t=>pure (tmps.getD t undef)
   | .cell a t=>do loadVar t (← asAddr (tmps.getD a undef))) vs
 | [],vs,h=>by cases h; exact ah.pure _
 | .tmp t::r,vs,h=>by
  simp only [wD] at h
  cases hl:st.lookup t with
  | none=>simp [hl] at h
  | some v =>
   cases hr:wD st r with
   | none=>simp [hl,hr] at h
   | some us =>
    simp only [hl,hr,Option.some.injEq] at h
    subst h
    rw [List.mapM_cons]
    refine ah.bind (a:=v) ?_ (ah.bind (abX ht r us hr) (ah.pure _))
    have:tmps.getD t undef=v:=by simp [Array.getD_eq_getD_getElem?,ht.2 t v hl]
    show ah P (pure (tmps.getD t undef)) v
    rw [this]; exact ah.pure _
 | .cell _ _::_,_,h=>by cases h
theorem Un{fn:Func}{st:St}{tmps:Array Value}{n:Nat}{vs:List Value}(ht:cL n st tmps)(h:wD st fn.results.toList=some vs):ah P (results fn tmps) (gG vs):=by
 unfold results
 rw [← Array.toArray_toList (xs:=fn.results),List.mapM_toArray]
 refine ah.bind (ah.map (abX ht _ _ h)) ?_
 cases vs with
 | nil=>exact ah.pure _
 | cons v r=>cases r with
  | nil=>exact ah.pure _
  | cons _ _=>exact ah.pure _
end
end Go.Lg
namespace Go.Lg
open Go.Conc
theorem pK(b o n:Nat):(⟨b,o,none⟩:Addr).add n=⟨b,o+n,none⟩:=by
 unfold Addr.add; split
 ·subst_vars; rfl
 ·rfl
def fU(P:Program)(s f off:Nat):Prop:=∀ b o:Nat,ah P (Instr.fieldAt s (.pointer (some ⟨b,o,none⟩)) f) (.pointer (some ⟨b,o+off,none⟩))
def lV(P:Program)(t e n:Nat):Prop:=P.underlying t=some (.slice e)∧ah P (sizeOf e) n
def rK(P:Program)(t len e n:Nat):Prop:=P.underlying t=some (.array len e)∧ah P (sizeOf e) n
def aec(z:Int):Prop:=-9223372036854775808≤z∧z≤9223372036854775807
theorem acE{z:Int}(h:aec z):IntKind.wrap .i64 z=z:=by
 obtain ⟨h1,h2⟩:=h
 simp only [IntKind.wrap,IntKind.bits,IntKind.signed]
 simp
 omega
section
variable {P:Program} {B:Base} {main:Bool} {ab:Jd P B main} {c:Ctx} {R:av} {H:ai} {st st':St} {o:Oper} {C:av→ai→St→Prop}
theorem Ox.val{v:Value}(lF:mc o.op=false)(hd:bQ o.dst c.n)
  (hv:∀ ρ,Knows st ρ→ah P (execOp ρ o) (.value v)) (hs:aF (bT o.dst v st) st') (h:C R H st'):aW P B c o R H st C :=
 ⟨lF,hd,λ ρ ba=>(hv ρ ba).ok ⟨v,.inl rfl,st',hs,h⟩⟩
theorem Ox.kR{s:(Operand→Value)→Sem Value}{v:Value}(lF:mc o.op=false)(hd:bQ o.dst c.n)
  (he:∀ ρ,execOp ρ o=(do let x ← s ρ; pure (.value x))) (hv:∀ ρ,Knows st ρ→ah P (s ρ) v) (hs:aF (bT o.dst v st) st') (h:C R H st'):aW P B c o R H st C :=
 Ox.val lF hd (λ ρ ba=>by rw [he]; exact ah.bind (hv ρ ba) (ah.pure _)) hs h
theorem Ox.mem{s:(Operand→Value)→Sem Value}(lF:mc o.op=false)(hd:bQ o.dst c.n)
  (he:∀ ρ,execOp ρ o=(do let x ← s ρ; pure (.value x)))
  (hv:∀ ρ,Knows st ρ→aL P B R H (s ρ) λ v R' H'=>∃ st',aF (bT o.dst v st) st'∧C R' H' st'):aW P B c o R H st C :=
 ⟨lF,hd,λ ρ ba=>by
  rw [he]
  exact aL.bind ((hv ρ ba).mono λ v R' H' ⟨st',hs,h⟩=>aL.pure ⟨v,.inl rfl,st',hs,h⟩)⟩
theorem Ox.Ln{s:(Operand→Value)→Sem Unit}(lF:mc o.op=false)(hd:o.dst=none)
  (he:∀ ρ,execOp ρ o=(do s ρ; pure .skip)) (hs:aF st st')
  (hv:∀ ρ,Knows st ρ→aL P B R H (s ρ) λ _ R' H'=>C R' H' st'):aW P B c o R H st C :=
 ⟨lF,by rw [hd]; rfl,λ ρ ba=>by
  rw [he]
  exact aL.bind ((hv ρ ba).mono λ v R' H' h=>aL.pure ⟨undef,.inr ⟨rfl,rfl⟩,st',by rw [hd]; exact hs,h⟩)⟩
theorem Ox.move{x:Operand}{v:Value}(an:o.op = .move x)(hx:bg st x=some v)(hd:bQ o.dst c.n)
  (hs:aF (bT o.dst v st) st') (h:C R H st'):aW P B c o R H st C :=
 Ox.val (by rw [an]; rfl) hd (λ ρ ba=>by simp only [execOp,an,ba x v hx]; exact ah.pure _) hs h
theorem Ox.assign{x:Operand}{v:Value}(an:o.op = .assign x)(hx:bg st x=some v)(hd:bQ o.dst c.n)
  (hs:aF (bT o.dst v st) st') (h:C R H st'):aW P B c o R H st C :=
 Ox.val (by rw [an]; rfl) hd (λ ρ ba=>by simp only [execOp,an,ba x v hx]; exact ah.pure _) hs h
theorem Ox.av6{x y z:Operand}{v:Value}(an:o.op = .pick x y z)(hx:bg st x=some (.bool true))(hy:bg st y=some v)(hd:bQ o.dst c.n)
  (hs:aF (bT o.dst v st) st') (h:C R H st'):aW P B c o R H st C :=
 Ox.val (by rw [an]; rfl) hd (λ ρ ba=>by
  simp only [execOp,an,ba x _ hx,ba y v hy,asBool]
  exact ah.bind (ah.pure true) (ah.pure _)) hs h
theorem Ox.av5{x y z:Operand}{v:Value}(an:o.op = .pick x y z)(hx:bg st x=some (.bool false))(hz:bg st z=some v)(hd:bQ o.dst c.n)
  (hs:aF (bT o.dst v st) st') (h:C R H st'):aW P B c o R H st C :=
 Ox.val (by rw [an]; rfl) hd (λ ρ ba=>by
  simp only [execOp,an,ba x _ hx,ba z v hz,asBool]
  exact ah.bind (ah.pure false) (ah.pure _)) hs h
theorem Ox.fieldAddr{x:Operand}{s f off b n:Nat}(an:o.op = .fieldAddr s x f)(hx:bg st x=some (.pointer (some ⟨b,n,none⟩)))(hf:fU P s f off)(hd:bQ o.dst c.n)
  (hs:aF (bT o.dst (.pointer (some ⟨b,n+off,none⟩)) st) st') (h:C R H st'):aW P B c o R H st C :=
 Ox.kR (s:=λ ρ=>Instr.fieldAt s (ρ x) f) (by rw [an]; rfl) hd (λ ρ=>by simp only [execOp,an]) (λ ρ ba=>by rw [ba x _ hx]; exact hf b n) hs h
theorem Um{t e n b m len cap:Nat}{kd:IntKind}{j:Nat}(ht:lV P t e n)(hj:j < len) :
  ah P (Instr.indexAt t (.slice (some ⟨b,m,none⟩) len cap) (.int kd (j:Int))) (.pointer (some ⟨b,m+j * n,none⟩)):=by
 unfold Instr.indexAt
 refine ah.bind (a:=(kd,(j:Int))) (ah.pure _) (ah.bind (ah.underlying ht.1) (ah.bind (a:=(some (⟨b,m,none⟩:Addr),len,e)) (ah.pure _) (ah.bind (ah.underlying ht.1) ?_)))
 have h1:(0:Int)≤(j:Int)∧(j:Int) < (len:Int):=by omega
 simp only [h1,and_self,if_true,Int.toNat_natCast]
 refine ah.bind ht.2 ?_
 rw [pK]
 exact ah.pure _
theorem ax0{t e n b m len:Nat}{kd:IntKind}{j:Nat}(ht:rK P t len e n)(hj:j < len) :
  ah P (Instr.indexAt t (.pointer (some ⟨b,m,none⟩)) (.int kd (j:Int))) (.pointer (some ⟨b,m+j * n,none⟩)):=by
 unfold Instr.indexAt
 refine ah.bind (a:=(kd,(j:Int))) (ah.pure _) (ah.bind (ah.underlying ht.1) (ah.bind (a:=(⟨b,m,none⟩:Addr)) (ah.pure _) (ah.bind (a:=(some (⟨b,m,none⟩:Addr),len,e)) (ah.pure _) (ah.bind (ah.underlying ht.1) ?_))))
 have h1:(0:Int)≤(j:Int)∧(j:Int) < (len:Int):=by omega
 simp only [h1,and_self,if_true,Int.toNat_natCast]
 refine ah.bind ht.2 ?_
 rw [pK]
 exact ah.pure _
theorem Bu(op:BinOp)(t:TypeId)(x y:Operand)(ka kb:IntKind)(a b:Int):ah P (eqGuard op t x y (.int ka a) (.int kb b)) ():=by
 unfold eqGuard
 cases op <;> exact ah.pure _
def OK:BinOp→Int→Int→Option Bool
 | .eql,x,y=>some (x == y)
 | .neq,x,y=>some (x != y)
 | .lss,x,y=>some (decide (x < y))
 | .leq,x,y=>some (decide (x≤y))
 | .gtr,x,y=>some (decide (x > y))
 | .geq,x,y=>some (decide (x ≥ y))
 | _,_,_=>none
theorem Ox.cmp{x y:Operand}{bo:BinOp}{t u:TypeId}{a b:Int}{kd:IntKind}{r:Bool}(an:o.op = .binOp bo t x y u)(hx:bg st x=some (.int kd a))(hy:bg st y=some (.int kd b))(hr:OK bo a b=some r)
  (hd:bQ o.dst c.n) (hs:aF (bT o.dst (.bool r) st) st') (h:C R H st'):aW P B c o R H st C :=
 Ox.kR (s:=λ ρ=>do eqGuard bo t x y (ρ x) (ρ y); binOp bo t (ρ x) (ρ y)) (by rw [an]; rfl) hd (λ ρ=>by simp only [execOp,an]) (λ ρ ba=>by
  rw [ba x _ hx,ba y _ hy]
  refine ah.bind (Bu _ _ _ _ _ _ _ _) ?_
  cases bo <;> simp only [OK,Option.some.injEq,reduceCtorEq] at hr <;> subst hr <;> simp only [binOp,ne_eq,not_true_eq_false,if_false] <;> exact ah.pure _) hs h
def N2:BinOp→Int→Int→Option Int
 | .add,x,y=>some (x+y)
 | .sub,x,y=>some (x - y)
 | .mul,x,y=>some (x * y)
 | _,_,_=>none
theorem Ox.not{x:Operand}{t:TypeId}{a:Bool}(an:o.op = .unOp .not t x)(hx:bg st x=some (.bool a))
  (hd:bQ o.dst c.n) (hs:aF (bT o.dst (.bool (!a)) st) st') (h:C R H st'):aW P B c o R H st C :=
 Ox.kR (s:=λ ρ=>Op.unary .not (ρ x)) (by rw [an]; rfl) hd (λ ρ=>by simp only [execOp,an]) (λ ρ ba=>by rw [ba x _ hx]; exact ah.pure _) hs h
theorem Ox.extract{x:Operand}{j:Nat}{vs:Array Value}{v:Value}(an:o.op = .extract x j)(hx:bg st x=some (.tuple vs))(hj:vs[j]? = some v)
  (hd:bQ o.dst c.n) (hs:aF (bT o.dst v st) st') (h:C R H st'):aW P B c o R H st C :=
 Ox.kR (s:=λ ρ=>Instr.extract (ρ x) j) (by rw [an]; rfl) hd (λ ρ=>by simp only [execOp,an]) (λ ρ ba=>by
  rw [ba x _ hx]
  simp only [Instr.extract,hj]; exact ah.pure _) hs h
theorem Ox.makeFunc{fn:Fn}{first captured:Array Operand}{vs us:Array Value}(an:o.op = .makeFunc fn first captured)(h1:first.toList.mapM (bg st)=some vs.toList)(h2:captured.toList.mapM (bg st)=some us.toList)
  (hd:bQ o.dst c.n) (hs:aF (bT o.dst (.func fn vs us) st) st') (h:C R H st'):aW P B c o R H st C :=
 Ox.kR (s:=λ ρ=>Instr.makeFunc fn (first.map ρ) (captured.map ρ)) (by rw [an]; rfl) hd (λ ρ=>by simp only [execOp,an]) (λ ρ ba=>by
  have key:∀ (l:List Operand) (r:List Value),l.mapM (bg st)=some r→l.map ρ=r:=by
   intro l
   induction l with
   | nil=>intro r hr; simpa using hr
   | cons a l ih =>
    intro r hr
    rw [List.mapM_cons] at hr
    cases ha:bg st a with
    | none=>simp [ha] at hr
    | some u =>
     cases hl:l.mapM (bg st) with
     | none=>simp [ha,hl] at hr
     | some us =>
      simp [ha,hl] at hr
      subst hr
      simp [ba a u ha,ih us hl]
  have e1:first.map ρ=vs:=by apply Array.ext'; simpa using key _ _ h1
  have e2:captured.map ρ=us:=by apply Array.ext'; simpa using key _ _ h2
  rw [e1,e2]
  exact ah.pure _) hs h
theorem Ox.len{x:Operand}{t e:TypeId}{a:Option Addr}{n cap:Nat}(an:o.op = .call ⟨.builtin .len,#[x],#[t]⟩)(hx:bg st x=some (.slice a n cap))(ht:P.underlying t=some (.slice e))
  (hd:bQ o.dst c.n) (hs:aF (bT o.dst (.int .i64 (n:Int)) st) st') (h:C R H st'):aW P B c o R H st C :=
 Ox.val (by rw [an]; rfl) hd (λ ρ ba=>by
  simp only [execOp,an]
  refine ah.bind (a:=⟨.builtin .len #[t] o.type (#[x].map λ | .const _=>true | _=>false),#[x].map ρ⟩) (ah.pure _) ?_
  simp only [invoke,builtin]
  refine ah.bind (a:=.int .i64 (n:Int)) ?_ (ah.pure _)
  have e:(#[x].map ρ)=#[.slice a n cap]:=by simp [ba x _ hx]
  rw [e]
  exact ah.bind (ah.underlying ht) (ah.pure _)) hs h
theorem Ox.K3{x:Operand}{t:TypeId}{s:ByteArray}(an:o.op = .call ⟨.builtin .len,#[x],#[t]⟩)(hx:bg st x=some (.string s))(ht:P.underlying t=some .string)
  (hd:bQ o.dst c.n) (hs:aF (bT o.dst (.int .i64 (s.size:Int)) st) st') (h:C R H st'):aW P B c o R H st C :=
 Ox.val (by rw [an]; rfl) hd (λ ρ ba=>by
  simp only [execOp,an]
  refine ah.bind (a:=⟨.builtin .len #[t] o.type (#[x].map λ | .const _=>true | _=>false),#[x].map ρ⟩) (ah.pure _) ?_
  simp only [invoke,builtin]
  refine ah.bind (a:=.int .i64 (s.size:Int)) ?_ (ah.pure _)
  have e:(#[x].map ρ)=#[.string s]:=by simp [ba x _ hx]
  rw [e]
  exact ah.bind (ah.underlying ht) (ah.pure _)) hs h
theorem Bs{f:FuncId}{fn:Func}{args:Array Value}(hf:P.funcs[f]? = some fn)(hn:(fn.name == "runtime.NumGoroutine")=false)(hb:fn.body.isNone=false):ah P (callFunc f args) (.enter f args):=by
 unfold callFunc
 refine ah.bind ah.program ?_
 simp only [hf,hn,hb]
 exact ah.pure _
structure bj (P:Program) (f:FuncId):Prop where
 ex:∃ fn,P.funcs[f]? = some fn∧(fn.name == "runtime.NumGoroutine")=false∧fn.body.isNone=false
def ia(st:St):List Operand→Option (List Value)
 | []=>some []
 | x::r=>match bg st x,ia st r with
  | some v,some vs=>some (v::vs)
  | _,_=>none
theorem zC{st:St}{ρ:Operand→Value}(ba:Knows st ρ):∀ (l:List Operand) (r:List Value),ia st l=some r→l.map ρ=r
 | [],r,h=>by cases h; rfl
 | x::l,r,h=>by
  simp only [ia] at h
  cases hx:bg st x with
  | none=>simp [hx] at h
  | some v =>
   cases hl:ia st l with
   | none=>simp [hx,hl] at h
   | some vs =>
    simp [hx,hl] at h
    subst h
    simp [ba x v hx,zC ba l vs hl]
theorem Ox.fx{ca:Call}{x:Operand}{f:FuncId}{first captured:Array Value}{vs:List Value}{args:Array Value}
  (an:o.op = .call ca) (hc:ca.callee = .value x) (hx:bg st x=some (.func (.func f) first captured)) (ha:ia st ca.args.toList=some vs) (he:bj P f) (Ez:first++vs.toArray++captured=args)
  (hd:bQ o.dst c.n) (hf:ax ab f args R H λ v R' H'=>∃ st',aF (bT o.dst v st) st'∧C R' H' st'):n9 ab c o R H st C :=
 ⟨by rw [an]; rfl,hd,.inr ⟨f,args,λ ρ ba=>by
  obtain ⟨fn,h1,h2,h3⟩:=he.ex
  simp only [execOp,an,resolve,hc,ba x _ hx,Deferred.ofValue]
  have e:ca.args.map ρ=vs.toArray:=by apply Array.ext'; simpa using zC ba _ _ ha
  refine ah.bind (a:=⟨.fn (.func f) captured,first++vs.toArray⟩) (by rw [e]; exact ah.pure _) ?_
  simp only [invoke,Ez]
  exact Bs h1 h2 h3,hf⟩⟩
end
end Go.Lg
namespace Go.Lg
open Go.Conc
def iK(P:Program)(t:TypeId)(cs:Array Value):Prop:=∃ z,ah P (zeroValue t) z∧z.cells=cs
def gB(P:Program)(t:TypeId):Prop:=ah P (isAgg t) false∧ah P (sizeOf t) 1
def mB(P:Program)(t:TypeId)(n:Nat):Prop:=ah P (isAgg t) true∧ah P (sizeOf t) n
def aM(R:av)(H:ai)(b o:Nat)(vs:List Value):Prop:=∀ j v,vs[j]? = some v→Cell R H ⟨b,o+j,none⟩ v
theorem aM.known{R:av}{H:ai}{b o n:Nat}{cs:Array Value}{e:TypeId}{fz:Nat × Nat}{vs:List Value}(hm:R b=some (Obj.cells cs e fz))(hv:(cs.toList.drop o).take n=vs):aM R H b o vs:=by
 intro j v hj
 refine ⟨rfl,cs,e,fz,.inl hm,?_⟩
 subst hv
 rw [List.getElem?_take] at hj
 split at hj
 ·rw [List.getElem?_drop] at hj
  simpa using hj
 ·cases hj
def ft(cs:Array Value):Nat→List Value→Array Value
 | _,[]=>cs
 | o,v::r=>ft (cs.setIfInBounds o v) (o+1) r
theorem H5:∀ (vs:List Value) (cs:Array Value) (o:Nat),(ft cs o vs).size=cs.size
 | [],_,_=>rfl
 | v::r,cs,o=>by simp only [ft]; rw [H5 r]; simp
theorem eP.mid{H H1 H':ai}{b:Nat}{o o' o'':Obj}(h:eP H b o o' H1)(k:eP H b o o'' H')(hn:(H.map (·.1)).Nodup):eP H1 b o' o'' H':=by
 induction h generalizing H' with
 | @here b o o' H =>
  cases k with
  | here=>exact .here
  | there k =>
   rw [List.map_cons,List.nodup_cons] at hn
   exact absurd (List.mem_map.2 ⟨_,k.mem,rfl⟩) hn.1
 | @there b o o' p H H1 hs ih =>
  cases k with
  | here =>
   rw [List.map_cons,List.nodup_cons] at hn
   exact absurd (List.mem_map.2 ⟨_,hs.mem,rfl⟩) hn.1
  | there k =>
   rw [List.map_cons,List.nodup_cons] at hn
   exact .there (ih k hn.2)
section
variable {P:Program} {B:Base} {main:Bool} {ab:Jd P B main} {c:Ctx} {R:av} {H H':ai} {st st':St} {o:Oper} {C:av→ai→St→Prop}
theorem aL.Ig{b:Nat}{e:TypeId}{K:Unit→av→ai→Prop}:∀ (vs:List Value) (cs:Array Value) (off i:Nat) (H H':ai),(∀ v∈vs,v.oneCell'=true)→off+i+vs.length≤cs.size →
  eP H b (.cells cs e (0,0)) (.cells (ft cs (off+i) vs) e (0,0)) H'→(H.map (·.1)).Nodup→K () R H'→aL P B R H (storeCells ⟨b,off,none⟩ vs i) K
 | [],cs,off,i,H,H',_,_,hs,hn,hk=>by
  have e1:H'=H:=by
   have:∀ {H H':ai} {o:Obj},eP H b o o H'→H'=H:=by
    intro H H' o h
    induction H generalizing H' with
    | nil=>cases h
    | cons p r ih =>
     cases h with
     | here=>rfl
     | there h=>rw [ih h]
   exact this hs
  subst e1
  simp only [storeCells]
  exact aL.pure hk
 | v::r,cs,off,i,H,H',h1,hl,hs,hn,hk=>by
  simp only [storeCells]
  simp only [List.length_cons] at hl
  have hex:∀ (H:ai) (o o':Obj),(b,o)∈H→∃ H1,eP H b o o' H1:=by
   intro H o o' hm
   induction H with
   | nil=>cases hm
   | cons p r ih =>
    rcases List.mem_cons.1 hm with rfl | hm
    ·exact ⟨_,.here⟩
    ·obtain ⟨H1,h1⟩:=ih hm
     exact ⟨_,.there h1⟩
  obtain ⟨H1,pY⟩:=hex H _ (.cells (cs.setIfInBounds (off+i) v) e (0,0)) hs.mem
  have hs2:eP H1 b (.cells (cs.setIfInBounds (off+i) v) e (0,0)) (.cells (ft cs (off+i) (v::r)) e (0,0)) H':=eP.mid pY hs hn
  refine aL.bind ?_
  rw [pK]
  refine aL.store (h1 v (by simp)) rfl (by show off+i < cs.size; omega) pY ?_
  exact aL.Ig r (cs.setIfInBounds (off+i) v) off (i+1) H1 H' (λ u hu=>h1 u (by simp [hu])) (by simp; omega) (by simpa [ft,Nat.add_assoc] using hs2) (by rw [pY.keys]; exact hn) hk
theorem aL.given{α:Type}{s:Sem α}{K:α→av→ai→Prop}(h:(H.map (·.1)).Nodup→aL P B R H s K):aL P B R H s K:=λ w hw=>h hw.nd w hw
theorem aL.storeVar{t:TypeId}{b off n:Nat}{e:TypeId}{v:Value}{cs:Array Value}{K:Unit→av→ai→Prop}(hn:ah P (sizeOf t) n)(Zs:v.cells.size=n)(h1:∀ u∈v.cells.toList,u.oneCell'=true)(hl:off+n≤cs.size)
  (hs:eP H b (.cells cs e (0,0)) (.cells (ft cs off v.cells.toList) e (0,0)) H') (hk:K () R H'):aL P B R H (storeVar t ⟨b,off,none⟩ v) K:=by
 refine aL.given λ dA=>?_
 unfold Go.storeVar
 refine ah.dM hn ?_
 simp only [Zs,ne_eq,not_true_eq_false,if_false]
 exact aL.Ig _ cs off 0 H H' h1 (by simp [Zs]; exact hl) (by simpa using hs) dA hk
theorem aL.loadCellsFrom{b off:Nat}{K:Array Value→av→ai→Prop}:∀ (vs:List Value) (i:Nat) (acc:Array Value),aM R H b (off+i) vs→K (acc++vs.toArray) R H→aL P B R H (loadCellsFrom ⟨b,off,none⟩ i vs.length acc) K
 | [],i,acc,_,hk=>by
  simp only [List.length_nil,Go.loadCellsFrom]
  exact aL.pure (by simpa using hk)
 | v::r,i,acc,hc,hk=>by
  simp only [List.length_cons,Go.loadCellsFrom]
  refine aL.bind ?_
  rw [pK]
  refine aL.load (v:=v) (by simpa using hc 0 v rfl) ?_
  refine aL.loadCellsFrom r (i+1) (acc.push v) (λ j u hj=>?_) (by simpa using hk)
  have:=hc (j+1) u (by simpa using hj)
  simpa [Nat.add_assoc,Nat.add_comm,Nat.add_left_comm] using this
theorem Ox.db{x:Operand}{t:TypeId}{b off:Nat}{v:Value}(an:o.op = .load t x)(hx:bg st x=some (.pointer (some ⟨b,off,none⟩)))(ht:gB P t)(hc:Cell R H ⟨b,off,none⟩ v)
  (hd:bQ o.dst c.n) (hs:aF (bT o.dst v st) st') (h:C R H st'):aW P B c o R H st C :=
 Ox.mem (s:=λ ρ=>Instr.loadAt t (ρ x)) (by rw [an]; rfl) hd (λ ρ=>by simp only [execOp,an]) (λ ρ ba=>by
  rw [ba x _ hx]
  simp only [Instr.loadAt,Instr.sureAddr,loadVar]
  refine ah.dM (ah.pure _) (ah.dM ht.1 ?_)
  exact aL.load hc ⟨st',hs,h⟩)
theorem Ox.bU{x:Operand}{t:TypeId}{b off n:Nat}{vs:List Value}(an:o.op = .load t x)(hx:bg st x=some (.pointer (some ⟨b,off,none⟩)))(ht:mB P t n)(hn:vs.length=n)(hc:aM R H b off vs)
  (hd:bQ o.dst c.n) (hs:aF (bT o.dst (.agg vs.toArray) st) st') (h:C R H st'):aW P B c o R H st C :=
 Ox.mem (s:=λ ρ=>Instr.loadAt t (ρ x)) (by rw [an]; rfl) hd (λ ρ=>by simp only [execOp,an]) (λ ρ ba=>by
  rw [ba x _ hx]
  simp only [Instr.loadAt,Instr.sureAddr,loadVar]
  refine ah.dM (ah.pure _) (ah.dM ht.1 ?_)
  simp only [if_true]
  refine ah.dM ht.2 (aL.bind ?_)
  subst hn
  exact aL.loadCellsFrom vs 0 #[] (by simpa using hc) (aL.pure ⟨st',by simpa using hs,h⟩))
theorem Ox.gS{x y:Operand}{t e:TypeId}{b off:Nat}{v:Value}{cs cs':Array Value}(an:o.op = .store t x y)(hx:bg st x=some (.pointer (some ⟨b,off,none⟩)))(hy:bg st y=some v)(ht:gB P t)(hv:v.oneCell'=true)(hs:eP H b (.cells cs e (0,0)) (.cells cs' e (0,0)) H')(hl:Nat.blt off cs.size=true)(pg:cs.setIfInBounds off v=cs')
  (hd:o.dst=none) (Af:aF st st') (h:C R H' st'):aW P B c o R H st C :=
 Ox.Ln (s:=λ ρ=>Instr.storeAt t (ρ x) (ρ y)) (by rw [an]; rfl) hd (λ ρ=>by simp only [execOp,an]) Af (λ ρ ba=>by
  rw [ba x _ hx,ba y _ hy]
  simp only [Instr.storeAt,Instr.sureAddr]
  refine ah.dM (ah.pure _) ?_
  have R6:v.cells=#[v]:=by cases v <;> first | rfl | (simp [Value.oneCell'] at hv)
  refine aL.storeVar (cs:=cs) (e:=e) ht.2 (by rw [R6]; rfl) (by rw [R6]; simpa using hv) (Nat.le_of_ble_eq_true hl) ?_ h
  rw [R6]
  simpa [ft,pg] using hs)
theorem Ox.bW{x y:Operand}{t e:TypeId}{b off n:Nat}{vs:Array Value}{cs cs':Array Value}(an:o.op = .store t x y)(hx:bg st x=some (.pointer (some ⟨b,off,none⟩)))(hy:bg st y=some (.agg vs))(ht:mB P t n)(hn:vs.size=n)(h1:∀ u∈vs.toList,u.oneCell'=true)(hs:eP H b (.cells cs e (0,0)) (.cells cs' e (0,0)) H')(hl:Nat.ble (off+n) cs.size=true)(pg:ft cs off vs.toList=cs')
  (hd:o.dst=none) (Af:aF st st') (h:C R H' st'):aW P B c o R H st C :=
 Ox.Ln (s:=λ ρ=>Instr.storeAt t (ρ x) (ρ y)) (by rw [an]; rfl) hd (λ ρ=>by simp only [execOp,an]) Af (λ ρ ba=>by
  rw [ba x _ hx,ba y _ hy]
  simp only [Instr.storeAt,Instr.sureAddr]
  refine ah.dM (ah.pure _) ?_
  exact aL.storeVar (cs:=cs) (e:=e) ht.2 hn h1 (Nat.le_of_ble_eq_true hl) (by simpa [Value.cells,pg] using hs) h)
theorem Ox.rT{x:Operand}{t:TypeId}{v:Value}(an:o.op = .box t x)(hx:bg st x=some v)(hv:v.cells=#[v])(hd:bQ o.dst c.n)
  (h:∀ b,R b=none→(∀ x,(b,x) ∉ H)→∃ st',aF (bT o.dst (.pointer (some ⟨b,0,none⟩)) st) st'∧C R ((b,.cells #[v] t)::H) st'):aW P B c o R H st C :=
 Ox.mem (s:=λ ρ=>Instr.box t (ρ x)) (by rw [an]; rfl) hd (λ ρ=>by simp only [execOp,an]) (λ ρ ba=>by
  rw [ba x _ hx]
  simp only [Instr.box,newVar,newRow,hv]
  exact aL.bind (aL.bind (aL.new λ b h1 h2=>aL.pure (aL.pure (h b h1 h2)))))
theorem Ox.WT{x:Operand}{t:TypeId}{vs:Array Value}(an:o.op = .box t x)(hx:bg st x=some (.agg vs))(hd:bQ o.dst c.n)
  (h:∀ b,R b=none→(∀ x,(b,x) ∉ H)→∃ st',aF (bT o.dst (.pointer (some ⟨b,0,none⟩)) st) st'∧C R ((b,.cells vs t)::H) st'):aW P B c o R H st C :=
 Ox.mem (s:=λ ρ=>Instr.box t (ρ x)) (by rw [an]; rfl) hd (λ ρ=>by simp only [execOp,an]) (λ ρ ba=>by
  rw [ba x _ hx]
  simp only [Instr.box,newVar,newRow,Value.cells]
  exact aL.bind (aL.bind (aL.new λ b h1 h2=>aL.pure (aL.pure (h b h1 h2)))))
theorem Ox.alloc{t:TypeId}{cs:Array Value}(an:o.op = .alloc t)(ht:iK P t cs)(hd:bQ o.dst c.n)
  (h:∀ b,R b=none→(∀ x,(b,x) ∉ H)→∃ st',aF (bT o.dst (.pointer (some ⟨b,0,none⟩)) st) st'∧C R ((b,.cells cs t)::H) st'):aW P B c o R H st C :=
 Ox.mem (s:=λ _=>Instr.alloc t true (.tuple #[])) (by rw [an]; rfl) hd (λ ρ=>by simp only [execOp,an]) (λ ρ ba=>by
  obtain ⟨z,hz,rfl⟩:=ht
  simp only [Instr.alloc,newVar,newRow]
  exact ah.dM hz (aL.bind (aL.bind (aL.new λ b h1 h2=>aL.pure (aL.pure (h b h1 h2))))))
def yI(st:St):List (Nat × Operand)→Option (List (Nat × Value))
 | []=>some []
 | (j,x)::r=>match bg st x,yI st r with
  | some v,some vs=>some ((j,v)::vs)
  | _,_=>none
theorem TM{ρ:Operand→Value}(ba:Knows st ρ):∀ (l:List (Nat × Operand)) (r:List (Nat × Value)),yI st l=some r→l.map (λ (j,x)=>(j,ρ x))=r
 | [],r,h=>by cases h; rfl
 | (j,x)::l,r,h=>by
  simp only [yI] at h
  cases hx:bg st x with
  | none=>simp [hx] at h
  | some v =>
   cases hl:yI st l with
   | none=>simp [hx,hl] at h
   | some vs =>
    simp [hx,hl] at h
    subst h
    simp [ba x v hx,TM ba l vs hl]
def tA(P:Program)(t:TypeId)(places:List (Nat × Nat))(z:Array Value):Prop :=
 iK P t z∧∃ fs:Array Field,P.underlying t=some (.struct fs)∧ah P (fs.mapM λ f=>do pure (f.offset,← sizeOf f.type)) places.toArray
theorem Ox.build{t:TypeId}{parts:Array (Nat × Operand)}{ps:List (Nat × Value)}{places:List (Nat × Nat)}{z cells:Array Value}(an:o.op = .build t parts)(ht:tA P t places z)(hp:yI st parts.toList=some ps)(hf:Instr.fill (places.toArray[·]?) z ps=some cells)
  (hd:bQ o.dst c.n) (hs:aF (bT o.dst (.agg cells) st) st') (h:C R H st'):aW P B c o R H st C :=
 Ox.kR (s:=λ ρ=>Instr.build t (parts.map λ (j,x)=>(j,ρ x))) (by rw [an]; rfl) hd (λ ρ=>by simp only [execOp,an]) (λ ρ ba=>by
  obtain ⟨⟨z0,hz,rfl⟩,fs,h1,h2⟩:=ht
  have e:(parts.map λ (j,x)=>(j,ρ x))=ps.toArray:=by apply Array.ext'; simpa using TM ba _ _ hp
  rw [e]
  unfold Instr.build
  refine ah.bind hz (ah.bind (ah.underlying h1) (ah.bind h2 ?_))
  simp only [hf]
  exact ah.pure _) hs h
def rM(P:Program)(t e n:Nat)(z:Array Value):Prop:=P.underlying t=some (.slice e)∧ah P (sizeOf e) n∧iK P e z∧z.size=n∧0 < n
theorem Ox.buildSlice{t e n len:Nat}{parts:Array (Nat × Operand)}{ps:List (Nat × Value)}{z base cells:Array Value}(an:o.op = .buildSlice t len parts)(ht:rM P t e n z)(hp:yI st parts.toList=some ps)(hlen:len * n≤16777216)
  (hb:(Array.range (len * n)).map (z[· % z.size]!)=base) (hf:Instr.fill (λ j=>some (j * n,n)) base ps=some cells) (hd:bQ o.dst c.n)
  (h:∀ b,R b=none→(∀ x,(b,x) ∉ H)→∃ st',aF (bT o.dst (.slice (some ⟨b,0,none⟩) len len) st) st'∧C R ((b,.cells cells e)::H) st'):aW P B c o R H st C :=
 Ox.mem (s:=λ ρ=>Instr.buildSlice t len (parts.map λ (j,x)=>(j,ρ x))) (by rw [an]; rfl) hd (λ ρ=>by simp only [execOp,an]) (λ ρ ba=>by
  subst hb
  obtain ⟨h1,h2,⟨z0,hz,rfl⟩,h3,h4⟩:=ht
  have ep:(parts.map λ (j,x)=>(j,ρ x))=ps.toArray:=by apply Array.ext'; simpa using TM ba _ _ hp
  rw [ep]
  unfold Instr.buildSlice
  refine ah.dM (ah.underlying h1) (ah.dM h2 ?_)
  have hl:¬ (len * n > 2 ^ 24):=by omega
  simp only [hl,if_false]
  have last:aL P B R H (do let a ← newRow e cells; pure (.slice (some a) len len)) λ v R' H'=>∃ st',aF (bT o.dst v st) st'∧C R' H' st':=by
   simp only [newRow]
   exact aL.bind (aL.bind (aL.new λ b h1 h2=>aL.pure (aL.pure (h b h1 h2))))
  by_cases h0:len * n=0
  ·simp only [h0,if_true]
   refine ah.dM (ah.pure _) ?_
   have hr:∀ f:Nat→Value,(Array.range 0).map f=#[]:=λ f=>by simp [Array.range]
   simp only [h0,hr] at hf ⊢
   simp only [hf]
   exact last
  ·simp only [h0,if_false]
   refine ah.dM hz (ah.dM (ah.pure _) ?_)
   simp only [hf]
   exact last)
end
end Go.Lg
namespace Go.Lg
open Go.Conc
def aT(R R':av):Prop:=∀ b o,R b=some o→R' b=some o
theorem aT.refl(R:av):aT R R:=λ _ _ h=>h
theorem aT.trans{R R' cy:av}(h:aT R R')(k:aT R' cy):aT R cy:=λ b o x=>k b o (h b o x)
section
variable {P:Program} {B:Base} {main:Bool} (ab:Jd P B main)
def zt(c:Ctx)(S:ai)(ops:Array Oper)(i:Nat)(tmps:Array Value)(R:av)(H:ai)(K:Array Value→av→ai→Prop):Prop :=
 ∃ o,ops[i]? = some o∧mc o.op=false ∧
  ((Region.wanted o (yielded ops tmps)=false∧K (fg o.dst undef tmps) R H) ∨
   (Region.wanted o (yielded ops tmps)=true ∧
   ((aL P B R H (execOp (aV c tmps []).eval o) λ nx R' H'=>∃ v,(nx = .value v∨(nx = .skip∧v=undef))∧aT R R'∧(∀ p∈S,p∈H→p∈H')∧K (fg o.dst v tmps) R' H') ∨
    (∃ f args,ah P (execOp (aV c tmps []).eval o) (.enter f args)∧ax ab f args R H λ v R' H'=>aT R R'∧(∀ p∈S,p∈H→p∈H')∧K (fg o.dst v tmps) R' H'))))
theorem J.given{R:av}{H:ai}{g:Goroutine}(hs:g.status = .running)(h:(∃ w,Fits B R H w)→ab.J R H g):ab.J R H g:=by
 by_cases hw:∃ w,Fits B R H w
 ·exact h hw
 ·exact ab.step hs λ w hf=>absurd ⟨w,hf⟩ hw
def m7(ops:Array Oper)(rem:List Nat)(i:Nat):Bool:=match ops[i]? with
 | some o=>o.after.all λ e=>!Region.binds .any e || !rem.contains e.on
 | none=>false
def Cb(c:Ctx)(S:Nat→ai)(ops:Array Oper)(Q:Array Value→av→ai→Prop):Nat→List Nat→Array Value→av→ai→Prop
 | 0,rem,t,R,H=>rem=[]∧Q t R H
 | n+1,rem,t,R,H=>(rem=[]∧Q t R H)∨(rem≠[]∧((∃ w,Fits B R H w)→∀ i∈rem,m7 ops rem i=true→zt ab c (S i) ops i t R H λ t' R' H'=>Cb c S ops Q n (rem.erase i) t' R' H'))
variable {ab}
def backward(ops:Array Oper):Bool:=(List.range ops.size).all λ i=>match ops[i]? with
 | some o=>o.after.all λ e=>!Region.binds .any e || decide (e.on < i)
 | none=>true
theorem Ya(c:Ctx)(tmps:Array Value)(todo:List Item):(aV c tmps todo).eval=(aV c tmps []).eval:=by
 funext x; cases x <;> rfl
theorem aeN{c:Ctx}{S:ai}{ops:Array Oper}{i:Nat}{rest:List Nat}{k:List Item}{tmps:Array Value}{R:av}{H:ai}{K:Array Value→av→ai→Prop}(hk:(c.kind == CallKind.early)=false)(h:zt ab c S ops i tmps R H K)
  (hK:∀ t R' H',K t R' H'→ab.J R' H' (aX (aV c t (.inRegion ops rest::k)) c.cs)):ab.J R H (aX (aV c tmps (.inRegion ops (i::rest)::k)) c.cs):=by
 obtain ⟨o,ho,hd,h⟩:=h
 have fy:(aV c tmps (.inRegion ops (i::rest)::k)).kind ≠ .early:=by show c.kind≠_; simpa using hk
 rcases h with ⟨h1,h2⟩ | ⟨h1,h2 | ⟨f,args,h2,h3⟩⟩
 ·exact Jd.ctl rfl (λ w=>T4 ho h1) (hK _ _ _ h2)
 ·refine ab.step rfl λ w pn=>?_
  obtain ⟨nx,w',R',H',e1,e2,e3,v,hv,_,_,hKK⟩:=h2 w pn
  refine ⟨aX (aV c (fg o.dst v tmps) (.inRegion ops rest::k)) c.cs,w',seen P c.fn ((execOp (aV c tmps []).eval o).events P w #[]),R',H',?_,λ e he=>e2 e (mem_seen he),e3,hK _ _ _ hKK⟩
  rw [oN ho h1 hd,← pa (rest:=rest) (k:=k) (c:=c) (tmps:=tmps) (v:=v) ho,Ya]
  rcases hv with rfl | ⟨rfl,rfl⟩
  ·exact zB fy e1
  ·exact N1 fy e1
 ·refine ab.step rfl λ w pn=>?_
  have hv:=h2 w
  refine ⟨aX (Frame.enter P f args .normal) (aV c tmps (.inRegion ops (i::rest)::k)::c.cs),w,seen P c.fn ((execOp (aV c tmps []).eval o).events P w #[]),R,H,?_,?_,fw.refl pn,h3 _ _ λ v R' H' hp=>?_⟩
  ·rw [oN ho h1 hd,Ya]
   exact E7 rfl fy hv.1
  ·intro e F5
   have:=mem_seen F5
   rw [hv.2] at this
   simp at this
  ·rw [pa ho]
   exact hK _ _ _ hp.2.2
def EI(ops:Array Oper)(listed:Array Bool)(rem:List Nat):Prop:=listed.size=ops.size∧rem.Nodup∧(∀ i,i∈rem↔(i < ops.size∧listed.getD i true=false))
theorem ajE{listed:Array Bool}{i j:Nat}{d:Bool}(hi:i < listed.size):(listed.setIfInBounds i true).getD j d=if i=j then true else listed.getD j d:=by
 simp only [Array.getD_eq_getD_getElem?]
 by_cases h:i=j
 ·subst h; simp [hi]
 ·rw [if_neg h,Array.getElem?_setIfInBounds_ne h]
theorem EI.erase{ops:Array Oper}{listed:Array Bool}{rem:List Nat}(h:EI ops listed rem){i:Nat}(hi:i∈rem):EI ops (listed.setIfInBounds i true) (rem.erase i):=by
 obtain ⟨h1,h2,h3⟩:=h
 have bJ:i < listed.size:=by rw [h1]; exact ((h3 i).1 hi).1
 refine ⟨by simp [h1],h2.erase _,λ j=>?_⟩
 rw [h2.mem_erase_iff,h3 j,ajE bJ]
 by_cases e:i=j
 ·subst e; simp
 ·simp [e,Ne.symm e]
theorem ZV:∀ (l:List Nat),l≠[]→∃ m∈l,∀ x∈l,m≤x
 | [],h=>absurd rfl h
 | [a],_=>⟨a,by simp,by simp⟩
 | a::b::r,_=>by
  obtain ⟨m,hm,hl⟩:=ZV (b::r) (by simp)
  by_cases h:a≤m
  ·exact ⟨a,by simp,λ x hx=>by
    rcases List.mem_cons.1 hx with rfl | hx
    ·exact Nat.le_refl _
    ·exact Nat.le_trans h (hl x hx)⟩
  ·exact ⟨m,List.mem_cons_of_mem _ hm,λ x hx=>by
    rcases List.mem_cons.1 hx with rfl | hx
    ·omega
    ·exact hl x hx⟩
theorem VP{c:Ctx}{S:Nat→ai}{ops:Array Oper}{k:List Item}{Q:Array Value→av→ai→Prop}(hk:(c.kind == CallKind.early)=false)(hb:backward ops=true)
  (hQ:∀ t R H,Q t R H→ab.J R H (aX (aV c t k) c.cs)):∀ (fuel t:Nat) (listed:Array Bool) (acc:List Nat) (rem:List Nat) (tmps:Array Value) (R:av) (H:ai),EI ops listed rem→rem.length≤fuel →
   Cb ab c S ops Q fuel rem tmps R H→∃ is,Region.linearise.go .any ops fuel t listed acc=acc.reverse++is∧ab.J R H (aX (aV c tmps (.inRegion ops is::k)) c.cs)
 | 0,t,listed,acc,rem,tmps,R,H,_,_,h=>⟨[],by simp [Region.linearise.go],Jd.ctl rfl (λ w=>by simp [stepG,stepG.exec,aX,aV]) (hQ _ _ _ h.2)⟩
 | fuel+1,t,listed,acc,rem,tmps,R,H,hA,hl,h=>by
  generalize Kz:((List.range ops.size).filter λ i=>!listed.getD i true && ((ops[i]?).map (·.after.all λ e=>!Region.binds .any e || listed.getD e.on false)).getD false)=rs
  have l7:∀ i,i∈rs→i∈rem∧m7 ops rem i=true:=by
   intro i hi
   rw [← Kz] at hi
   simp only [List.mem_filter,List.mem_range,Bool.and_eq_true,Bool.not_eq_true'] at hi
   obtain ⟨h1,h2,h3⟩:=hi
   refine ⟨(hA.2.2 i).2 ⟨h1,h2⟩,?_⟩
   unfold m7
   cases ho:ops[i]? with
   | none=>simp [ho] at h3
   | some o =>
    simp only [ho,Option.map_some,Option.getD_some,Array.all_eq_true_iff_forall_mem] at h3 ⊢
    intro e he
    have:=h3 e he
    rcases Bool.or_eq_true_iff.1 this with x | x
    ·simp [x]
    ·have hn:e.on ∉ rem:=λ hm=>by
      have:=((hA.2.2 e.on).1 hm).2
      have bJ:e.on < listed.size:=by rw [hA.1]; exact ((hA.2.2 e.on).1 hm).1
      simp only [Array.getD_eq_getD_getElem?,Array.getElem?_eq_getElem bJ,Option.getD_some] at this x
      rw [x] at this; cases this
     simp [hn]
  rcases h with ⟨rfl,hq⟩ | ⟨eB,tq⟩
  ·have am6:rs=[]:=by
    cases rs with
    | nil=>rfl
    | cons a r=>exact absurd (l7 a (by simp)).1 (by simp)
   refine ⟨[],?_,Jd.ctl rfl (λ w=>by simp [stepG,stepG.exec,aX,aV]) (hQ _ _ _ hq)⟩
   unfold Region.linearise.go
   simp only [Kz,am6]
   simp
  ·
   have am7:rs≠[]:=by
    obtain ⟨m,hm,amz⟩:=ZV rem eB
    have Qm:=((hA.2.2 m).1 hm).1
    have:m∈rs:=by
     rw [← Kz]
     simp only [List.mem_filter,List.mem_range,Bool.and_eq_true,Bool.not_eq_true']
     refine ⟨Qm,((hA.2.2 m).1 hm).2,?_⟩
     have ho:ops[m]? = some ops[m]:=Array.getElem?_eq_getElem Qm
     simp only [ho,Option.map_some,Option.getD_some,Array.all_eq_true_iff_forall_mem]
     intro e he
     unfold backward at hb
     rw [List.all_eq_true] at hb
     have fQ:=hb m (List.mem_range.2 Qm)
     simp only [ho,Array.all_eq_true_iff_forall_mem] at fQ
     rcases Bool.or_eq_true_iff.1 (fQ e he) with x | x
     ·simp [x]
     ·have bJ:e.on < m:=by simpa using x
      have hn:e.on ∉ rem:=λ Gg=>by have:=amz _ Gg; omega
      have hl':e.on < listed.size:=by rw [hA.1]; omega
      have h1:listed.getD e.on true=true:=by
       cases hh:listed.getD e.on true with
       | true=>rfl
       | false=>exact absurd ((hA.2.2 e.on).2 ⟨by omega,hh⟩) hn
      simp only [Array.getD_eq_getD_getElem?,Array.getElem?_eq_getElem hl',Option.getD_some] at h1 ⊢
      simp [h1]
    intro e; rw [e] at this; cases this
   have hlen:t % rs.length < rs.length:=Nat.mod_lt _ (by
    cases rs with
    | nil=>exact absurd rfl am7
    | cons _ _=>simp)
   have hi:rs[t % rs.length]? = some rs[t % rs.length]:=List.getElem?_eq_getElem hlen
   generalize rs[t % rs.length]=i at hi
   obtain ⟨P9,l8⟩:=l7 i (List.mem_of_getElem? hi)
   have QV:=λ hw=>tq hw i P9 l8
   have bJ:(rem.erase i).length≤fuel:=by rw [List.length_erase_of_mem P9]; omega
   have hgo:∀ Jg,∃ is,Region.linearise.go .any ops fuel (t / rs.length) (listed.setIfInBounds i true) Jg=Jg.reverse++is:=λ Jg=>⟨_,linearise_go_acc .any ops fuel (t / rs.length) (listed.setIfInBounds i true) Jg⟩
   obtain ⟨is,lH⟩:=hgo (i::acc)
   refine ⟨i::is,?_,?_⟩
   ·rw [Region.linearise.go]
    simp only [Kz,hi]
    rw [lH]; simp
   ·refine J.given ab rfl λ hw=>?_
    refine aeN hk (QV hw) λ t' R' H' hK=>?_
    obtain ⟨qb,h1,h2⟩:=VP hk hb hQ fuel (t / rs.length) (listed.setIfInBounds i true) (i::acc) (rem.erase i) t' R' H' (hA.erase P9) bJ hK
    rw [lH] at h1
    have:is=qb:=by simpa using h1
    rw [this]; exact h2
end
section
variable {P:Program} {B:Base} {main:Bool} {ab:Jd P B main}
def noSelect(o:Oper):Bool:=match o.op with | .select _ _=>false | _=>true
def looks(ops:Array Oper)(o:Oper):List Nat :=
 (o.op.operands.toList.filterMap λ | .tmp t=>some t | _=>none)++(match o.guard with | some (j,_)=>((ops[j]?).bind (·.dst)).toList | none=>[])
def BR(ops:Array Oper)(a b:Oper):Bool :=
 (match a.dst with | some d=>!(looks ops b).contains d && b.dst != some d | none=>true) && (match b.dst with | some d=>!(looks ops a).contains d | none=>true)
theorem awa{a b:Option Tmp}{v u:Value}{t:Array Value}(h:∀ d,a=some d→b≠some d):fg a v (fg b u t)=fg b u (fg a v t):=by
 cases a with
 | none=>rfl
 | some x=>cases b with
  | none=>rfl
  | some y =>
   have eB:x≠y:=λ e=>h x rfl (by rw [e])
   simp only [fg]
   exact Array.setIfInBounds_comm u v (Ne.symm eB)
theorem aii{c:Ctx}{t:Array Value}{dst:Option Tmp}{v:Value}{x:Operand}(h:∀ d,dst=some d→x ≠ .tmp d):(aV c (fg dst v t) []).eval x=(aV c t []).eval x:=by
 cases dst with
 | none=>rfl
 | some d=>cases x with
  | tmp y =>
   have eB:d≠y:=λ e=>h d rfl (by rw [e])
   simp only [aV,Frame.eval,fg,Array.getD_eq_getD_getElem?]
   rw [Array.getElem?_setIfInBounds_ne eB]
  | _=>rfl
theorem Yr{c:Ctx}{ops:Array Oper}{t:Array Value}{dst:Option Tmp}{v:Value}{o:Oper}(hs:noSelect o=true)(h:∀ d,dst=some d→d ∉ looks ops o):execOp (aV c (fg dst v t) []).eval o=execOp (aV c t []).eval o:=by
 refine execOp_congr o (λ cs b e=>by rw [noSelect,e] at hs; cases hs) λ x hx=>aii λ d hd e=>h d hd ?_
 subst e
 unfold looks
 exact List.mem_append_left _ (List.mem_filterMap.2 ⟨_,Array.mem_toList_iff.2 hx,rfl⟩)
theorem acz{ops:Array Oper}{t:Array Value}{dst:Option Tmp}{v:Value}{o:Oper}(h:∀ d,dst=some d→d ∉ looks ops o):Region.wanted o (yielded ops (fg dst v t))=Region.wanted o (yielded ops t):=by
 unfold Region.wanted
 cases hg:o.guard with
 | none=>rfl
 | some g =>
  obtain ⟨j,want⟩:=g
  simp only [yielded]
  cases hd:(ops[j]?).bind (·.dst) with
  | none=>rfl
  | some d =>
   simp only [Option.bind_some]
   cases dst with
   | none=>rfl
   | some d' =>
    have eB:d'≠d:=λ e=>h d' rfl (by
     subst e
     unfold looks
     rw [hg]
     exact List.mem_append_right _ (by simp [hd]))
    simp only [fg]
    rw [Array.getElem?_setIfInBounds_ne eB]
theorem Wx{ops:Array Oper}{a b:Oper}(h:BR ops a b=true):(∀ d,a.dst=some d→d ∉ looks ops b∧b.dst≠some d)∧(∀ d,b.dst=some d→d ∉ looks ops a):=by
 unfold BR at h
 rw [Bool.and_eq_true] at h
 refine ⟨λ d hd=>?_,λ d hd=>?_⟩
 ·rw [hd] at h; simpa using h.1
 ·rw [hd] at h; simpa using h.2
theorem zt.fg{c:Ctx}{S:ai}{ops:Array Oper}{j:Nat}{oi oj:Oper}{t:Array Value}{v:Value}{R:av}{H:ai}{K1 K:Array Value→av→ai→Prop}(hj:ops[j]? = some oj)(hs:noSelect oj=true)(lE:BR ops oi oj=true){F:ai}(hS:∀ p∈F,p∈H)(YI:∀ p∈F,p∈S)
  (h:zt ab c S ops j (fg oi.dst v t) R H K1) (hK:∀ u R' H',aT R R'→(∀ p∈F,p∈H')→K1 (Go.Lg.fg oj.dst u (Go.Lg.fg oi.dst v t)) R' H'→K (Go.Lg.fg oj.dst u t) R' H'):zt ab c S ops j t R H K:=by
 obtain ⟨h1,h2⟩:=Wx lE
 obtain ⟨o,ho,hd,h⟩:=h
 obtain rfl:o=oj:=Option.some.inj (ho.symm.trans hj)
 rw [acz (λ d hd=>(h1 d hd).1),Yr hs (λ d hd=>(h1 d hd).1)] at h
 refine ⟨o,ho,hd,?_⟩
 rcases h with ⟨a,b⟩ | ⟨a,b | ⟨f,args,b,b'⟩⟩
 ·exact .inl ⟨a,hK _ _ _ (aT.refl _) hS b⟩
 ·exact .inr ⟨a,.inl (b.mono λ nx R' H' ⟨u,x,y,z,hk⟩=>⟨u,x,y,z,hK _ _ _ y (λ p hp=>z p (YI p hp) (hS p hp)) hk⟩)⟩
 ·exact .inr ⟨a,.inr ⟨f,args,b,b'.mono λ u R' H' ⟨y,z,hk⟩=>⟨y,z,hK _ _ _ y (λ p hp=>z p (YI p hp) (hS p hp)) hk⟩⟩⟩
def VE(P:Program)(B:Base)(S:ai)(R:av)(ρ:Operand→Value)(o:Oper)(v:Value):Prop :=
 ∀ R' H',aT R R'→(∀ p∈S,p∈H')→aL P B R' H' (execOp ρ o) λ nx cy dI=>(nx = .value v∨(nx = .skip∧v=undef))∧cy=R'∧dI=H'
def pB(ops:Array Oper)(rem:List Nat)(i:Nat)(D:List Nat):Bool :=
 rem.contains i && m7 ops rem i && !D.contains i && D.all (λ j=>rem.contains j && match ops[j]? with | some o=>o.after.any λ e=>Region.binds .any e && (e.on == i || D.contains e.on) | none=>false) &&
 (match ops[i]? with | some oi=>noSelect oi && rem.all (λ j=>j == i || D.contains j || match ops[j]? with | some oj=>noSelect oj && BR ops oi oj | none=>false) | none=>false)
theorem axC{ops:Array Oper}{rem:List Nat}{i j:Nat}{D:List Nat}(h:pB ops rem i D=true)(fX:j≠i)(pW:j ∉ D):pB ops (rem.erase j) i D=true:=by
 unfold pB at h ⊢
 simp only [Bool.and_eq_true,Bool.not_eq_true',List.all_eq_true,List.contains_iff_mem] at h ⊢
 obtain ⟨⟨⟨⟨h1,h2⟩,h3⟩,h4⟩,h5⟩:=h
 refine ⟨⟨⟨⟨(List.mem_erase_of_ne (Ne.symm fX)).2 h1,?_⟩,h3⟩,λ x hx=>⟨(List.mem_erase_of_ne (λ e=>pW (by rw [← e]; exact hx))).2 (h4 x hx).1,(h4 x hx).2⟩⟩,?_⟩
 ·unfold m7 at h2 ⊢
  cases ho:ops[i]? with
  | none=>simp [ho] at h2
  | some o =>
   simp only [ho,Array.all_eq_true_iff_forall_mem] at h2 ⊢
   intro e he
   have:=h2 e he
   rcases Bool.or_eq_true_iff.1 this with x | x
   ·simp [x]
   ·have hn:e.on ∉ rem:=by simpa using x
    have:e.on ∉ rem.erase j:=λ hm=>hn (List.mem_of_mem_erase hm)
    simp [this]
 ·cases ho:ops[i]? with
  | none=>simp [ho] at h5
  | some oi =>
   simp only [ho,Bool.and_eq_true,List.all_eq_true] at h5 ⊢
   exact ⟨h5.1,λ x hx=>h5.2 x (List.mem_of_mem_erase hx)⟩
theorem Ww{c:Ctx}{S:Nat→ai}{ops:Array Oper}{Q:Array Value→av→ai→Prop}{i:Nat}{oi:Oper}{D:List Nat}{N:ai}{v:Value}(hi:ops[i]? = some oi)(hd:mc oi.op=false):∀ (n:Nat) (rem:List Nat) (t:Array Value) (R:av) (H:ai),
  pB ops rem i D=true→rem.Nodup→(∀ p∈N,p∈H)→(∀ j∈rem,j≠i→j ∉ D→∀ p∈N,p∈S j)→((Region.wanted oi (yielded ops t)=true∧VE P B N R (aV c t []).eval oi v)∨(Region.wanted oi (yielded ops t)=false∧v=undef))→Cb ab c S ops Q n (rem.erase i) (fg oi.dst v t) R H→Cb ab c S ops Q (n+1) rem t R H:=by
 intro n
 induction n with
 | zero =>
  intro rem t R H jw dA hS vC pn h
  unfold pB at jw
  simp only [Bool.and_eq_true,List.contains_iff_mem] at jw
  have l7:i∈rem:=jw.1.1.1.1
  refine .inr ⟨(λ e=>by rw [e] at l7; cases l7),λ _ j hj _=>?_⟩
  have fX:j=i:=by
   by_cases e:j=i
   ·exact e
   ·exact absurd ((List.mem_erase_of_ne e).2 hj) (by rw [h.1]; simp)
  subst fX
  rcases pn with ⟨hw,hf⟩ | ⟨hw,rfl⟩
  ·exact ⟨oi,hi,hd,.inr ⟨hw,.inl ((hf R H (aT.refl _) hS).mono λ nx R' H' ⟨e1,e2,e3⟩=>by subst e2 e3; exact ⟨v,e1,aT.refl _,(λ _ _ h=>h),h⟩)⟩⟩
  ·exact ⟨oi,hi,hd,.inl ⟨hw,h⟩⟩
 | succ n ih =>
  intro rem t R H jw dA hS vC pn h
  have apz:=jw
  unfold pB at jw
  simp only [Bool.and_eq_true,List.contains_iff_mem,Bool.not_eq_true',List.all_eq_true] at jw
  obtain ⟨⟨⟨⟨l7,aFQ⟩,hiD⟩,hD⟩,tq⟩:=jw
  rw [hi] at tq
  simp only [Bool.and_eq_true,List.all_eq_true] at tq
  obtain ⟨amC,tq⟩:=tq
  refine .inr ⟨(λ e=>by rw [e] at l7; cases l7),λ R8 j hj yi=>?_⟩
  by_cases fX:j=i
  ·subst fX
   rcases pn with ⟨hw,hf⟩ | ⟨hw,rfl⟩
   ·exact ⟨oi,hi,hd,.inr ⟨hw,.inl ((hf R H (aT.refl _) hS).mono λ nx R' H' ⟨e1,e2,e3⟩=>by subst e2 e3; exact ⟨v,e1,aT.refl _,(λ _ _ h=>h),h⟩)⟩⟩
   ·exact ⟨oi,hi,hd,.inl ⟨hw,h⟩⟩
  ·
   have pW:j ∉ D:=λ pW=>by
    obtain ⟨_,hx⟩:=hD j pW
    unfold m7 at yi
    cases ho:ops[j]? with
    | none=>simp [ho] at hx
    | some o =>
     simp only [ho,Array.all_eq_true_iff_forall_mem] at yi hx
     rw [Array.any_eq_true'] at hx
     obtain ⟨e,he,hx⟩:=hx
     have hr:=yi e he
     rw [Bool.and_eq_true] at hx
     have xi:e.on∈rem:=by
      rcases Bool.or_eq_true_iff.1 hx.2 with x | x
      ·have:e.on=i:=by simpa using x
       rw [this]; exact l7
      ·have hxD:e.on∈D:=by simpa using x
       exact (hD _ hxD).1
     simp [hx.1,xi] at hr
   have yh:=tq j hj
   have Qj:∃ oj,ops[j]? = some oj∧noSelect oj=true∧BR ops oi oj=true:=by
    cases ho:ops[j]? with
    | none=>simp [fX,pW,ho] at yh
    | some oj=>simp [fX,pW,ho] at yh; exact ⟨oj,rfl,yh.1,yh.2⟩
   obtain ⟨oj,Zj,am8,lE⟩:=Qj
   rcases h with ⟨he,_⟩ | ⟨_,aoG⟩
   ·exact absurd ((List.mem_erase_of_ne fX).2 hj) (by rw [he]; simp)
   have amq:m7 ops (rem.erase i) j=true:=by
    unfold m7 at yi ⊢
    simp only [Zj,Array.all_eq_true_iff_forall_mem] at yi ⊢
    intro e he
    have:=yi e he
    rcases Bool.or_eq_true_iff.1 this with x | x
    ·simp [x]
    ·have hn:e.on ∉ rem:=by simpa using x
     have:e.on ∉ rem.erase i:=λ hm=>hn (List.mem_of_mem_erase hm)
     simp [this]
   have QV:=aoG R8 j ((List.mem_erase_of_ne fX).2 hj) amq
   obtain ⟨YY,YZ⟩:=Wx lE
   refine zt.fg (oi:=oi) (v:=v) Zj am8 lE hS (vC j hj fX pW) QV λ u R' H' hR PG hA=>?_
   refine ih (rem.erase j) (fg oj.dst u t) R' H' (axC apz fX pW) (dA.erase _) PG (λ x hx=>vC x (List.mem_of_mem_erase hx)) ?_ ?_
   ·rw [acz (λ d hd=>YZ d hd)]
    refine pn.imp (λ ⟨hw,hf⟩=>⟨hw,λ cy dI qQ akl=>?_⟩) id
    rw [Yr (ops:=ops) amC (λ d hd=>YZ d hd)]
    exact hf cy dI (hR.trans qQ) akl
   ·rw [List.erase_comm,awa (a:=oi.dst) (b:=oj.dst) (λ d hd=>(YY d hd).2)]
    exact hA
variable {c:Ctx} {S:Nat→ai} {ops:Array Oper} {k:List Item} {R:av} {H:ai} {st st':St} {rem:List Nat} {n:Nat}
def Any(ab:Jd P B main)(c:Ctx)(S:Nat→ai)(ops:Array Oper)(k:List Item)(n:Nat)(rem:List Nat)(R:av)(H:ai)(st:St):Prop :=
 rem.Nodup∧∀ tmps,cL c.n st tmps→Cb ab c S ops (λ t R H=>ab.J R H (aX (aV c t k) c.cs)) n rem tmps R H
theorem U.draw{id:Nat}{is:List Nat}{n:Nat}(S:Nat→ai)(hm:P.follows .mixedOrders=true)(hk:(c.kind == CallKind.early)=false)(hb:backward ops=true)(hn:ops.size=n)(lH:List.range n=is)(h:Any ab c S ops k n is R H st):U ab c R H st (.code (.region id ops true)::k):=by
 intro tmps ht
 subst hn; subst lH
 refine ab.step rfl λ w hw=>?_
 have hA:EI ops (Array.replicate ops.size false) (List.range ops.size):=⟨by simp,List.nodup_range,λ i=>by
  simp only [List.mem_range,Array.getD_eq_getD_getElem?]
  constructor
  ·intro hi; exact ⟨hi,by simp [hi]⟩
  ·exact λ x=>x.1⟩
 have key:=λ t=>VP (ab:=ab) (k:=k) hk hb (λ _ _ _ hq=>hq) ops.size t _ [] _ tmps R H hA (by simp) (h.2 tmps ht)
 obtain ⟨is,h1,h2⟩:=key (if (Question.order c.fn id).forced then 0 else (Question.order c.fn id).cut (w.tape w.drawn (.order c.fn id)))
 refine ⟨aX (aV c tmps (.inRegion ops is::k)) c.cs,{ w with drawn:=w.drawn+1 },#[],R,H,?_,by simp,⟨⟨hw.r,hw.h,hw.nd,hw.dj,hw.os,hw.tape,hw.out⟩,λ _ _ x=>x,Nat.le_refl _,λ _ _ _=>rfl,λ _ _ x=>.inl x,λ _ o x=>.inl ⟨o,x⟩⟩,h2⟩
 simp only [Question.forced,Bool.false_eq_true,if_false,List.reverse_nil,List.nil_append] at h1
 simp [stepG,stepG.exec,aX,aV,choose,Sem.run,Question.forced,Region.schedule,hm,Region.linearise,h1]
theorem U.agE{id:Nat}{is:List Nat}{n:Nat}(hm:P.follows .mixedOrders=true)(hk:(c.kind == CallKind.early)=false)(hb:backward ops=true)(hn:ops.size=n)(lH:List.range n=is)(h:Any ab c (λ _=>H) ops k n is R H st):U ab c R H st (.code (.region id ops true)::k):=U.draw (λ _=>H) hm hk hb hn lH h
theorem n9.DN{o:Oper}{i:Nat}{tmps:Array Value}(h:n9 ab c o R H st λ R' H' st'=>aT R R'∧(∀ p∈S i,p∈H→p∈H')∧Any ab c S ops k n rem R' H' st')(ho:ops[i]? = some o)(hw:Region.wanted o (yielded ops tmps)=true)(ht:cL c.n st tmps) :
  zt ab c (S i) ops i tmps R H λ t' R' H'=>Cb ab c S ops (λ t R H=>ab.J R H (aX (aV c t k) c.cs)) n rem t' R' H':=by
 obtain ⟨hd,kV,h | ⟨f,args,h1,h2⟩⟩:=h
 ·exact ⟨o,ho,hd,.inr ⟨hw,.inl ((h _ (ht.knows c [])).mono λ nx R' H' ⟨v,hv,st',hs,hR,hS,hA⟩=>⟨v,hv,hR,hS,hA.2 _ ((ht.put v kV).sub hs)⟩)⟩⟩
 ·exact ⟨o,ho,hd,.inr ⟨hw,.inr ⟨f,args,h1 _ (ht.knows c []),h2.mono λ v R' H' ⟨st',hs,hR,hS,hA⟩=>⟨hR,hS,hA.2 _ ((ht.put v kV).sub hs)⟩⟩⟩⟩
theorem Any.done(h:U ab c R H st k):Any ab c S ops k n [] R H st:=⟨List.nodup_nil,λ tmps ht=>by
 cases n with
 | zero=>exact ⟨rfl,h tmps ht⟩
 | succ n=>exact .inl ⟨rfl,h tmps ht⟩⟩
theorem Any.take{i:Nat}{o:Oper}{v:Value}{N:ai}(D:List Nat)(ho:ops[i]? = some o)(jw:pB ops rem i D=true)(hd:mc o.op=false)(kV:bQ o.dst c.n)(hw:cF ops st o=some true)(vC:∀ j∈rem,j≠i→j ∉ D→∀ p∈N,p∈S j)(hS:∀ p∈N,p∈H)(hf:∀ ρ,Knows st ρ→VE P B N R ρ o v)(hs:aF (bT o.dst v st) st')(dA:rem.Nodup)
  {oI:List Nat} (hr:rem.erase i=oI) (h:Any ab c S ops k n oI R H st'):Any ab c S ops k (n+1) rem R H st:=by
 subst hr
 exact ⟨dA,λ tmps ht=>Ww ho hd n rem tmps R H jw dA hS vC (.inl ⟨jY ht hw,hf _ (ht.knows c [])⟩) (h.2 _ ((ht.put v kV).sub hs))⟩
theorem Any.Bp{i d:Nat}{o:Oper}{v:Value}{N:ai}(D:List Nat)(ho:ops[i]? = some o)(nJ:o.dst=some d)(hw:cF ops st o=some true)(jw:pB ops rem i D=true)(vC:∀ j∈rem,j≠i→j ∉ D→∀ p∈N,p∈S j)(hS:∀ p∈N,p∈H)
  (hf:∀ R' H',aT R R'→(∀ p∈N,p∈H')→aW P B c o R' H' st λ R1 H1 uU=>R1=R'∧H1=H'∧uU=[(d,v)]) (hs:aF ((d,v)::st) st') (dA:rem.Nodup)
  {oI:List Nat} (hr:rem.erase i=oI) (h:Any ab c S ops k n oI R H st'):Any ab c S ops k (n+1) rem R H st:=by
 have h0:=hf R H (aT.refl _) hS
 refine Any.take (v:=v) D ho jw h0.1 h0.2.1 hw vC hS (λ ρ ba R' H' hR PG=>?_) (by rw [nJ]; exact hs) dA hr h
 refine ((hf R' H' hR PG).2.2 ρ ba).mono λ nx cy dI ⟨u,hu,uU,pY,e1,e2,e3⟩=>?_
 subst e3
 rw [nJ] at pY
 have huv:u=v:=by
  have:=pY d v (by simp)
  simp only [bT,List.lookup_cons,beq_self_eq_true] at this
  exact Option.some.inj this
 subst huv
 exact ⟨hu,e1,e2⟩
theorem Any.axB{i:Nat}{o:Oper}(D:List Nat)(ho:ops[i]? = some o)(jw:pB ops rem i D=true)(hd:mc o.op=false)(kV:bQ o.dst c.n)(hw:cF ops st o=some false)(hs:aF (bT o.dst undef st) st')(dA:rem.Nodup)
  {oI:List Nat} (hr:rem.erase i=oI) (h:Any ab c S ops k n oI R H st'):Any ab c S ops k (n+1) rem R H st:=by
 subst hr
 exact ⟨dA,λ tmps ht=>Ww (v:=undef) (N:=[]) ho hd n rem tmps R H jw dA (by simp) (by simp) (.inr ⟨jY ht hw,rfl⟩) (h.2 _ ((ht.put undef kV).sub hs))⟩
theorem Any.one{i:Nat}{o:Oper}(ho:ops[i]? = some o)(l8:rem.filter (m7 ops rem)=[i])(hw:cF ops st o=some true)(dA:rem.Nodup){oI:List Nat}(hr:rem.erase i=oI)
  (h:n9 ab c o R H st λ R' H' st'=>aT R R'∧(∀ p∈S i,p∈H→p∈H')∧Any ab c S ops k n oI R' H' st'):Any ab c S ops k (n+1) rem R H st:=by
 subst hr
 refine ⟨dA,λ tmps ht=>.inr ⟨(λ e=>by rw [e] at l8; cases l8),λ _ j hj yi=>?_⟩⟩
 have:j∈rem.filter (m7 ops rem):=List.mem_filter.2 ⟨hj,yi⟩
 rw [l8] at this
 obtain rfl:j=i:=by simpa using this
 exact h.DN ho (jY ht hw) ht
theorem asp{H H':ai}(h:∀ p∈H,p∈H'){X:ai}:∀ p∈H,p∈X→p∈H':=λ p hp _=>h p hp
end
end Go.Lg
namespace Go.Lg
open Go.Conc
section
variable {P:Program} {B:Base} {main:Bool} {ab:Jd P B main} {c:Ctx} {R:av} {H H':ai} {st st':St} {k:List Item}
theorem Ma{w:World}(hs:List.Sublist H' H)(hw:Fits B R H w):fw B R H w R H' w :=
 ⟨⟨hw.r,λ b o h=>hw.h b o (hs.subset h),(hs.map _).nodup hw.nd,λ b o h=>hw.dj b o (hs.subset h),hw.os,hw.tape,hw.out⟩,λ _ _ x=>x,Nat.le_refl _,λ _ _ _=>rfl,λ _ _ x=>.inl x,λ _ o x=>.inl ⟨o,hs.subset x⟩⟩
theorem U.drop{todo:List Item}(hs:List.Sublist H' H)(h:U ab c R H' st todo):U ab c R H st todo:=U.ghost (λ _ hw=>Ma hs hw) h
theorem J.drop{g:Goroutine}(hs:List.Sublist H' H)(h:ab.J R H' g):ab.J R H g:=ab.ghost (λ _ hw=>Ma hs hw) h
theorem Uh{w:World}(hs:List.Perm H' H)(hw:Fits B R H w):fw B R H w R H' w :=
 ⟨⟨hw.r,λ b o h=>hw.h b o (hs.subset h),(hs.map _).nodup_iff.2 hw.nd,λ b o h=>hw.dj b o (hs.subset h),hw.os,hw.tape,hw.out⟩,λ _ _ x=>x,Nat.le_refl _,λ _ _ _=>rfl,λ _ _ x=>.inl x,λ _ o x=>.inl ⟨o,hs.subset x⟩⟩
theorem U.perm{todo:List Item}(hs:List.Perm H' H)(h:U ab c R H' st todo):U ab c R H st todo:=U.ghost (λ _ hw=>Uh hs hw) h
theorem J.perm{g:Goroutine}(hs:List.Perm H' H)(h:ab.J R H' g):ab.J R H g:=ab.ghost (λ _ hw=>Uh hs hw) h
def av.ins(R:av)(b:Nat)(o:Obj):av:=λ x=>if x=b then some o else R x
theorem av.asn(R:av)(b:Nat)(o:Obj):R.ins b o b=some o:=by simp [av.ins]
theorem av.ZH{R:av}{b:Nat}{o:Obj}(h:R b=none):aT R (R.ins b o):=λ x u hx=>by
 unfold av.ins
 split
 ·subst_vars; rw [h] at hx; cases hx
 ·exact hx
theorem axO{w:World}{b:Nat}{o:Obj}(hw:Fits B R ((b,o)::H) w):fw B R ((b,o)::H) w (R.ins b o) H w:=by
 have hb:R b=none:=hw.dj b o (by simp)
 have dA:=hw.nd
 rw [List.map_cons,List.nodup_cons] at dA
 refine ⟨⟨λ x u hx=>?_,λ x u hx=>hw.h x u (by simp [hx]),dA.2,λ x u hx=>?_,hw.os,hw.tape,hw.out⟩,av.ZH hb,Nat.le_refl _,λ _ _ _=>rfl,λ x u hx=>?_,λ x u hx=>.inl ⟨u,by simp [hx]⟩⟩
 ·unfold av.ins at hx
  split at hx
  ·subst_vars; cases hx; exact hw.h _ _ (by simp)
  ·exact hw.r x u hx
 ·have eB:x≠b:=λ e=>dA.1 (List.mem_map.2 ⟨(x,u),hx,e⟩)
  unfold av.ins
  rw [if_neg eB]
  exact hw.dj x u (by simp [hx])
 ·unfold av.ins at hx
  split at hx
  ·subst_vars; exact .inr (.inl ⟨o,by simp⟩)
  ·exact .inl hx
theorem J.freeze{g:Goroutine}{b:Nat}{o:Obj}(h:∀ R',aT R R'→R' b=some o→ab.J R' H g)(hb:R b=none):ab.J R ((b,o)::H) g :=
 ab.ghost (λ _ hw=>axO hw) (h _ (av.ZH hb) (av.asn R b o))
theorem J.ajB{fr:Frame}{cs:List Frame}{b:Nat}{o:Obj}(h:∀ R',aT R R'→R' b=some o→ab.J R' H (aX fr cs)):ab.J R ((b,o)::H) (aX fr cs):=by
 cases hb:R b with
 | none=>exact J.freeze h hb
 | some x =>
  refine ab.step rfl λ w hw=>?_
  have:=hw.dj b o (by simp)
  rw [hb] at this
  cases this
theorem U.freeze{todo:List Item}{b:Nat}{o:Obj}(h:∀ R',aT R R'→R' b=some o→U ab c R' H st todo):U ab c R ((b,o)::H) st todo :=
 λ tmps ht=>J.ajB λ R' h1 h2=>h R' h1 h2 tmps ht
theorem cL.abp{n t:Nat}{x:Value}{tmps:Array Value}(hx:st.lookup t=some x)(h:cL n st tmps):cL n ((t,x)::st) tmps:=by
 refine ⟨h.1,λ u v hu=>?_⟩
 rw [List.lookup_cons] at hu
 split at hu
 ·rename_i heq
  have:u=t:=by simpa using heq
  subst this
  cases hu
  exact h.2 _ _ hx
 ·exact h.2 u v hu
theorem U.loop{body:Code}(I:Nat→av→ai→St→Prop)
  (PI:∀ n R H st,I n R H st→(∀ m R' H' st',m < n→I m R' H' st'→U ab c R' H' st' (.inLoop body::k))→U ab c R H st (.code body :: .inLoop body::k))
  {n:Nat} (h0:I n R H st):U ab c R H st (.code (.loop body)::k):=by
 have key:∀ n R H st,I n R H st→U ab c R H st (.code body :: .inLoop body::k):=by
  intro n
  induction n using Nat.strongRecOn with
  | ind n ih=>exact λ R H st hI=>PI n R H st hI λ m R' H' st' hm Pt=>U.inLoop (ih m hm R' H' st' Pt)
 exact U.enterLoop (key n R H st h0)
end
theorem Cell.mono{R R':av}{H:ai}{a:Addr}{v:Value}(h:Cell R [] a v)(hR:aT R R'):Cell R' H a v:=by
 obtain ⟨h1,cs,e,fz,h2,h3⟩:=h
 exact ⟨h1,cs,e,fz,.inl (h2.elim (hR _ _) (λ x=>by cases x)),h3⟩
theorem aM.up{R R':av}{H:ai}{b o:Nat}{vs:List Value}(h:aM R [] b o vs)(hR:aT R R'):aM R' H b o vs:=λ j v hj=>(h j v hj).mono hR
theorem aM.any{R:av}{H:ai}{b o:Nat}{vs:List Value}(h:aM R [] b o vs):aM R H b o vs:=h.up (aT.refl R)
theorem aM.one{R:av}{H:ai}{b o j:Nat}{v:Value}{vs:List Value}(h:aM R H b o vs)(hj:vs[j]? = some v):Cell R H ⟨b,o+j,none⟩ v:=h j v hj
end Go.Lg
