/- The base of a logic of goroutines in company. Conditions: none. -/
import Derived.Conc.Beside
import Derived.Conc.Events
import Derived.Conc.Listed
import Derived.Orders
namespace Go.Lg
open Go.Conc
abbrev az:=Nat→Option Obj
abbrev an:=List (Nat × Obj)
structure Base where
 os:Os→Prop
 tape:Nat→Question→Nat
 out:Array (Nat × ByteArray)
structure Fits (B:Base) (R:az) (H:an) (w:World):Prop where
 r:∀ b o,R b=some o→w.heap[b]? = some o
 h:∀ b o,(b,o)∈H→w.heap[b]? = some o
 nd:(H.map (·.1)).Nodup
 dj:∀ b o,(b,o)∈H→R b=none
 os:B.os w.os
 tape:w.tape=B.tape
 out:w.output=B.out
theorem lE{w:World}{b:Nat}{o:Obj}(h:w.heap[b]? = some o):b < w.heap.size:=(Array.getElem?_eq_some_iff.1 h).1
structure fP (B:Base) (R:az) (H:an) (w:World) (R':az) (H':an) (w':World):Prop where
 fits:Fits B R' H' w'
 rle:∀ b o,R b=some o→R' b=some o
 size:w.heap.size≤w'.heap.size
 same:∀ b,b < w.heap.size→(∀ o,(b,o) ∉ H)→w'.heap[b]? = w.heap[b]?
 Gb:∀ b o,R' b=some o→R b=some o∨(∃ o',(b,o')∈H)∨w.heap.size≤b
 yv:∀ b o,(b,o)∈H'→(∃ o',(b,o')∈H)∨w.heap.size≤b
theorem fP.refl{B:Base}{R:az}{H:an}{w:World}(h:Fits B R H w):fP B R H w R H w :=
 ⟨h,λ _ _ x=>x,Nat.le_refl _,λ _ _ _=>rfl,λ _ _ x=>.inl x,λ _ o x=>.inl ⟨o,x⟩⟩
theorem fP.trans{B:Base}{R R' cx:az}{H H' dW:an}{w w' PK:World}(h:fP B R H w R' H' w')(k:fP B R' H' w' cx dW PK):fP B R H w cx dW PK:=by
 refine ⟨k.fits,λ b o x=>k.rle b o (h.rle b o x),Nat.le_trans h.size k.size,λ b hb hn=>?_,λ b o x=>?_,λ b o x=>?_⟩
 ·rw [k.same b (Nat.lt_of_lt_of_le hb h.size) (λ o ho=>?_),h.same b hb hn]
  rcases h.yv b o ho with ⟨o',eN⟩ | uy
  ·exact hn o' eN
  ·omega
 ·rcases k.Gb b o x with x | ⟨o',x⟩ | x
  ·exact h.Gb b o x
  ·exact .inr (h.yv b o' x)
  ·exact .inr (.inr (Nat.le_trans h.size x))
 ·rcases k.yv b o x with ⟨o',x⟩ | x
  ·exact h.yv b o' x
  ·exact .inr (Nat.le_trans h.size x)
def BH(R:az)(H:an)(n:Nat)(write:Bool)(b:Nat):Prop:=(write=false∧(R b).isSome=true)∨(∃ o,(b,o)∈H)∨n≤b
def iz(R:az)(H:an)(n m:Nat)(e:Event):Prop :=
 match e.loc with
 | .cell a=>e.sync=false∧a.block < m∧BH R H n e.write a.block
 | .obj b=>e.sync=false∧b < m∧BH R H n e.write b
 | .mark .noRoom=>True
 | _=>False
theorem BH.up{B:Base}{R R':az}{H H':an}{w w':World}(h:fP B R H w R' H' w'){wr:Bool}{b:Nat}(k:BH R' H' w'.heap.size wr b):BH R H w.heap.size wr b:=by
 rcases k with ⟨k1,k2⟩ | ⟨o,k⟩ | k
 ·obtain ⟨o,ho⟩:=Option.isSome_iff_exists.1 k2
  rcases h.Gb b o ho with x | x | x
  ·exact .inl ⟨k1,by simp [x]⟩
  ·exact .inr (.inl x)
  ·exact .inr (.inr x)
 ·exact .inr (h.yv b o k)
 ·exact .inr (.inr (Nat.le_trans h.size k))
theorem iz.up{B:Base}{R R':az}{H H':an}{w w':World}(h:fP B R H w R' H' w'){m:Nat}{e:Event}(k:iz R' H' w'.heap.size m e):iz R H w.heap.size m e:=by
 unfold iz at k ⊢
 split at k
 ·exact ⟨k.1,k.2.1,k.2.2.up h⟩
 ·exact ⟨k.1,k.2.1,k.2.2.up h⟩
 ·trivial
 ·exact k.elim
theorem iz.more{R:az}{H:an}{n m m':Nat}{e:Event}(hm:m≤m')(k:iz R H n m e):iz R H n m' e:=by
 unfold iz at k ⊢
 split at k
 ·exact ⟨k.1,by omega,k.2.2⟩
 ·exact ⟨k.1,by omega,k.2.2⟩
 ·trivial
 ·exact k.elim
def aR{α:Type}(P:Program)(B:Base)(R:az)(H:an)(s:Sem α)(K:α→az→an→Prop):Prop :=
 ∀ w,Fits B R H w→∃ a w' R' H',s.run P w = .ok a w'∧(∀ e∈s.events P w #[],iz R H w.heap.size w'.heap.size e)∧fP B R H w R' H' w'∧K a R' H'
section
variable {P:Program} {B:Base} {R:az} {H:an}
theorem aR.mono{α:Type}{s:Sem α}{K K':α→az→an→Prop}(h:aR P B R H s K)(hk:∀ a R' H',K a R' H'→K' a R' H'):aR P B R H s K':=by
 intro w hw
 obtain ⟨a,w',R',H',h1,h2,h3,h4⟩:=h w hw
 exact ⟨a,w',R',H',h1,h2,h3,hk _ _ _ h4⟩
theorem aR.pure{α:Type}{a:α}{K:α→az→an→Prop}(h:K a R H):aR P B R H (Pure.pure a:Sem α) K :=
 λ w hw=>⟨a,w,R,H,rfl,by simp,fP.refl hw,h⟩
theorem aR.bind{α β:Type}{s:Sem α}{f:α→Sem β}{K:β→az→an→Prop}(h:aR P B R H s λ a R' H'=>aR P B R' H' (f a) K):aR P B R H (s >>= f) K:=by
 intro w hw
 obtain ⟨a,w',R',H',h1,h2,h3,h4⟩:=h w hw
 obtain ⟨b,PK,cx,dW,k1,k2,k3,k4⟩:=h4 w' h3.fits
 refine ⟨b,PK,cx,dW,by simp [h1,k1],λ e he=>?_,h3.trans k3,k4⟩
 rw [Sem.events_bind,h1,Result.evThen_ok,Sem.events_acc] at he
 rcases Array.mem_append.1 he with he | he
 ·exact (h2 e he).more k3.size
 ·exact (k2 e he).up h3
theorem aR.map{α β:Type}{s:Sem α}{f:α→β}{K:β→az→an→Prop}(h:aR P B R H s λ a R' H'=>K (f a) R' H'):aR P B R H (f <$> s) K:=by
 intro w hw
 obtain ⟨a,w',R',H',h1,h2,h3,h4⟩:=h w hw
 exact ⟨f a,w',R',H',by simp [h1],by simpa using h2,h3,h4⟩
def ai{α:Type}(P:Program)(s:Sem α)(a:α):Prop:=∀ w,s.run P w = .ok a w∧s.events P w #[]=#[]
theorem ai.ok{α:Type}{s:Sem α}{a:α}{K:α→az→an→Prop}(h:ai P s a)(hk:K a R H):aR P B R H s K :=
 λ w hw=>⟨a,w,R,H,(h w).1,by rw [(h w).2]; simp,fP.refl hw,hk⟩
theorem ai.pure{α:Type}(a:α):ai P (Pure.pure a:Sem α) a:=λ _=>⟨rfl,rfl⟩
theorem ai.bind{α β:Type}{s:Sem α}{f:α→Sem β}{a:α}{b:β}(h:ai P s a)(k:ai P (f a) b):ai P (s >>= f) b :=
 λ w=>⟨by simp [(h w).1,(k w).1],by rw [Sem.events_bind,(h w).1,(h w).2]; exact (k w).2⟩
theorem ai.map{α β:Type}{s:Sem α}{f:α→β}{a:α}(h:ai P s a):ai P (f <$> s) (f a) :=
 λ w=>⟨by simp [(h w).1],by simpa using (h w).2⟩
theorem ai.program:ai P program P:=λ _=>⟨rfl,rfl⟩
theorem ai.underlying{t:TypeId}{d:TypeDesc}(h:P.underlying t=some d):ai P (underlying t) d:=λ w=>⟨by simp [Go.underlying,h],by simp⟩
theorem ai.typeInfo{t:TypeId}{i:TypeInfo}(h:P.info? t=some i):ai P (typeInfo t) i:=λ w=>⟨by simp [Go.typeInfo,h],by simp⟩
theorem ai.eX{α β:Type}{s:Sem α}{f:α→Sem β}{a:α}{K:β→az→an→Prop}(h:ai P s a)(hk:aR P B R H (f a) K):aR P B R H (s >>= f) K :=
 aR.bind (h.ok hk)
def Cell(R:az)(H:an)(a:Addr)(v:Value):Prop :=
 a.spot=none∧∃ cs e fz,(R a.block=some (.cells cs e fz)∨(a.block,Obj.cells cs e fz)∈H)∧cs[a.off]? = some v
theorem Cell.at_{w:World}{a:Addr}{v:Value}(h:Cell R H a v)(hw:Fits B R H w):w.cell? a=some v:=by
 obtain ⟨hs,cs,e,fz,h1,h2⟩:=h
 have hh:w.heap[a.block]? = some (.cells cs e fz):=h1.elim (hw.r _ _) (hw.h _ _)
 simp [World.cell?,hh,hs,h2]
theorem Cell.touch{a:Addr}{v:Value}(h:Cell R H a v)(n:Nat):BH R H n false a.block:=by
 obtain ⟨_,cs,e,fz,h1,_⟩:=h
 rcases h1 with h1 | h1
 ·exact .inl ⟨rfl,by simp [h1]⟩
 ·exact .inr (.inl ⟨_,h1⟩)
theorem azJ{w:World}{a:Addr}{v:Value}(h:w.cell? a=some v):a.block < w.heap.size:=by
 unfold World.cell? at h
 split at h
 ·exact lE ‹_›
 ·cases h
theorem aR.load{a:Addr}{v:Value}{K:Value→az→an→Prop}(h:Cell R H a v)(hk:K v R H):aR P B R H (load a) K:=by
 intro w hw
 have hc:=h.at_ hw
 refine ⟨v,w,R,H,by simp [hc],?_,fP.refl hw,hk⟩
 intro e he
 simp only [events_load,hc] at he
 simp at he
 subst he
 exact ⟨rfl,azJ hc,h.touch _⟩
theorem aR.new{o:Obj}{K:Nat→az→an→Prop}(hk:∀ r,R r=none→(∀ x,(r,x) ∉ H)→K r R ((r,o)::H)):aR P B R H (newObj o) K:=by
 intro w hw
 have hR:R w.heap.size=none:=by
  cases h:R w.heap.size with
  | none=>rfl
  | some x=>exact absurd (lE (hw.r _ _ h)) (Nat.lt_irrefl _)
 have hH:∀ x,(w.heap.size,x) ∉ H:=λ x hx=>absurd (lE (hw.h _ _ hx)) (Nat.lt_irrefl _)
 have uz:∀ b (x:Obj),w.heap[b]? = some x→(w.heap.push o)[b]? = some x:=λ b x hx=>by
  have:=lE hx
  rw [Array.getElem?_push]
  rw [if_neg (by omega)]; exact hx
 refine ⟨w.heap.size,{ w with heap:=w.heap.push o },R,(w.heap.size,o)::H,by simp,by simp,⟨⟨?_,?_,?_,?_,hw.os,hw.tape,hw.out⟩,λ _ _ x=>x,by simp,?_,λ _ _ x=>.inl x,?_⟩,hk _ hR hH⟩
 ·exact λ b x hx=>uz b x (hw.r b x hx)
 ·intro b x hx
  rcases List.mem_cons.1 hx with hx | hx
  ·cases hx; simp
  ·exact uz b x (hw.h b x hx)
 ·rw [List.map_cons,List.nodup_cons]
  refine ⟨λ hm=>?_,hw.nd⟩
  obtain ⟨p,hp,he⟩:=List.mem_map.1 hm
  have LH:p.1=w.heap.size:=he
  exact hH p.2 (by rw [← LH]; exact hp)
 ·intro b x hx
  rcases List.mem_cons.1 hx with hx | hx
  ·cases hx; exact hR
  ·exact hw.dj b x hx
 ·intro b hb _
  show (w.heap.push o)[b]? = _
  rw [Array.getElem?_push,if_neg (by omega)]
 ·intro b x hx
  rcases List.mem_cons.1 hx with hx | hx
  ·cases hx; exact .inr (Nat.le_refl _)
  ·exact .inl ⟨x,hx⟩
inductive fp:an→Nat→Obj→Obj→an→Prop
 | here {b:Nat} {o o':Obj} {H:an}:fp ((b,o)::H) b o o' ((b,o')::H)
 | there {b:Nat} {o o':Obj} {p:Nat × Obj} {H H':an}:fp H b o o' H'→fp (p::H) b o o' (p::H')
theorem fp.keys{H H':an}{b:Nat}{o o':Obj}(h:fp H b o o' H'):H'.map (·.1)=H.map (·.1):=by
 induction h with
 | here=>rfl
 | there _ ih=>simp [ih]
theorem fp.mem{H H':an}{b:Nat}{o o':Obj}(h:fp H b o o' H'):(b,o)∈H:=by
 induction h with
 | here=>simp
 | there _ ih=>exact List.mem_cons_of_mem _ ih
theorem fp.old{H H':an}{b:Nat}{o o':Obj}(h:fp H b o o' H')(hn:(H.map (·.1)).Nodup):∀ c x,(c,x)∈H'→(c=b∧x=o')∨(c≠b∧(c,x)∈H):=by
 induction h with
 | @here b o o' H =>
  intro c x hx
  rw [List.map_cons,List.nodup_cons] at hn
  rcases List.mem_cons.1 hx with il | il
  ·cases il; exact .inl ⟨rfl,rfl⟩
  ·refine .inr ⟨λ e=>hn.1 ?_,List.mem_cons_of_mem _ il⟩
   rw [← e]
   exact List.mem_map.2 ⟨(c,x),il,rfl⟩
 | @there b o o' p H H' hs ih =>
  intro c x hx
  rw [List.map_cons,List.nodup_cons] at hn
  rcases List.mem_cons.1 hx with hx | hx
  ·subst hx
   refine .inr ⟨λ e=>hn.1 ?_,by simp⟩
   simp only at e ⊢
   subst e
   exact List.mem_map.2 ⟨_,hs.mem,rfl⟩
  ·exact (ih hn.2 c x hx).imp id λ y=>⟨y.1,List.mem_cons_of_mem _ y.2⟩
theorem Fits.NJ{H':an}{b:Nat}{o o':Obj}{w:World}(hw:Fits B R H w)(h:fp H b o o' H') :
  fP B R H w R H' { w with heap:=w.heap.setIfInBounds b o' }:=by
 have hb:w.heap[b]? = some o:=hw.h _ _ h.mem
 have bK:=lE hb
 have dU:∀ c,c≠b→(w.heap.setIfInBounds b o')[c]? = w.heap[c]? := λ c hc=>Array.getElem?_setIfInBounds_ne (by omega)
 refine ⟨⟨?_,?_,by rw [h.keys]; exact hw.nd,?_,hw.os,hw.tape,hw.out⟩,λ _ _ x=>x,by simp,?_,λ _ _ x=>.inl x,?_⟩
 ·intro c x hx
  show (w.heap.setIfInBounds b o')[c]? = _
  rw [dU c (λ e=>by subst e; have:=hw.dj _ _ h.mem; rw [hx] at this; cases this)]
  exact hw.r c x hx
 ·intro c x hx
  show (w.heap.setIfInBounds b o')[c]? = _
  rcases h.old hw.nd c x hx with ⟨rfl,rfl⟩ | ⟨hc,hx⟩
  ·rw [Array.getElem?_setIfInBounds_self_of_lt bK]
  ·rw [dU c hc]; exact hw.h c x hx
 ·intro c x hx
  rcases h.old hw.nd c x hx with ⟨rfl,_⟩ | ⟨_,hx⟩
  ·exact hw.dj _ _ h.mem
  ·exact hw.dj c x hx
 ·intro c _ hn
  exact dU c (λ e=>by subst e; exact hn _ h.mem)
 ·intro c x hx
  rcases h.old hw.nd c x hx with ⟨rfl,_⟩ | ⟨_,hx⟩
  ·exact .inl ⟨_,h.mem⟩
  ·exact .inl ⟨_,hx⟩
theorem aR.store{a:Addr}{v:Value}{cs:Array Value}{e:TypeId}{H':an}{K:Unit→az→an→Prop}(h1:v.oneCell'=true)(ha:a.spot=none)(bK:a.off < cs.size)
  (hs:fp H a.block (.cells cs e (0,0)) (.cells (cs.setIfInBounds a.off v) e (0,0)) H') (hk:K () R H'):aR P B R H (store a v) K:=by
 intro w hw
 have hb:w.heap[a.block]? = some (.cells cs e (0,0)):=hw.h _ _ hs.mem
 have hc:w.cell? a=some cs[a.off]:=by simp [World.cell?,hb,ha,bK]
 have hf:w.frozen? a=false:=by simp [World.frozen?,hb]
 have NJ:w.setCell a v={ w with heap:=w.heap.setIfInBounds a.block (.cells (cs.setIfInBounds a.off v) e (0,0)) }:=by
  simp only [World.setCell]
  congr 1
  apply Array.ext_getElem?
  intro i
  rw [Array.getElem?_modify]
  by_cases hi:a.block=i
  ·subst hi
   rw [Array.getElem?_setIfInBounds_self_of_lt (lE hb),hb]
   simp [ha]
  ·simp [hi,Array.getElem?_setIfInBounds_ne hi]
 refine ⟨(),w.setCell a v,R,H',by rw [run_store P w a v _ h1]; simp [hc,hf],?_,?_,hk⟩
 ·intro e he
  rw [events_store P w #[] a v _ h1] at he
  simp [hc,hf] at he
  subst he
  refine ⟨rfl,?_,.inr (.inl ⟨_,hs.mem⟩)⟩
  simpa [World.setCell] using lE hb
 ·rw [NJ]; exact hw.NJ hs
def Obj.plain:Obj→Bool
 | .cells .. => false
 | .chan .. => false
 | _=>true
theorem aR.getObj{r:Nat}{o:Obj}{K:Obj→az→an→Prop}(ho:Obj.plain o=true)(h:R r=some o∨(r,o)∈H)(hk:K o R H):aR P B R H (getObj r) K:=by
 intro w hw
 have hh:w.heap[r]? = some o:=h.elim (hw.r _ _) (hw.h _ _)
 have kJ:(Go.getObj r).run P w = .ok o w:=by
  cases o <;> simp_all [Obj.plain,Go.getObj,Sem.run]
 have j5:(Go.getObj r).events P w #[]=#[⟨.obj r,false,false⟩]:=by
  cases o <;> simp_all [Obj.plain,Go.getObj,Sem.events,Sem.runT,Obj.isChan,-Sem.runT_eq]
 refine ⟨o,w,R,H,kJ,?_,fP.refl hw,hk⟩
 intro e he
 rw [j5] at he
 simp at he
 subst he
 exact ⟨rfl,lE hh,h.elim (λ x=>.inl ⟨rfl,by simp [x]⟩) (λ x=>.inr (.inl ⟨_,x⟩))⟩
theorem aR.setObj{r:Nat}{o o':Obj}{H':an}{K:Unit→az→an→Prop}(ho:Obj.plain o=true)(eN:Obj.plain o'=true)(hs:fp H r o o' H')(hk:K () R H'):aR P B R H (setObj r o') K:=by
 intro w hw
 have hh:w.heap[r]? = some o:=hw.h _ _ hs.mem
 have kJ:(Go.setObj r o').run P w = .ok () { w with heap:=w.heap.setIfInBounds r o' }:=by
  cases o <;> simp_all [Obj.plain,Go.setObj,Sem.run]
 have j5:(Go.setObj r o').events P w #[]=#[⟨.obj r,true,false⟩]:=by
  cases o <;> simp_all [Obj.plain,Go.setObj,Sem.events,Sem.runT,-Sem.runT_eq] <;> (cases o' <;> simp_all [Obj.isChan])
 refine ⟨(),_,R,H',kJ,?_,hw.NJ hs,hk⟩
 intro e he
 rw [j5] at he
 simp at he
 subst he
 exact ⟨rfl,by simpa using lE hh,.inr (.inl ⟨_,hs.mem⟩)⟩
theorem aR.choose{q:Question}{K:Nat→az→an→Prop}(hk:∀ t,K (if q.forced then 0 else q.cut t) R H):aR P B R H (choose q) K:=by
 intro w hw
 cases hf:q.forced with
 | true =>
  have:=hk 0
  rw [hf] at this
  exact ⟨0,w,R,H,by simp [Go.choose,Sem.run,hf],by simp,fP.refl hw,by simpa using this⟩
 | false =>
  have:=hk (w.tape w.drawn q)
  rw [hf] at this
  exact ⟨q.cut (w.tape w.drawn q),{ w with drawn:=w.drawn+1 },R,H,by simp [Go.choose,Sem.run,hf],by simp,⟨⟨hw.r,hw.h,hw.nd,hw.dj,hw.os,hw.tape,hw.out⟩,λ _ _ x=>x,Nat.le_refl _,λ _ _ _=>rfl,λ _ _ x=>.inl x,λ _ o x=>.inl ⟨o,x⟩⟩,by simpa using this⟩
theorem aR.aBr{K:Unit→az→an→Prop}(hk:K () R H):aR P B R H (mark .noRoom) K :=
 λ w hw=>⟨(),w,R,H,rfl,by simp [iz],fP.refl hw,hk⟩
end
end Go.Lg
namespace Go.Lg
open Go.Conc
structure Jd (P:Program) (B:Base) (main:Bool) where
 J:az→an→Goroutine→Prop
 step:∀ {R H g},g.status = .running→(∀ w,Fits B R H w→∃ g' w' es R' H',stepG P main g w = .go g' w' es∧(∀ e∈es,iz R H w.heap.size w'.heap.size e)∧fP B R H w R' H' w'∧J R' H' g')→J R H g
 ghost:∀ {R H R' H' g},(∀ w,Fits B R H w→fP B R H w R' H' w)→J R' H' g→J R H g
abbrev St:=List (Nat × Value)
structure Ctx where
 fn:FuncId
 kind:CallKind
 ro:Option Nat
 n:Nat
 defers:List Deferred
 cs:List Frame
def aX(fr:Frame)(cs:List Frame):Goroutine:={ frame:=fr,callers:=cs,status:=.running,dying:=none }
def aV(c:Ctx)(tmps:Array Value)(todo:List Item):Frame:={ fn:=c.fn,tmps,todo,defers:=c.defers,mode:=.run,kind:=c.kind,roundOf:=c.ro }
def cM(n:Nat)(st:St)(tmps:Array Value):Prop:=tmps.size=n∧∀ t v,st.lookup t=some v→tmps[t]? = some v
def bR(st:St):St→Prop
 | []=>True
 | p::r=>st.lookup p.1=some p.2∧bR st r
def aI(st st':St):Prop:=∀ t v,st'.lookup t=some v→st.lookup t=some v
theorem bR.sub{st:St}:∀ {st':St},bR st st'→aI st st'
 | [],_,_,_,h=>by cases h
 | p::r,hs,t,v,h=>by
  rw [List.lookup_cons] at h
  split at h
  ·rename_i heq
   cases h
   have:t=p.1:=by simpa using heq
   subst this
   exact hs.1
  ·exact bR.sub hs.2 t v h
theorem aI.refl(st:St):aI st st:=λ _ _ h=>h
theorem cM.sub{n:Nat}{st st':St}{tmps:Array Value}(h:cM n st tmps)(hs:aI st st'):cM n st' tmps:=⟨h.1,λ t v x=>h.2 t v (hs t v x)⟩
def bU(dst:Option Tmp)(v:Value)(st:St):St:=match dst with | some d=>(d,v)::st | none=>st
theorem aI.put{dst:Option Tmp}{d:Tmp}{v:Value}{st:St}(h:dst=some d):aI (bU dst v st) ((d,v)::st):=by subst h; exact aI.refl _
theorem aI.Oz{dst:Option Tmp}{v:Value}{st:St}(h:dst=none):aI (bU dst v st) st:=by subst h; exact aI.refl _
def fG(dst:Option Tmp)(v:Value)(tmps:Array Value):Array Value:=match dst with | some d=>tmps.setIfInBounds d v | none=>tmps
def amV(dst:Option Tmp)(n:Nat):Bool:=match dst with | some d=>Nat.blt d n | none=>true
def bT(dst:Option Tmp)(n:Nat):Prop:=amV dst n=true
theorem bT.lt{d n:Nat}(h:bT (some d) n):d < n:=by
 have:Nat.blt d n=true:=h
 simpa [Nat.blt_eq] using this
theorem cM.put{n:Nat}{st:St}{tmps:Array Value}(h:cM n st tmps){dst:Option Tmp}(v:Value)(hd:bT dst n):cM n (bU dst v st) (fG dst v tmps):=by
 cases dst with
 | none=>exact h
 | some d =>
  refine ⟨by simp [fG,h.1],λ t u hu=>?_⟩
  have hd':d < tmps.size:=by rw [h.1]; exact hd.lt
  simp only [bU,List.lookup_cons] at hu
  split at hu
  ·rename_i heq
   cases hu
   have:t=d:=by simpa using heq
   subst this
   simp [fG,hd']
  ·rename_i heq
   have dU:t≠d:=by simpa using heq
   simp only [fG]
   rw [Array.getElem?_setIfInBounds_ne (Ne.symm dU)]
   exact h.2 t u hu
def bg(st:St):Operand→Option Value
 | .tmp t=>st.lookup t
 | .const v=>some v
 | .global g=>some (.pointer (some ⟨g,0,none⟩))
 | .func f=>some (.func (.func f) #[] #[])
def Knows(st:St)(ρ:Operand→Value):Prop:=∀ x v,bg st x=some v→ρ x=v
theorem cM.knows{n:Nat}{st:St}{tmps:Array Value}(h:cM n st tmps)(c:Ctx)(todo:List Item):Knows st (aV c tmps todo).eval:=by
 intro x v hx
 cases x with
 | tmp t =>
  have:=h.2 t v hx
  simp [aV,Frame.eval,Array.getD_eq_getD_getElem?,this]
 | const u=>cases hx; rfl
 | global g=>cases hx; rfl
 | func f=>cases hx; rfl
section
variable {P:Program} {B:Base} {main:Bool} (af:Jd P B main)
def U(c:Ctx)(R:az)(H:an)(st:St)(todo:List Item):Prop:=∀ tmps,cM c.n st tmps→af.J R H (aX (aV c tmps todo) c.cs)
variable {af} {c:Ctx} {R:az} {H:an} {st:St} {k:List Item}
theorem U.sub{st':St}{todo:List Item}(hs:aI st st')(h:U af c R H st' todo):U af c R H st todo:=λ tmps ht=>h tmps (ht.sub hs)
theorem U.ghost{R':az}{H':an}{todo:List Item}(hg:∀ w,Fits B R H w→fP B R H w R' H' w)(h:U af c R' H' st todo):U af c R H st todo:=λ tmps ht=>af.ghost hg (h tmps ht)
theorem Jd.ctl{R:az}{H:an}{g g':Goroutine}(hs:g.status = .running)(h:∀ w,stepG P main g w = .go g' w)(hj:af.J R H g'):af.J R H g :=
 af.step hs λ w hw=>⟨g',w,#[],R,H,h w,by simp,fP.refl hw,hj⟩
theorem U.skip(h:U af c R H st k):U af c R H st (.code .skip::k):=λ tmps ht=>Jd.ctl rfl (λ w=>by simp [stepG,stepG.exec,aX,aV]) (h tmps ht)
theorem U.label{l:Nat}(h:U af c R H st k):U af c R H st (.code (.label l)::k):=λ tmps ht=>Jd.ctl rfl (λ w=>by simp [stepG,stepG.exec,aX,aV]) (h tmps ht)
theorem U.inBlock{id:Nat}(h:U af c R H st k):U af c R H st (.inBlock id::k):=λ tmps ht=>Jd.ctl rfl (λ w=>by simp [stepG,stepG.exec,aX,aV]) (h tmps ht)
theorem U.seq{x y:Code}(h:U af c R H st (.code x :: .code y::k)):U af c R H st (.code (.seq x y)::k):=λ tmps ht=>Jd.ctl rfl (λ w=>by simp [stepG,stepG.exec,aX,aV]) (h tmps ht)
theorem U.block{id:Nat}{x:Code}(h:U af c R H st (.code x :: .inBlock id::k)):U af c R H st (.code (.block id x)::k):=λ tmps ht=>Jd.ctl rfl (λ w=>by simp [stepG,stepG.exec,aX,aV]) (h tmps ht)
theorem U.scope{x:Code}(h:U af c R H st (.code x :: .inScope x::k)):U af c R H st (.code (.scope x)::k):=λ tmps ht=>Jd.ctl rfl (λ w=>by simp [stepG,stepG.exec,aX,aV]) (h tmps ht)
theorem U.enterLoop{x:Code}(h:U af c R H st (.code x :: .inLoop x::k)):U af c R H st (.code (.loop x)::k):=λ tmps ht=>Jd.ctl rfl (λ w=>by simp [stepG,stepG.exec,aX,aV]) (h tmps ht)
theorem U.inLoop{x:Code}(h:U af c R H st (.code x :: .inLoop x::k)):U af c R H st (.inLoop x::k):=λ tmps ht=>Jd.ctl rfl (λ w=>by simp [stepG,stepG.exec,aX,aV]) (h tmps ht)
theorem U.exit{id:Nat}{k':List Item}(he:exitTo id k=some k')(h:U af c R H st k'):U af c R H st (.code (.exit id)::k):=λ tmps ht=>Jd.ctl rfl (λ w=>by simp [stepG,stepG.exec,aX,aV,he]) (h tmps ht)
theorem U.region{id:Nat}{ops:Array Oper}(h:U af c R H st (.inRegion ops (List.range ops.size)::k)):U af c R H st (.code (.region id ops false)::k):=λ tmps ht=>Jd.ctl rfl (λ w=>by simp [stepG,stepG.exec,aX,aV]) (h tmps ht)
theorem U.aU{ops:Array Oper}(h:U af c R H st k):U af c R H st (.inRegion ops []::k):=λ tmps ht=>Jd.ctl rfl (λ w=>by simp [stepG,stepG.exec,aX,aV]) (h tmps ht)
theorem U.cond{x:Operand}{th el:Code}{t:Bool}(hx:bg st x=some (.bool t))(h1:t=true→U af c R H st (.code th::k))(h2:t=false→U af c R H st (.code el::k)):U af c R H st (.code (.cond x th el)::k):=by
 intro tmps ht
 have he:=ht.knows c (.code (.cond x th el)::k) x _ hx
 cases t with
 | true=>exact Jd.ctl rfl (λ w=>by simp only [aV] at he; simp [stepG,stepG.exec,aX,aV,he]) (h1 rfl tmps ht)
 | false=>exact Jd.ctl rfl (λ w=>by simp only [aV] at he; simp [stepG,stepG.exec,aX,aV,he]) (h2 rfl tmps ht)
theorem U.cond_true{x:Operand}{th el:Code}(hx:bg st x=some (.bool true))(h:U af c R H st (.code th::k)):U af c R H st (.code (.cond x th el)::k):=U.cond hx (λ _=>h) (λ e=>by cases e)
theorem U.cond_false{x:Operand}{th el:Code}(hx:bg st x=some (.bool false))(h:U af c R H st (.code el::k)):U af c R H st (.code (.cond x th el)::k):=U.cond hx (λ e=>by cases e) (λ _=>h)
def m5:Op→Bool
 | .defer _=>true
 | _=>false
theorem qc{tmps:Array Value}{ops:Array Oper}{i:Nat}{rest:List Nat}{o:Oper}{w:World}(ho:ops[i]? = some o)(hw:Region.wanted o (yielded ops tmps)=true)(hd:m5 o.op=false) :
  stepG P main (aX (aV c tmps (.inRegion ops (i::rest)::k)) c.cs) w=stepG.apply P true (aV c tmps (.inRegion ops (i::rest)::k)) c.cs none (execOp (aV c tmps (.inRegion ops (i::rest)::k)).eval o) w:=by
 cases hr:c.ro with
 | none=>simp [aX,stepG,stepG.exec,stepG.oper,Frame.oper?,aV,ho,hw,hr]
 | some l =>
  simp only [aX,stepG,stepG.exec,stepG.oper,Frame.oper?,aV,ho,hw,hr,Option.map_some,Option.getD_some,if_true]
  split
  ·rename_i h1 h2; rw [h2] at hd; cases hd
  ·rfl
theorem XS{tmps:Array Value}{ops:Array Oper}{i:Nat}{rest:List Nat}{o:Oper}{w:World}(ho:ops[i]? = some o)(hw:Region.wanted o (yielded ops tmps)=false) :
  stepG P main (aX (aV c tmps (.inRegion ops (i::rest)::k)) c.cs) w = .go (aX (aV c (fG o.dst undef tmps) (.inRegion ops rest::k)) c.cs) w:=by
 simp only [aX,stepG,stepG.exec,aV,ho,hw,Option.map_some,Option.getD_some,Frame.finish,Option.bind_some,fG]
 cases o.dst <;> rfl
theorem qz{tmps:Array Value}{ops:Array Oper}{i:Nat}{rest:List Nat}{o:Oper}{v:Value}(ho:ops[i]? = some o) :
  (aV c tmps (.inRegion ops (i::rest)::k)).finish v=aV c (fG o.dst v tmps) (.inRegion ops rest::k):=by
 simp only [Frame.finish,aV,ho,Option.bind_some,fG]
 cases o.dst <;> rfl
def cE(ops:Array Oper)(st:St)(o:Oper):Option Bool :=
 match o.guard with
 | none=>some true
 | some (j,want)=>match ((ops[j]?).bind (·.dst)).bind (st.lookup ·) with
  | some (.bool b)=>some (b == want)
  | some (.tuple _)=>some false
  | _=>none
theorem kO{n:Nat}{ops:Array Oper}{tmps:Array Value}{o:Oper}{b:Bool}(ht:cM n st tmps)(h:cE ops st o=some b):Region.wanted o (yielded ops tmps)=b:=by
 unfold cE at h
 unfold Region.wanted
 split at h
 ·rename_i hg; simp only [hg]; exact Option.some.inj h
 ·rename_i j want hg
  simp only [hg,yielded]
  cases hd:(ops[j]?).bind (·.dst) with
  | none=>simp [hd] at h
  | some d =>
   simp only [hd,Option.bind_some] at h ⊢
   cases hl:st.lookup d with
   | none=>simp [hl] at h
   | some v =>
    rw [hl] at h
    rw [ht.2 d v hl]
    cases v <;> simp at h ⊢ <;> first | (rw [← h]; done) | exact h.symm | (subst h; rfl)
theorem BJ{fr:Frame}{cs:List Frame}{s:Sem Next}{w w':World}{v:Value}(hk:fr.kind ≠ .early)(hr:s.run P w = .ok (.value v) w') :
  stepG.apply P true fr cs none s w = .go (aX (fr.finish v) cs) w' (seen P fr.fn (s.events P w #[])):=by
 have cR:(fr.kind == CallKind.early)=false:=by simpa using hk
 simp [stepG.apply,hr,aX,cR,GStep.after]
theorem R9{fr:Frame}{cs:List Frame}{s:Sem Next}{w w':World}(hk:fr.kind ≠ .early)(hr:s.run P w = .ok .skip w') :
  stepG.apply P true fr cs none s w = .go (aX (fr.finish undef) cs) w' (seen P fr.fn (s.events P w #[])):=by
 have cR:(fr.kind == CallKind.early)=false:=by simpa using hk
 simp [stepG.apply,hr,aX,cR,GStep.after]
theorem Il{fr:Frame}{cs:List Frame}{s:Sem Next}{w w':World}{f:FuncId}{args:Array Value}{ops:Array Oper}{is:List Nat}{k:List Item}(ht:fr.todo = .inRegion ops is::k)(hk:fr.kind ≠ .early)(hr:s.run P w = .ok (.enter f args) w') :
  stepG.apply P true fr cs none s w = .go (aX (Frame.enter P f args .normal) (fr::cs)) w' (seen P fr.fn (s.events P w #[])):=by
 have cR:(fr.kind == CallKind.early)=false:=by simpa using hk
 simp [stepG.apply,hr,aX,cR,GStep.after,ht]
theorem U.op{ops:Array Oper}{i:Nat}{rest:List Nat}{o:Oper}(ho:ops[i]? = some o)(hw:cE ops st o=some true)(hd:m5 o.op=false)(hk:c.kind ≠ .early)
  (h:∀ ρ,Knows st ρ→aR P B R H (execOp ρ o) λ nx R' H'=>∃ v,(nx = .value v∨(nx = .skip∧v=undef))∧bT o.dst c.n∧∃ st',aI (bU o.dst v st) st'∧U af c R' H' st' (.inRegion ops rest::k)) :
  U af c R H st (.inRegion ops (i::rest)::k):=by
 intro tmps ht
 refine af.step rfl λ w qH=>?_
 obtain ⟨nx,w',R',H',h1,h2,h3,v,hv,lT,st',hs,j0⟩:=h _ (ht.knows c _) w qH
 refine ⟨aX (aV c (fG o.dst v tmps) (.inRegion ops rest::k)) c.cs,w',seen P c.fn ((execOp (aV c tmps (.inRegion ops (i::rest)::k)).eval o).events P w #[]),R',H',?_,λ e he=>h2 e (mem_seen he),h3,j0 _ ((ht.put v lT).sub hs)⟩
 rw [qc ho (kO ht hw) hd,← qz (rest:=rest) (k:=k) (c:=c) (tmps:=tmps) (v:=v) ho]
 rcases hv with rfl | ⟨rfl,rfl⟩
 ·exact BJ hk h1
 ·exact R9 hk h1
theorem U.unwanted{ops:Array Oper}{i:Nat}{rest:List Nat}{o:Oper}{st':St}(ho:ops[i]? = some o)(hw:cE ops st o=some false)(lT:bT o.dst c.n)(hs:aI (bU o.dst undef st) st')
  (h:U af c R H st' (.inRegion ops rest::k)):U af c R H st (.inRegion ops (i::rest)::k) :=
 λ _ ht=>Jd.ctl rfl (λ _=>XS ho (kO ht hw)) (h _ ((ht.put undef lT).sub hs))
def aC(af:Jd P B main)(f:FuncId)(args:Array Value)(R:az)(H:an)(Post:Value→az→an→Prop):Prop :=
 ∀ fr cs,(∀ v R' H',Post v R' H'→af.J R' H' (aX (fr.finish v) cs))→af.J R H (aX (Frame.enter P f args .normal) (fr::cs))
theorem aC.mono{f:FuncId}{args:Array Value}{Post H9:Value→az→an→Prop}(h:aC af f args R H Post)(hp:∀ v R' H',Post v R' H'→H9 v R' H'):aC af f args R H H9 :=
 λ fr cs hk=>h fr cs λ v R' H' hv=>hk v R' H' (hp v R' H' hv)
theorem U.enters{ops:Array Oper}{i:Nat}{rest:List Nat}{o:Oper}{f:FuncId}{args:Array Value}{Post:Value→az→an→Prop}(ho:ops[i]? = some o)(hw:cE ops st o=some true)(hd:m5 o.op=false)(hk:c.kind ≠ .early)(lT:bT o.dst c.n)
  (he:∀ ρ,Knows st ρ→ai P (execOp ρ o) (.enter f args)) (hf:aC af f args R H Post)
  (h:∀ v R' H',Post v R' H'→∃ st',aI (bU o.dst v st) st'∧U af c R' H' st' (.inRegion ops rest::k)) :
  U af c R H st (.inRegion ops (i::rest)::k):=by
 intro tmps ht
 refine af.step rfl λ w qH=>?_
 have hv:=he _ (ht.knows c (.inRegion ops (i::rest)::k)) w
 refine ⟨aX (Frame.enter P f args .normal) (aV c tmps (.inRegion ops (i::rest)::k)::c.cs),w,seen P c.fn ((execOp (aV c tmps (.inRegion ops (i::rest)::k)).eval o).events P w #[]),R,H,?_,?_,fP.refl qH,hf _ _ λ v R' H' hp=>?_⟩
 ·rw [qc ho (kO ht hw) hd]
  exact Il rfl hk hv.1
 ·intro e Ja
  have:=mem_seen Ja
  rw [hv.2] at this
  simp at this
 ·obtain ⟨st',hs,j0⟩:=h v R' H' hp
  rw [qz ho]
  exact j0 _ ((ht.put v lT).sub hs)
def pI(af:Jd P B main)(c:Ctx)(o:Oper)(R:az)(H:an)(st:St)(C:az→an→St→Prop):Prop :=
 m5 o.op=false∧bT o.dst c.n ∧
  ((∀ ρ,Knows st ρ→aR P B R H (execOp ρ o) λ nx R' H'=>∃ v,(nx = .value v∨(nx = .skip∧v=undef))∧∃ st',aI (bU o.dst v st) st'∧C R' H' st') ∨
   (∃ f args,(∀ ρ,Knows st ρ→ai P (execOp ρ o) (.enter f args))∧aC af f args R H λ v R' H'=>∃ st',aI (bU o.dst v st) st'∧C R' H' st'))
def aW(P:Program)(B:Base)(c:Ctx)(o:Oper)(R:az)(H:an)(st:St)(C:az→an→St→Prop):Prop :=
 m5 o.op=false∧bT o.dst c.n∧∀ ρ,Knows st ρ→aR P B R H (execOp ρ o) λ nx R' H'=>∃ v,(nx = .value v∨(nx = .skip∧v=undef))∧∃ st',aI (bU o.dst v st) st'∧C R' H' st'
theorem aW.to{o:Oper}{C:az→an→St→Prop}(h:aW P B c o R H st C):pI af c o R H st C:=⟨h.1,h.2.1,.inl h.2.2⟩
theorem U.step{ops:Array Oper}{i:Nat}{rest:List Nat}{o:Oper}(ho:ops[i]? = some o)(hw:cE ops st o=some true)(hk:(c.kind == CallKind.early)=false)
  (h:pI af c o R H st λ R' H' st'=>U af c R' H' st' (.inRegion ops rest::k)):U af c R H st (.inRegion ops (i::rest)::k):=by
 obtain ⟨hd,lT,h | ⟨f,args,h1,h2⟩⟩:=h
 ·exact U.op ho hw hd (by simpa using hk) λ ρ bd=>(h ρ bd).mono λ nx R' H' ⟨v,hv,hx⟩=>⟨v,hv,lT,hx⟩
 ·exact U.enters ho hw hd (by simpa using hk) lT h1 h2 λ v R' H' hx=>hx
theorem U.iX{ops:Array Oper}{i:Nat}{rest:List Nat}{o:Oper}(ho:ops[i]? = some o)(hw:cE ops st o=some true)(hk:(c.kind == CallKind.early)=false)
  (h:aW P B c o R H st λ R' H' st'=>U af c R' H' st' (.inRegion ops rest::k)):U af c R H st (.inRegion ops (i::rest)::k):=U.step ho hw hk h.to
theorem U.aCX{id n:Nat}{is:List Nat}{ops:Array Oper}(hn:ops.size=n)(mF:List.range n=is)(h:U af c R H st (.inRegion ops is::k)):U af c R H st (.code (.region id ops false)::k):=by
 subst hn; subst mF; exact U.region h
def vR:Nat→List Value→St
 | _,[]=>[]
 | i,v::r=>(i,v)::vR (i+1) r
theorem Im:∀ (args:List Value) (i t:Nat) (v:Value),(vR i args).lookup t=some v→i≤t∧args[t - i]? = some v
 | [],_,_,_,h=>by cases h
 | a::r,i,t,v,h=>by
  simp only [vR,List.lookup_cons] at h
  split at h
  ·rename_i heq
   cases h
   have:t=i:=by simpa using heq
   subst this
   simp
  ·rename_i heq
   have dU:t≠i:=by simpa using heq
   obtain ⟨h1,h2⟩:=Im r (i+1) t v h
   refine ⟨by omega,?_⟩
   have:t - i=(t - (i+1))+1:=by omega
   rw [this]
   simpa using h2
theorem aC.bn{f:FuncId}{fn:Func}{body:Code}{args:List Value}{n:Nat}{Post:Value→az→an→Prop}(hf:P.funcs[f]? = some fn)(hb:fn.body=some body)(rA:fn.ntmps=n)(hn:Nat.ble args.length n=true)
  (h:∀ fr cs,(∀ v R' H',Post v R' H'→af.J R' H' (aX (fr.finish v) cs))→U af ⟨f,.normal,none,n,[],fr::cs⟩ R H (vR 0 args) [.code body]):aC af f args.toArray R H Post:=by
 subst rA
 intro fr cs hk
 have hn:args.length≤fn.ntmps:=by simpa [Nat.ble_eq] using hn
 have:=h fr cs hk (args.toArray++Array.replicate (fn.ntmps - args.length) undef) ⟨by simp; omega,λ t v ht=>?_⟩
 ·have e:Frame.enter P f args.toArray .normal=aV ⟨f,.normal,none,fn.ntmps,[],fr::cs⟩ (args.toArray++Array.replicate (fn.ntmps - args.length) undef) [.code body]:=by
   simp [Frame.enter,aV,hf,hb]
  rw [e]
  exact this
 ·obtain ⟨_,h2⟩:=Im args 0 t v ht
  have bK:t < args.length:=by
   have:=(List.getElem?_eq_some_iff.1 h2).1
   simpa using this
  rw [Array.getElem?_append_left (by simpa using bK)]
  simpa using h2
def yE(st:St):List ResultVar→Option (List Value)
 | []=>some []
 | .tmp t::r=>match st.lookup t,yE st r with
  | some v,some vs=>some (v::vs)
  | _,_=>none
 | .cell _ _::_=>none
def iE:List Value→Value
 | [v]=>v
 | vs=>.tuple vs.toArray
theorem afN{st:St}{tmps:Array Value}{n:Nat}(ht:cM n st tmps):∀ (l:List ResultVar) (vs:List Value),yE st l=some vs →
  ai P (l.mapM (m:=Sem) λ
   | .tmp t=>pure (tmps.getD t undef)
   | .cell a t=>do loadVar t (← asAddr (tmps.getD a undef))) vs
 | [],vs,h=>by cases h; exact ai.pure _
 | .tmp t::r,vs,h=>by
  simp only [yE] at h
  cases hl:st.lookup t with
  | none=>simp [hl] at h
  | some v =>
   cases hr:yE st r with
   | none=>simp [hl,hr] at h
   | some us =>
    simp only [hl,hr,Option.some.injEq] at h
    subst h
    rw [List.mapM_cons]
    refine ai.bind (a:=v) ?_ (ai.bind (afN ht r us hr) (ai.pure _))
    have:tmps.getD t undef=v:=by simp [Array.getD_eq_getD_getElem?,ht.2 t v hl]
    show ai P (pure (tmps.getD t undef)) v
    rw [this]; exact ai.pure _
 | .cell _ _::_,_,h=>by cases h
theorem Yc{fn:Func}{st:St}{tmps:Array Value}{n:Nat}{vs:List Value}(ht:cM n st tmps)(h:yE st fn.results.toList=some vs):ai P (results fn tmps) (iE vs):=by
 unfold results
 rw [← Array.toArray_toList (xs:=fn.results),List.mapM_toArray]
 refine ai.bind (ai.map (afN ht _ _ h)) ?_
 cases vs with
 | nil=>exact ai.pure _
 | cons v r=>cases r with
  | nil=>exact ai.pure _
  | cons _ _=>exact ai.pure _
end
end Go.Lg
namespace Go.Lg
open Go.Conc
theorem sz(b o n:Nat):(⟨b,o,none⟩:Addr).add n=⟨b,o+n,none⟩:=by
 unfold Addr.add; split
 ·subst_vars; rfl
 ·rfl
def gy(P:Program)(s f off:Nat):Prop:=∀ b o:Nat,ai P (Instr.fieldAt s (.pointer (some ⟨b,o,none⟩)) f) (.pointer (some ⟨b,o+off,none⟩))
def mR(P:Program)(t e n:Nat):Prop:=P.underlying t=some (.slice e)∧ai P (sizeOf e) n
def vN(P:Program)(t len e n:Nat):Prop:=P.underlying t=some (.array len e)∧ai P (sizeOf e) n
def akd(z:Int):Prop:=-9223372036854775808≤z∧z≤9223372036854775807
theorem agr{z:Int}(h:akd z):IntKind.wrap .i64 z=z:=by
 obtain ⟨h1,h2⟩:=h
 simp only [IntKind.wrap,IntKind.bits,IntKind.signed]
 simp
 omega
section
variable {P:Program} {B:Base} {main:Bool} {af:Jd P B main} {c:Ctx} {R:az} {H:an} {st st':St} {o:Oper} {C:az→an→St→Prop}
theorem Ox.val{v:Value}(mD:m5 o.op=false)(hd:bT o.dst c.n)
  (hv:∀ ρ,Knows st ρ→ai P (execOp ρ o) (.value v)) (hs:aI (bU o.dst v st) st') (h:C R H st'):aW P B c o R H st C :=
 ⟨mD,hd,λ ρ bd=>(hv ρ bd).ok ⟨v,.inl rfl,st',hs,h⟩⟩
theorem Ox.me{s:(Operand→Value)→Sem Value}{v:Value}(mD:m5 o.op=false)(hd:bT o.dst c.n)
  (he:∀ ρ,execOp ρ o=(do let x ← s ρ; pure (.value x))) (hv:∀ ρ,Knows st ρ→ai P (s ρ) v) (hs:aI (bU o.dst v st) st') (h:C R H st'):aW P B c o R H st C :=
 Ox.val mD hd (λ ρ bd=>by rw [he]; exact ai.bind (hv ρ bd) (ai.pure _)) hs h
theorem Ox.mem{s:(Operand→Value)→Sem Value}(mD:m5 o.op=false)(hd:bT o.dst c.n)
  (he:∀ ρ,execOp ρ o=(do let x ← s ρ; pure (.value x)))
  (hv:∀ ρ,Knows st ρ→aR P B R H (s ρ) λ v R' H'=>∃ st',aI (bU o.dst v st) st'∧C R' H' st'):aW P B c o R H st C :=
 ⟨mD,hd,λ ρ bd=>by
  rw [he]
  exact aR.bind ((hv ρ bd).mono λ v R' H' ⟨st',hs,h⟩=>aR.pure ⟨v,.inl rfl,st',hs,h⟩)⟩
theorem Ox.Oq{s:(Operand→Value)→Sem Unit}(mD:m5 o.op=false)(hd:o.dst=none)
  (he:∀ ρ,execOp ρ o=(do s ρ; pure .skip)) (hs:aI st st')
  (hv:∀ ρ,Knows st ρ→aR P B R H (s ρ) λ _ R' H'=>C R' H' st'):aW P B c o R H st C :=
 ⟨mD,by rw [hd]; rfl,λ ρ bd=>by
  rw [he]
  exact aR.bind ((hv ρ bd).mono λ v R' H' h=>aR.pure ⟨undef,.inr ⟨rfl,rfl⟩,st',by rw [hd]; exact hs,h⟩)⟩
theorem Ox.move{x:Operand}{v:Value}(au:o.op = .move x)(hx:bg st x=some v)(hd:bT o.dst c.n)
  (hs:aI (bU o.dst v st) st') (h:C R H st'):aW P B c o R H st C :=
 Ox.val (by rw [au]; rfl) hd (λ ρ bd=>by simp only [execOp,au,bd x v hx]; exact ai.pure _) hs h
theorem Ox.assign{x:Operand}{v:Value}(au:o.op = .assign x)(hx:bg st x=some v)(hd:bT o.dst c.n)
  (hs:aI (bU o.dst v st) st') (h:C R H st'):aW P B c o R H st C :=
 Ox.val (by rw [au]; rfl) hd (λ ρ bd=>by simp only [execOp,au,bd x v hx]; exact ai.pure _) hs h
theorem Ox.aCx{x y z:Operand}{v:Value}(au:o.op = .pick x y z)(hx:bg st x=some (.bool true))(hy:bg st y=some v)(hd:bT o.dst c.n)
  (hs:aI (bU o.dst v st) st') (h:C R H st'):aW P B c o R H st C :=
 Ox.val (by rw [au]; rfl) hd (λ ρ bd=>by
  simp only [execOp,au,bd x _ hx,bd y v hy,asBool]
  exact ai.bind (ai.pure true) (ai.pure _)) hs h
theorem Ox.aCw{x y z:Operand}{v:Value}(au:o.op = .pick x y z)(hx:bg st x=some (.bool false))(hz:bg st z=some v)(hd:bT o.dst c.n)
  (hs:aI (bU o.dst v st) st') (h:C R H st'):aW P B c o R H st C :=
 Ox.val (by rw [au]; rfl) hd (λ ρ bd=>by
  simp only [execOp,au,bd x _ hx,bd z v hz,asBool]
  exact ai.bind (ai.pure false) (ai.pure _)) hs h
theorem Ox.fieldAddr{x:Operand}{s f off b n:Nat}(au:o.op = .fieldAddr s x f)(hx:bg st x=some (.pointer (some ⟨b,n,none⟩)))(hf:gy P s f off)(hd:bT o.dst c.n)
  (hs:aI (bU o.dst (.pointer (some ⟨b,n+off,none⟩)) st) st') (h:C R H st'):aW P B c o R H st C :=
 Ox.me (s:=λ ρ=>Instr.fieldAt s (ρ x) f) (by rw [au]; rfl) hd (λ ρ=>by simp only [execOp,au]) (λ ρ bd=>by rw [bd x _ hx]; exact hf b n) hs h
theorem Yb{t e n b m len cap:Nat}{kd:IntKind}{j:Nat}(ht:mR P t e n)(hj:j < len) :
  ai P (Instr.indexAt t (.slice (some ⟨b,m,none⟩) len cap) (.int kd (j:Int))) (.pointer (some ⟨b,m+j * n,none⟩)):=by
 unfold Instr.indexAt
 refine ai.bind (a:=(kd,(j:Int))) (ai.pure _) (ai.bind (ai.underlying ht.1) (ai.bind (a:=(some (⟨b,m,none⟩:Addr),len,e)) (ai.pure _) (ai.bind (ai.underlying ht.1) ?_)))
 have h1:(0:Int)≤(j:Int)∧(j:Int) < (len:Int):=by omega
 simp only [h1,and_self,if_true,Int.toNat_natCast]
 refine ai.bind ht.2 ?_
 rw [sz]
 exact ai.pure _
theorem aEu{t e n b m len:Nat}{kd:IntKind}{j:Nat}(ht:vN P t len e n)(hj:j < len) :
  ai P (Instr.indexAt t (.pointer (some ⟨b,m,none⟩)) (.int kd (j:Int))) (.pointer (some ⟨b,m+j * n,none⟩)):=by
 unfold Instr.indexAt
 refine ai.bind (a:=(kd,(j:Int))) (ai.pure _) (ai.bind (ai.underlying ht.1) (ai.bind (a:=(⟨b,m,none⟩:Addr)) (ai.pure _) (ai.bind (a:=(some (⟨b,m,none⟩:Addr),len,e)) (ai.pure _) (ai.bind (ai.underlying ht.1) ?_))))
 have h1:(0:Int)≤(j:Int)∧(j:Int) < (len:Int):=by omega
 simp only [h1,and_self,if_true,Int.toNat_natCast]
 refine ai.bind ht.2 ?_
 rw [sz]
 exact ai.pure _
theorem DD(op:BinOp)(t:TypeId)(x y:Operand)(ka kb:IntKind)(a b:Int):ai P (eqGuard op t x y (.int ka a) (.int kb b)) ():=by
 unfold eqGuard
 cases op <;> exact ai.pure _
def SM:BinOp→Int→Int→Option Bool
 | .eql,x,y=>some (x == y)
 | .neq,x,y=>some (x != y)
 | .lss,x,y=>some (decide (x < y))
 | .leq,x,y=>some (decide (x≤y))
 | .gtr,x,y=>some (decide (x > y))
 | .geq,x,y=>some (decide (x ≥ y))
 | _,_,_=>none
theorem Ox.cmp{x y:Operand}{bo:BinOp}{t u:TypeId}{a b:Int}{kd:IntKind}{r:Bool}(au:o.op = .binOp bo t x y u)(hx:bg st x=some (.int kd a))(hy:bg st y=some (.int kd b))(hr:SM bo a b=some r)
  (hd:bT o.dst c.n) (hs:aI (bU o.dst (.bool r) st) st') (h:C R H st'):aW P B c o R H st C :=
 Ox.me (s:=λ ρ=>do eqGuard bo t x y (ρ x) (ρ y); binOp bo t (ρ x) (ρ y)) (by rw [au]; rfl) hd (λ ρ=>by simp only [execOp,au]) (λ ρ bd=>by
  rw [bd x _ hx,bd y _ hy]
  refine ai.bind (DD _ _ _ _ _ _ _ _) ?_
  cases bo <;> simp only [SM,Option.some.injEq,reduceCtorEq] at hr <;> subst hr <;> simp only [binOp,ne_eq,not_true_eq_false,if_false] <;> exact ai.pure _) hs h
def Sa:BinOp→Int→Int→Option Int
 | .add,x,y=>some (x+y)
 | .sub,x,y=>some (x - y)
 | .mul,x,y=>some (x * y)
 | _,_,_=>none
theorem Ox.not{x:Operand}{t:TypeId}{a:Bool}(au:o.op = .unOp .not t x)(hx:bg st x=some (.bool a))
  (hd:bT o.dst c.n) (hs:aI (bU o.dst (.bool (!a)) st) st') (h:C R H st'):aW P B c o R H st C :=
 Ox.me (s:=λ ρ=>Op.unary .not (ρ x)) (by rw [au]; rfl) hd (λ ρ=>by simp only [execOp,au]) (λ ρ bd=>by rw [bd x _ hx]; exact ai.pure _) hs h
theorem Ox.extract{x:Operand}{j:Nat}{vs:Array Value}{v:Value}(au:o.op = .extract x j)(hx:bg st x=some (.tuple vs))(hj:vs[j]? = some v)
  (hd:bT o.dst c.n) (hs:aI (bU o.dst v st) st') (h:C R H st'):aW P B c o R H st C :=
 Ox.me (s:=λ ρ=>Instr.extract (ρ x) j) (by rw [au]; rfl) hd (λ ρ=>by simp only [execOp,au]) (λ ρ bd=>by
  rw [bd x _ hx]
  simp only [Instr.extract,hj]; exact ai.pure _) hs h
theorem Ox.makeFunc{fn:Fn}{first captured:Array Operand}{vs us:Array Value}(au:o.op = .makeFunc fn first captured)(h1:first.toList.mapM (bg st)=some vs.toList)(h2:captured.toList.mapM (bg st)=some us.toList)
  (hd:bT o.dst c.n) (hs:aI (bU o.dst (.func fn vs us) st) st') (h:C R H st'):aW P B c o R H st C :=
 Ox.me (s:=λ ρ=>Instr.makeFunc fn (first.map ρ) (captured.map ρ)) (by rw [au]; rfl) hd (λ ρ=>by simp only [execOp,au]) (λ ρ bd=>by
  have key:∀ (l:List Operand) (r:List Value),l.mapM (bg st)=some r→l.map ρ=r:=by
   intro l
   induction l with
   | nil=>intro r hr; simpa using hr
   | cons a l ih =>
    intro r hr
    rw [List.mapM_cons] at hr
    cases ha:bg st a with
    | none=>simp [ha] at hr
    | some u =>
     cases hl:l.mapM (bg st) with
     | none=>simp [ha,hl] at hr
     | some us =>
      simp [ha,hl] at hr
      subst hr
      simp [bd a u ha,ih us hl]
  have e1:first.map ρ=vs:=by apply Array.ext'; simpa using key _ _ h1
  have e2:captured.map ρ=us:=by apply Array.ext'; simpa using key _ _ h2
  rw [e1,e2]
  exact ai.pure _) hs h
theorem Ox.len{x:Operand}{t e:TypeId}{a:Option Addr}{n cap:Nat}(au:o.op = .call ⟨.builtin .len,#[x],#[t]⟩)(hx:bg st x=some (.slice a n cap))(ht:P.underlying t=some (.slice e))
  (hd:bT o.dst c.n) (hs:aI (bU o.dst (.int .i64 (n:Int)) st) st') (h:C R H st'):aW P B c o R H st C :=
 Ox.val (by rw [au]; rfl) hd (λ ρ bd=>by
  simp only [execOp,au]
  refine ai.bind (a:=⟨.builtin .len #[t] o.type (#[x].map λ | .const _=>true | _=>false),#[x].map ρ⟩) (ai.pure _) ?_
  simp only [invoke,builtin]
  refine ai.bind (a:=.int .i64 (n:Int)) ?_ (ai.pure _)
  have e:(#[x].map ρ)=#[.slice a n cap]:=by simp [bd x _ hx]
  rw [e]
  exact ai.bind (ai.underlying ht) (ai.pure _)) hs h
theorem Ox.N8{x:Operand}{t:TypeId}{s:ByteArray}(au:o.op = .call ⟨.builtin .len,#[x],#[t]⟩)(hx:bg st x=some (.string s))(ht:P.underlying t=some .string)
  (hd:bT o.dst c.n) (hs:aI (bU o.dst (.int .i64 (s.size:Int)) st) st') (h:C R H st'):aW P B c o R H st C :=
 Ox.val (by rw [au]; rfl) hd (λ ρ bd=>by
  simp only [execOp,au]
  refine ai.bind (a:=⟨.builtin .len #[t] o.type (#[x].map λ | .const _=>true | _=>false),#[x].map ρ⟩) (ai.pure _) ?_
  simp only [invoke,builtin]
  refine ai.bind (a:=.int .i64 (s.size:Int)) ?_ (ai.pure _)
  have e:(#[x].map ρ)=#[.string s]:=by simp [bd x _ hx]
  rw [e]
  exact ai.bind (ai.underlying ht) (ai.pure _)) hs h
theorem DC{f:FuncId}{fn:Func}{args:Array Value}(hf:P.funcs[f]? = some fn)(hn:(fn.name == "runtime.NumGoroutine")=false)(hb:fn.body.isNone=false):ai P (callFunc f args) (.enter f args):=by
 unfold callFunc
 refine ai.bind ai.program ?_
 simp only [hf,hn,hb]
 exact ai.pure _
structure bj (P:Program) (f:FuncId):Prop where
 ex:∃ fn,P.funcs[f]? = some fn∧(fn.name == "runtime.NumGoroutine")=false∧fn.body.isNone=false
def ji(st:St):List Operand→Option (List Value)
 | []=>some []
 | x::r=>match bg st x,ji st r with
  | some v,some vs=>some (v::vs)
  | _,_=>none
theorem BK{st:St}{ρ:Operand→Value}(bd:Knows st ρ):∀ (l:List Operand) (r:List Value),ji st l=some r→l.map ρ=r
 | [],r,h=>by cases h; rfl
 | x::l,r,h=>by
  simp only [ji] at h
  cases hx:bg st x with
  | none=>simp [hx] at h
  | some v =>
   cases hl:ji st l with
   | none=>simp [hx,hl] at h
   | some vs =>
    simp [hx,hl] at h
    subst h
    simp [bd x v hx,BK bd l vs hl]
theorem Ox.fQ{ca:Call}{x:Operand}{f:FuncId}{first captured:Array Value}{vs:List Value}{args:Array Value}
  (au:o.op = .call ca) (hc:ca.callee = .value x) (hx:bg st x=some (.func (.func f) first captured)) (ha:ji st ca.args.toList=some vs) (he:bj P f) (I3:first++vs.toArray++captured=args)
  (hd:bT o.dst c.n) (hf:aC af f args R H λ v R' H'=>∃ st',aI (bU o.dst v st) st'∧C R' H' st'):pI af c o R H st C :=
 ⟨by rw [au]; rfl,hd,.inr ⟨f,args,λ ρ bd=>by
  obtain ⟨fn,h1,h2,h3⟩:=he.ex
  simp only [execOp,au,resolve,hc,bd x _ hx,Deferred.ofValue]
  have e:ca.args.map ρ=vs.toArray:=by apply Array.ext'; simpa using BK bd _ _ ha
  refine ai.bind (a:=⟨.fn (.func f) captured,first++vs.toArray⟩) (by rw [e]; exact ai.pure _) ?_
  simp only [invoke,I3]
  exact DC h1 h2 h3,hf⟩⟩
end
end Go.Lg
namespace Go.Lg
open Go.Conc
def jC(P:Program)(t:TypeId)(cs:Array Value):Prop:=∃ z,ai P (zeroValue t) z∧z.cells=cs
def ic(P:Program)(t:TypeId):Prop:=ai P (isAgg t) false∧ai P (sizeOf t) 1
def nA(P:Program)(t:TypeId)(n:Nat):Prop:=ai P (isAgg t) true∧ai P (sizeOf t) n
def aQ(R:az)(H:an)(b o:Nat)(vs:List Value):Prop:=∀ j v,vs[j]? = some v→Cell R H ⟨b,o+j,none⟩ v
theorem aQ.known{R:az}{H:an}{b o n:Nat}{cs:Array Value}{e:TypeId}{fz:Nat × Nat}{vs:List Value}(hm:R b=some (Obj.cells cs e fz))(hv:(cs.toList.drop o).take n=vs):aQ R H b o vs:=by
 intro j v hj
 refine ⟨rfl,cs,e,fz,.inl hm,?_⟩
 subst hv
 rw [List.getElem?_take] at hj
 split at hj
 ·rw [List.getElem?_drop] at hj
  simpa using hj
 ·cases hj
def fU(cs:Array Value):Nat→List Value→Array Value
 | _,[]=>cs
 | o,v::r=>fU (cs.setIfInBounds o v) (o+1) r
theorem KY:∀ (vs:List Value) (cs:Array Value) (o:Nat),(fU cs o vs).size=cs.size
 | [],_,_=>rfl
 | v::r,cs,o=>by simp only [fU]; rw [KY r]; simp
theorem fp.mid{H H1 H':an}{b:Nat}{o o' o'':Obj}(h:fp H b o o' H1)(k:fp H b o o'' H')(hn:(H.map (·.1)).Nodup):fp H1 b o' o'' H':=by
 induction h generalizing H' with
 | @here b o o' H =>
  cases k with
  | here=>exact .here
  | there k =>
   rw [List.map_cons,List.nodup_cons] at hn
   exact absurd (List.mem_map.2 ⟨_,k.mem,rfl⟩) hn.1
 | @there b o o' p H H1 hs ih =>
  cases k with
  | here =>
   rw [List.map_cons,List.nodup_cons] at hn
   exact absurd (List.mem_map.2 ⟨_,hs.mem,rfl⟩) hn.1
  | there k =>
   rw [List.map_cons,List.nodup_cons] at hn
   exact .there (ih k hn.2)
section
variable {P:Program} {B:Base} {main:Bool} {af:Jd P B main} {c:Ctx} {R:az} {H H':an} {st st':St} {o:Oper} {C:az→an→St→Prop}
theorem aR.O6{b:Nat}{e:TypeId}{K:Unit→az→an→Prop}:∀ (vs:List Value) (cs:Array Value) (off i:Nat) (H H':an),(∀ v∈vs,v.oneCell'=true)→off+i+vs.length≤cs.size →
  fp H b (.cells cs e (0,0)) (.cells (fU cs (off+i) vs) e (0,0)) H'→(H.map (·.1)).Nodup→K () R H'→aR P B R H (storeCells ⟨b,off,none⟩ vs i) K
 | [],cs,off,i,H,H',_,_,hs,hn,hk=>by
  have e1:H'=H:=by
   have:∀ {H H':an} {o:Obj},fp H b o o H'→H'=H:=by
    intro H H' o h
    induction H generalizing H' with
    | nil=>cases h
    | cons p r ih =>
     cases h with
     | here=>rfl
     | there h=>rw [ih h]
   exact this hs
  subst e1
  simp only [storeCells]
  exact aR.pure hk
 | v::r,cs,off,i,H,H',h1,hl,hs,hn,hk=>by
  simp only [storeCells]
  simp only [List.length_cons] at hl
  have hex:∀ (H:an) (o o':Obj),(b,o)∈H→∃ H1,fp H b o o' H1:=by
   intro H o o' hm
   induction H with
   | nil=>cases hm
   | cons p r ih =>
    rcases List.mem_cons.1 hm with rfl | hm
    ·exact ⟨_,.here⟩
    ·obtain ⟨H1,h1⟩:=ih hm
     exact ⟨_,.there h1⟩
  obtain ⟨H1,rB⟩:=hex H _ (.cells (cs.setIfInBounds (off+i) v) e (0,0)) hs.mem
  have ZB:fp H1 b (.cells (cs.setIfInBounds (off+i) v) e (0,0)) (.cells (fU cs (off+i) (v::r)) e (0,0)) H':=fp.mid rB hs hn
  refine aR.bind ?_
  rw [sz]
  refine aR.store (h1 v (by simp)) rfl (by show off+i < cs.size; omega) rB ?_
  exact aR.O6 r (cs.setIfInBounds (off+i) v) off (i+1) H1 H' (λ u hu=>h1 u (by simp [hu])) (by simp; omega) (by simpa [fU,Nat.add_assoc] using ZB) (by rw [rB.keys]; exact hn) hk
theorem aR.given{α:Type}{s:Sem α}{K:α→az→an→Prop}(h:(H.map (·.1)).Nodup→aR P B R H s K):aR P B R H s K:=λ w hw=>h hw.nd w hw
theorem aR.storeVar{t:TypeId}{b off n:Nat}{e:TypeId}{v:Value}{cs:Array Value}{K:Unit→az→an→Prop}(hn:ai P (sizeOf t) n)(hvn:v.cells.size=n)(h1:∀ u∈v.cells.toList,u.oneCell'=true)(hl:off+n≤cs.size)
  (hs:fp H b (.cells cs e (0,0)) (.cells (fU cs off v.cells.toList) e (0,0)) H') (hk:K () R H'):aR P B R H (storeVar t ⟨b,off,none⟩ v) K:=by
 refine aR.given λ dR=>?_
 unfold Go.storeVar
 refine ai.eX hn ?_
 simp only [hvn,ne_eq,not_true_eq_false,if_false]
 exact aR.O6 _ cs off 0 H H' h1 (by simp [hvn]; exact hl) (by simpa using hs) dR hk
theorem aR.loadCellsFrom{b off:Nat}{K:Array Value→az→an→Prop}:∀ (vs:List Value) (i:Nat) (acc:Array Value),aQ R H b (off+i) vs→K (acc++vs.toArray) R H→aR P B R H (loadCellsFrom ⟨b,off,none⟩ i vs.length acc) K
 | [],i,acc,_,hk=>by
  simp only [List.length_nil,Go.loadCellsFrom]
  exact aR.pure (by simpa using hk)
 | v::r,i,acc,hc,hk=>by
  simp only [List.length_cons,Go.loadCellsFrom]
  refine aR.bind ?_
  rw [sz]
  refine aR.load (v:=v) (by simpa using hc 0 v rfl) ?_
  refine aR.loadCellsFrom r (i+1) (acc.push v) (λ j u hj=>?_) (by simpa using hk)
  have:=hc (j+1) u (by simpa using hj)
  simpa [Nat.add_assoc,Nat.add_comm,Nat.add_left_comm] using this
theorem Ox.cT{x:Operand}{t:TypeId}{b off:Nat}{v:Value}(au:o.op = .load t x)(hx:bg st x=some (.pointer (some ⟨b,off,none⟩)))(ht:ic P t)(hc:Cell R H ⟨b,off,none⟩ v)
  (hd:bT o.dst c.n) (hs:aI (bU o.dst v st) st') (h:C R H st'):aW P B c o R H st C :=
 Ox.mem (s:=λ ρ=>Instr.loadAt t (ρ x)) (by rw [au]; rfl) hd (λ ρ=>by simp only [execOp,au]) (λ ρ bd=>by
  rw [bd x _ hx]
  simp only [Instr.loadAt,Instr.sureAddr,loadVar]
  refine ai.eX (ai.pure _) (ai.eX ht.1 ?_)
  exact aR.load hc ⟨st',hs,h⟩)
theorem Ox.bP{x:Operand}{t:TypeId}{b off n:Nat}{vs:List Value}(au:o.op = .load t x)(hx:bg st x=some (.pointer (some ⟨b,off,none⟩)))(ht:nA P t n)(hn:vs.length=n)(hc:aQ R H b off vs)
  (hd:bT o.dst c.n) (hs:aI (bU o.dst (.agg vs.toArray) st) st') (h:C R H st'):aW P B c o R H st C :=
 Ox.mem (s:=λ ρ=>Instr.loadAt t (ρ x)) (by rw [au]; rfl) hd (λ ρ=>by simp only [execOp,au]) (λ ρ bd=>by
  rw [bd x _ hx]
  simp only [Instr.loadAt,Instr.sureAddr,loadVar]
  refine ai.eX (ai.pure _) (ai.eX ht.1 ?_)
  simp only [if_true]
  refine ai.eX ht.2 (aR.bind ?_)
  subst hn
  exact aR.loadCellsFrom vs 0 #[] (by simpa using hc) (aR.pure ⟨st',by simpa using hs,h⟩))
theorem Ox.gE{x y:Operand}{t e:TypeId}{b off:Nat}{v:Value}{cs cs':Array Value}(au:o.op = .store t x y)(hx:bg st x=some (.pointer (some ⟨b,off,none⟩)))(hy:bg st y=some v)(ht:ic P t)(hv:v.oneCell'=true)(hs:fp H b (.cells cs e (0,0)) (.cells cs' e (0,0)) H')(hl:Nat.blt off cs.size=true)(qE:cs.setIfInBounds off v=cs')
  (hd:o.dst=none) (Jz:aI st st') (h:C R H' st'):aW P B c o R H st C :=
 Ox.Oq (s:=λ ρ=>Instr.storeAt t (ρ x) (ρ y)) (by rw [au]; rfl) hd (λ ρ=>by simp only [execOp,au]) Jz (λ ρ bd=>by
  rw [bd x _ hx,bd y _ hy]
  simp only [Instr.storeAt,Instr.sureAddr]
  refine ai.eX (ai.pure _) ?_
  have V7:v.cells=#[v]:=by cases v <;> first | rfl | (simp [Value.oneCell'] at hv)
  refine aR.storeVar (cs:=cs) (e:=e) ht.2 (by rw [V7]; rfl) (by rw [V7]; simpa using hv) (Nat.le_of_ble_eq_true hl) ?_ h
  rw [V7]
  simpa [fU,qE] using hs)
theorem Ox.cp{x y:Operand}{t e:TypeId}{b off n:Nat}{vs:Array Value}{cs cs':Array Value}(au:o.op = .store t x y)(hx:bg st x=some (.pointer (some ⟨b,off,none⟩)))(hy:bg st y=some (.agg vs))(ht:nA P t n)(hn:vs.size=n)(h1:∀ u∈vs.toList,u.oneCell'=true)(hs:fp H b (.cells cs e (0,0)) (.cells cs' e (0,0)) H')(hl:Nat.ble (off+n) cs.size=true)(qE:fU cs off vs.toList=cs')
  (hd:o.dst=none) (Jz:aI st st') (h:C R H' st'):aW P B c o R H st C :=
 Ox.Oq (s:=λ ρ=>Instr.storeAt t (ρ x) (ρ y)) (by rw [au]; rfl) hd (λ ρ=>by simp only [execOp,au]) Jz (λ ρ bd=>by
  rw [bd x _ hx,bd y _ hy]
  simp only [Instr.storeAt,Instr.sureAddr]
  refine ai.eX (ai.pure _) ?_
  exact aR.storeVar (cs:=cs) (e:=e) ht.2 hn h1 (Nat.le_of_ble_eq_true hl) (by simpa [Value.cells,qE] using hs) h)
theorem Ox.ua{x:Operand}{t:TypeId}{v:Value}(au:o.op = .box t x)(hx:bg st x=some v)(hv:v.cells=#[v])(hd:bT o.dst c.n)
  (h:∀ b,R b=none→(∀ x,(b,x) ∉ H)→∃ st',aI (bU o.dst (.pointer (some ⟨b,0,none⟩)) st) st'∧C R ((b,.cells #[v] t)::H) st'):aW P B c o R H st C :=
 Ox.mem (s:=λ ρ=>Instr.box t (ρ x)) (by rw [au]; rfl) hd (λ ρ=>by simp only [execOp,au]) (λ ρ bd=>by
  rw [bd x _ hx]
  simp only [Instr.box,newVar,newRow,hv]
  exact aR.bind (aR.bind (aR.new λ b h1 h2=>aR.pure (aR.pure (h b h1 h2)))))
theorem Ox.abk{x:Operand}{t:TypeId}{vs:Array Value}(au:o.op = .box t x)(hx:bg st x=some (.agg vs))(hd:bT o.dst c.n)
  (h:∀ b,R b=none→(∀ x,(b,x) ∉ H)→∃ st',aI (bU o.dst (.pointer (some ⟨b,0,none⟩)) st) st'∧C R ((b,.cells vs t)::H) st'):aW P B c o R H st C :=
 Ox.mem (s:=λ ρ=>Instr.box t (ρ x)) (by rw [au]; rfl) hd (λ ρ=>by simp only [execOp,au]) (λ ρ bd=>by
  rw [bd x _ hx]
  simp only [Instr.box,newVar,newRow,Value.cells]
  exact aR.bind (aR.bind (aR.new λ b h1 h2=>aR.pure (aR.pure (h b h1 h2)))))
theorem Ox.alloc{t:TypeId}{cs:Array Value}(au:o.op = .alloc t)(ht:jC P t cs)(hd:bT o.dst c.n)
  (h:∀ b,R b=none→(∀ x,(b,x) ∉ H)→∃ st',aI (bU o.dst (.pointer (some ⟨b,0,none⟩)) st) st'∧C R ((b,.cells cs t)::H) st'):aW P B c o R H st C :=
 Ox.mem (s:=λ _=>Instr.alloc t true (.tuple #[])) (by rw [au]; rfl) hd (λ ρ=>by simp only [execOp,au]) (λ ρ bd=>by
  obtain ⟨z,hz,rfl⟩:=ht
  simp only [Instr.alloc,newVar,newRow]
  exact ai.eX hz (aR.bind (aR.bind (aR.new λ b h1 h2=>aR.pure (aR.pure (h b h1 h2))))))
def AL(st:St):List (Nat × Operand)→Option (List (Nat × Value))
 | []=>some []
 | (j,x)::r=>match bg st x,AL st r with
  | some v,some vs=>some ((j,v)::vs)
  | _,_=>none
theorem XC{ρ:Operand→Value}(bd:Knows st ρ):∀ (l:List (Nat × Operand)) (r:List (Nat × Value)),AL st l=some r→l.map (λ (j,x)=>(j,ρ x))=r
 | [],r,h=>by cases h; rfl
 | (j,x)::l,r,h=>by
  simp only [AL] at h
  cases hx:bg st x with
  | none=>simp [hx] at h
  | some v =>
   cases hl:AL st l with
   | none=>simp [hx,hl] at h
   | some vs =>
    simp [hx,hl] at h
    subst h
    simp [bd x v hx,XC bd l vs hl]
def vQ(P:Program)(t:TypeId)(places:List (Nat × Nat))(z:Array Value):Prop :=
 jC P t z∧∃ fs:Array Field,P.underlying t=some (.struct fs)∧ai P (fs.mapM λ f=>do pure (f.offset,← sizeOf f.type)) places.toArray
theorem Ox.build{t:TypeId}{parts:Array (Nat × Operand)}{ps:List (Nat × Value)}{places:List (Nat × Nat)}{z cells:Array Value}(au:o.op = .build t parts)(ht:vQ P t places z)(hp:AL st parts.toList=some ps)(hf:Instr.fill (places.toArray[·]?) z ps=some cells)
  (hd:bT o.dst c.n) (hs:aI (bU o.dst (.agg cells) st) st') (h:C R H st'):aW P B c o R H st C :=
 Ox.me (s:=λ ρ=>Instr.build t (parts.map λ (j,x)=>(j,ρ x))) (by rw [au]; rfl) hd (λ ρ=>by simp only [execOp,au]) (λ ρ bd=>by
  obtain ⟨⟨z0,hz,rfl⟩,fs,h1,h2⟩:=ht
  have e:(parts.map λ (j,x)=>(j,ρ x))=ps.toArray:=by apply Array.ext'; simpa using XC bd _ _ hp
  rw [e]
  unfold Instr.build
  refine ai.bind hz (ai.bind (ai.underlying h1) (ai.bind h2 ?_))
  simp only [hf]
  exact ai.pure _) hs h
def tQ(P:Program)(t e n:Nat)(z:Array Value):Prop:=P.underlying t=some (.slice e)∧ai P (sizeOf e) n∧jC P e z∧z.size=n∧0 < n
theorem Ox.buildSlice{t e n len:Nat}{parts:Array (Nat × Operand)}{ps:List (Nat × Value)}{z base cells:Array Value}(au:o.op = .buildSlice t len parts)(ht:tQ P t e n z)(hp:AL st parts.toList=some ps)(hlen:len * n≤16777216)
  (hb:(Array.range (len * n)).map (z[· % z.size]!)=base) (hf:Instr.fill (λ j=>some (j * n,n)) base ps=some cells) (hd:bT o.dst c.n)
  (h:∀ b,R b=none→(∀ x,(b,x) ∉ H)→∃ st',aI (bU o.dst (.slice (some ⟨b,0,none⟩) len len) st) st'∧C R ((b,.cells cells e)::H) st'):aW P B c o R H st C :=
 Ox.mem (s:=λ ρ=>Instr.buildSlice t len (parts.map λ (j,x)=>(j,ρ x))) (by rw [au]; rfl) hd (λ ρ=>by simp only [execOp,au]) (λ ρ bd=>by
  subst hb
  obtain ⟨h1,h2,⟨z0,hz,rfl⟩,h3,h4⟩:=ht
  have ep:(parts.map λ (j,x)=>(j,ρ x))=ps.toArray:=by apply Array.ext'; simpa using XC bd _ _ hp
  rw [ep]
  unfold Instr.buildSlice
  refine ai.eX (ai.underlying h1) (ai.eX h2 ?_)
  have hl:¬ (len * n > 2 ^ 24):=by omega
  simp only [hl,if_false]
  have last:aR P B R H (do let a ← newRow e cells; pure (.slice (some a) len len)) λ v R' H'=>∃ st',aI (bU o.dst v st) st'∧C R' H' st':=by
   simp only [newRow]
   exact aR.bind (aR.bind (aR.new λ b h1 h2=>aR.pure (aR.pure (h b h1 h2))))
  by_cases h0:len * n=0
  ·simp only [h0,if_true]
   refine ai.eX (ai.pure _) ?_
   have hr:∀ f:Nat→Value,(Array.range 0).map f=#[]:=λ f=>by simp [Array.range]
   simp only [h0,hr] at hf ⊢
   simp only [hf]
   exact last
  ·simp only [h0,if_false]
   refine ai.eX hz (ai.eX (ai.pure _) ?_)
   simp only [hf]
   exact last)
end
end Go.Lg
namespace Go.Lg
open Go.Conc
def aT(R R':az):Prop:=∀ b o,R b=some o→R' b=some o
theorem aT.refl(R:az):aT R R:=λ _ _ h=>h
theorem aT.trans{R R' cx:az}(h:aT R R')(k:aT R' cx):aT R cx:=λ b o x=>k b o (h b o x)
section
variable {P:Program} {B:Base} {main:Bool} (af:Jd P B main)
def BA(c:Ctx)(S:an)(ops:Array Oper)(i:Nat)(tmps:Array Value)(R:az)(H:an)(K:Array Value→az→an→Prop):Prop :=
 ∃ o,ops[i]? = some o∧m5 o.op=false ∧
  ((Region.wanted o (yielded ops tmps)=false∧K (fG o.dst undef tmps) R H) ∨
   (Region.wanted o (yielded ops tmps)=true ∧
   ((aR P B R H (execOp (aV c tmps []).eval o) λ nx R' H'=>∃ v,(nx = .value v∨(nx = .skip∧v=undef))∧aT R R'∧(∀ p∈S,p∈H→p∈H')∧K (fG o.dst v tmps) R' H') ∨
    (∃ f args,ai P (execOp (aV c tmps []).eval o) (.enter f args)∧aC af f args R H λ v R' H'=>aT R R'∧(∀ p∈S,p∈H→p∈H')∧K (fG o.dst v tmps) R' H'))))
theorem J.given{R:az}{H:an}{g:Goroutine}(hs:g.status = .running)(h:(∃ w,Fits B R H w)→af.J R H g):af.J R H g:=by
 by_cases hw:∃ w,Fits B R H w
 ·exact h hw
 ·exact af.step hs λ w hf=>absurd ⟨w,hf⟩ hw
def oz(ops:Array Oper)(rem:List Nat)(i:Nat):Bool:=match ops[i]? with
 | some o=>o.after.all λ e=>!Region.binds .any e || !rem.contains e.on
 | none=>false
def EI(c:Ctx)(S:Nat→an)(ops:Array Oper)(Q:Array Value→az→an→Prop):Nat→List Nat→Array Value→az→an→Prop
 | 0,rem,t,R,H=>rem=[]∧Q t R H
 | n+1,rem,t,R,H=>(rem=[]∧Q t R H)∨(rem≠[]∧((∃ w,Fits B R H w)→∀ i∈rem,oz ops rem i=true→BA af c (S i) ops i t R H λ t' R' H'=>EI c S ops Q n (rem.erase i) t' R' H'))
variable {af}
def backward(ops:Array Oper):Bool:=(List.range ops.size).all λ i=>match ops[i]? with
 | some o=>o.after.all λ e=>!Region.binds .any e || decide (e.on < i)
 | none=>true
theorem acp(c:Ctx)(tmps:Array Value)(todo:List Item):(aV c tmps todo).eval=(aV c tmps []).eval:=by
 funext x; cases x <;> rfl
theorem akS{c:Ctx}{S:an}{ops:Array Oper}{i:Nat}{rest:List Nat}{k:List Item}{tmps:Array Value}{R:az}{H:an}{K:Array Value→az→an→Prop}(hk:(c.kind == CallKind.early)=false)(h:BA af c S ops i tmps R H K)
  (hK:∀ t R' H',K t R' H'→af.J R' H' (aX (aV c t (.inRegion ops rest::k)) c.cs)):af.J R H (aX (aV c tmps (.inRegion ops (i::rest)::k)) c.cs):=by
 obtain ⟨o,ho,hd,h⟩:=h
 have fR:(aV c tmps (.inRegion ops (i::rest)::k)).kind ≠ .early:=by show c.kind≠_; simpa using hk
 rcases h with ⟨h1,h2⟩ | ⟨h1,h2 | ⟨f,args,h2,h3⟩⟩
 ·exact Jd.ctl rfl (λ w=>XS ho h1) (hK _ _ _ h2)
 ·refine af.step rfl λ w qH=>?_
  obtain ⟨nx,w',R',H',e1,e2,e3,v,hv,_,_,hKK⟩:=h2 w qH
  refine ⟨aX (aV c (fG o.dst v tmps) (.inRegion ops rest::k)) c.cs,w',seen P c.fn ((execOp (aV c tmps []).eval o).events P w #[]),R',H',?_,λ e he=>e2 e (mem_seen he),e3,hK _ _ _ hKK⟩
  rw [qc ho h1 hd,← qz (rest:=rest) (k:=k) (c:=c) (tmps:=tmps) (v:=v) ho,acp]
  rcases hv with rfl | ⟨rfl,rfl⟩
  ·exact BJ fR e1
  ·exact R9 fR e1
 ·refine af.step rfl λ w qH=>?_
  have hv:=h2 w
  refine ⟨aX (Frame.enter P f args .normal) (aV c tmps (.inRegion ops (i::rest)::k)::c.cs),w,seen P c.fn ((execOp (aV c tmps []).eval o).events P w #[]),R,H,?_,?_,fP.refl qH,h3 _ _ λ v R' H' hp=>?_⟩
  ·rw [qc ho h1 hd,acp]
   exact Il rfl fR hv.1
  ·intro e Ja
   have:=mem_seen Ja
   rw [hv.2] at this
   simp at this
  ·rw [qz ho]
   exact hK _ _ _ hp.2.2
def HV(ops:Array Oper)(listed:Array Bool)(rem:List Nat):Prop:=listed.size=ops.size∧rem.Nodup∧(∀ i,i∈rem↔(i < ops.size∧listed.getD i true=false))
theorem apT{listed:Array Bool}{i j:Nat}{d:Bool}(hi:i < listed.size):(listed.setIfInBounds i true).getD j d=if i=j then true else listed.getD j d:=by
 simp only [Array.getD_eq_getD_getElem?]
 by_cases h:i=j
 ·subst h; simp [hi]
 ·rw [if_neg h,Array.getElem?_setIfInBounds_ne h]
theorem HV.erase{ops:Array Oper}{listed:Array Bool}{rem:List Nat}(h:HV ops listed rem){i:Nat}(hi:i∈rem):HV ops (listed.setIfInBounds i true) (rem.erase i):=by
 obtain ⟨h1,h2,h3⟩:=h
 have bK:i < listed.size:=by rw [h1]; exact ((h3 i).1 hi).1
 refine ⟨by simp [h1],h2.erase _,λ j=>?_⟩
 rw [h2.mem_erase_iff,h3 j,apT bK]
 by_cases e:i=j
 ·subst e; simp
 ·simp [e,Ne.symm e]
theorem adN:∀ (l:List Nat),l≠[]→∃ m∈l,∀ x∈l,m≤x
 | [],h=>absurd rfl h
 | [a],_=>⟨a,by simp,by simp⟩
 | a::b::r,_=>by
  obtain ⟨m,hm,hl⟩:=adN (b::r) (by simp)
  by_cases h:a≤m
  ·exact ⟨a,by simp,λ x hx=>by
    rcases List.mem_cons.1 hx with rfl | hx
    ·exact Nat.le_refl _
    ·exact Nat.le_trans h (hl x hx)⟩
  ·exact ⟨m,List.mem_cons_of_mem _ hm,λ x hx=>by
    rcases List.mem_cons.1 hx with rfl | hx
    ·omega
    ·exact hl x hx⟩
theorem aav{c:Ctx}{S:Nat→an}{ops:Array Oper}{k:List Item}{Q:Array Value→az→an→Prop}(hk:(c.kind == CallKind.early)=false)(hb:backward ops=true)
  (hQ:∀ t R H,Q t R H→af.J R H (aX (aV c t k) c.cs)):∀ (fuel t:Nat) (listed:Array Bool) (acc:List Nat) (rem:List Nat) (tmps:Array Value) (R:az) (H:an),HV ops listed rem→rem.length≤fuel →
   EI af c S ops Q fuel rem tmps R H→∃ is,Region.linearise.go .any ops fuel t listed acc=acc.reverse++is∧af.J R H (aX (aV c tmps (.inRegion ops is::k)) c.cs)
 | 0,t,listed,acc,rem,tmps,R,H,_,_,h=>⟨[],by simp [Region.linearise.go],Jd.ctl rfl (λ w=>by simp [stepG,stepG.exec,aX,aV]) (hQ _ _ _ h.2)⟩
 | fuel+1,t,listed,acc,rem,tmps,R,H,hA,hl,h=>by
  generalize NI:((List.range ops.size).filter λ i=>!listed.getD i true && ((ops[i]?).map (·.after.all λ e=>!Region.binds .any e || listed.getD e.on false)).getD false)=rs
  have lS:∀ i,i∈rs→i∈rem∧oz ops rem i=true:=by
   intro i hi
   rw [← NI] at hi
   simp only [List.mem_filter,List.mem_range,Bool.and_eq_true,Bool.not_eq_true'] at hi
   obtain ⟨h1,h2,h3⟩:=hi
   refine ⟨(hA.2.2 i).2 ⟨h1,h2⟩,?_⟩
   unfold oz
   cases ho:ops[i]? with
   | none=>simp [ho] at h3
   | some o =>
    simp only [ho,Option.map_some,Option.getD_some,Array.all_eq_true_iff_forall_mem] at h3 ⊢
    intro e he
    have:=h3 e he
    rcases Bool.or_eq_true_iff.1 this with x | x
    ·simp [x]
    ·have hn:e.on ∉ rem:=λ hm=>by
      have:=((hA.2.2 e.on).1 hm).2
      have bK:e.on < listed.size:=by rw [hA.1]; exact ((hA.2.2 e.on).1 hm).1
      simp only [Array.getD_eq_getD_getElem?,Array.getElem?_eq_getElem bK,Option.getD_some] at this x
      rw [x] at this; cases this
     simp [hn]
  rcases h with ⟨rfl,hq⟩ | ⟨dU,xQ⟩
  ·have atM:rs=[]:=by
    cases rs with
    | nil=>rfl
    | cons a r=>exact absurd (lS a (by simp)).1 (by simp)
   refine ⟨[],?_,Jd.ctl rfl (λ w=>by simp [stepG,stepG.exec,aX,aV]) (hQ _ _ _ hq)⟩
   unfold Region.linearise.go
   simp only [NI,atM]
   simp
  ·
   have atN:rs≠[]:=by
    obtain ⟨m,hm,atb⟩:=adN rem dU
    have Uq:=((hA.2.2 m).1 hm).1
    have:m∈rs:=by
     rw [← NI]
     simp only [List.mem_filter,List.mem_range,Bool.and_eq_true,Bool.not_eq_true']
     refine ⟨Uq,((hA.2.2 m).1 hm).2,?_⟩
     have ho:ops[m]? = some ops[m]:=Array.getElem?_eq_getElem Uq
     simp only [ho,Option.map_some,Option.getD_some,Array.all_eq_true_iff_forall_mem]
     intro e he
     unfold backward at hb
     rw [List.all_eq_true] at hb
     have gh:=hb m (List.mem_range.2 Uq)
     simp only [ho,Array.all_eq_true_iff_forall_mem] at gh
     rcases Bool.or_eq_true_iff.1 (gh e he) with x | x
     ·simp [x]
     ·have bK:e.on < m:=by simpa using x
      have hn:e.on ∉ rem:=λ Jo=>by have:=atb _ Jo; omega
      have hl':e.on < listed.size:=by rw [hA.1]; omega
      have h1:listed.getD e.on true=true:=by
       cases hh:listed.getD e.on true with
       | true=>rfl
       | false=>exact absurd ((hA.2.2 e.on).2 ⟨by omega,hh⟩) hn
      simp only [Array.getD_eq_getD_getElem?,Array.getElem?_eq_getElem hl',Option.getD_some] at h1 ⊢
      simp [h1]
    intro e; rw [e] at this; cases this
   have hlen:t % rs.length < rs.length:=Nat.mod_lt _ (by
    cases rs with
    | nil=>exact absurd rfl atN
    | cons _ _=>simp)
   have hi:rs[t % rs.length]? = some rs[t % rs.length]:=List.getElem?_eq_getElem hlen
   generalize rs[t % rs.length]=i at hi
   obtain ⟨Ub,mY⟩:=lS i (List.mem_of_getElem? hi)
   have U4:=λ hw=>xQ hw i Ub mY
   have bK:(rem.erase i).length≤fuel:=by rw [List.length_erase_of_mem Ub]; omega
   have hgo:∀ Ml,∃ is,Region.linearise.go .any ops fuel (t / rs.length) (listed.setIfInBounds i true) Ml=Ml.reverse++is:=λ Ml=>⟨_,linearise_go_acc .any ops fuel (t / rs.length) (listed.setIfInBounds i true) Ml⟩
   obtain ⟨is,mF⟩:=hgo (i::acc)
   refine ⟨i::is,?_,?_⟩
   ·rw [Region.linearise.go]
    simp only [NI,hi]
    rw [mF]; simp
   ·refine J.given af rfl λ hw=>?_
    refine akS hk (U4 hw) λ t' R' H' hK=>?_
    obtain ⟨rG,h1,h2⟩:=aav hk hb hQ fuel (t / rs.length) (listed.setIfInBounds i true) (i::acc) (rem.erase i) t' R' H' (hA.erase Ub) bK hK
    rw [mF] at h1
    have:is=rG:=by simpa using h1
    rw [this]; exact h2
end
section
variable {P:Program} {B:Base} {main:Bool} {af:Jd P B main}
def noSelect(o:Oper):Bool:=match o.op with | .select _ _=>false | _=>true
def looks(ops:Array Oper)(o:Oper):List Nat :=
 (o.op.operands.toList.filterMap λ | .tmp t=>some t | _=>none)++(match o.guard with | some (j,_)=>((ops[j]?).bind (·.dst)).toList | none=>[])
def GV(ops:Array Oper)(a b:Oper):Bool :=
 (match a.dst with | some d=>!(looks ops b).contains d && b.dst != some d | none=>true) && (match b.dst with | some d=>!(looks ops a).contains d | none=>true)
theorem aCB{a b:Option Tmp}{v u:Value}{t:Array Value}(h:∀ d,a=some d→b≠some d):fG a v (fG b u t)=fG b u (fG a v t):=by
 cases a with
 | none=>rfl
 | some x=>cases b with
  | none=>rfl
  | some y =>
   have dU:x≠y:=λ e=>h x rfl (by rw [e])
   simp only [fG]
   exact Array.setIfInBounds_comm u v (Ne.symm dU)
theorem aoq{c:Ctx}{t:Array Value}{dst:Option Tmp}{v:Value}{x:Operand}(h:∀ d,dst=some d→x ≠ .tmp d):(aV c (fG dst v t) []).eval x=(aV c t []).eval x:=by
 cases dst with
 | none=>rfl
 | some d=>cases x with
  | tmp y =>
   have dU:d≠y:=λ e=>h d rfl (by rw [e])
   simp only [aV,Frame.eval,fG,Array.getD_eq_getD_getElem?]
   rw [Array.getElem?_setIfInBounds_ne dU]
  | _=>rfl
theorem acG{c:Ctx}{ops:Array Oper}{t:Array Value}{dst:Option Tmp}{v:Value}{o:Oper}(hs:noSelect o=true)(h:∀ d,dst=some d→d ∉ looks ops o):execOp (aV c (fG dst v t) []).eval o=execOp (aV c t []).eval o:=by
 refine execOp_congr o (λ cs b e=>by rw [noSelect,e] at hs; cases hs) λ x hx=>aoq λ d hd e=>h d hd ?_
 subst e
 unfold looks
 exact List.mem_append_left _ (List.mem_filterMap.2 ⟨_,Array.mem_toList_iff.2 hx,rfl⟩)
theorem agm{ops:Array Oper}{t:Array Value}{dst:Option Tmp}{v:Value}{o:Oper}(h:∀ d,dst=some d→d ∉ looks ops o):Region.wanted o (yielded ops (fG dst v t))=Region.wanted o (yielded ops t):=by
 unfold Region.wanted
 cases hg:o.guard with
 | none=>rfl
 | some g =>
  obtain ⟨j,want⟩:=g
  simp only [yielded]
  cases hd:(ops[j]?).bind (·.dst) with
  | none=>rfl
  | some d =>
   simp only [Option.bind_some]
   cases dst with
   | none=>rfl
   | some d' =>
    have dU:d'≠d:=λ e=>h d' rfl (by
     subst e
     unfold looks
     rw [hg]
     exact List.mem_append_right _ (by simp [hd]))
    simp only [fG]
    rw [Array.getElem?_setIfInBounds_ne dU]
theorem aa5{ops:Array Oper}{a b:Oper}(h:GV ops a b=true):(∀ d,a.dst=some d→d ∉ looks ops b∧b.dst≠some d)∧(∀ d,b.dst=some d→d ∉ looks ops a):=by
 unfold GV at h
 rw [Bool.and_eq_true] at h
 refine ⟨λ d hd=>?_,λ d hd=>?_⟩
 ·rw [hd] at h; simpa using h.1
 ·rw [hd] at h; simpa using h.2
theorem BA.fG{c:Ctx}{S:an}{ops:Array Oper}{j:Nat}{oi oj:Oper}{t:Array Value}{v:Value}{R:az}{H:an}{K1 K:Array Value→az→an→Prop}(hj:ops[j]? = some oj)(hs:noSelect oj=true)(kA:GV ops oi oj=true){F:an}(hS:∀ p∈F,p∈H)(hFS:∀ p∈F,p∈S)
  (h:BA af c S ops j (fG oi.dst v t) R H K1) (hK:∀ u R' H',aT R R'→(∀ p∈F,p∈H')→K1 (Go.Lg.fG oj.dst u (Go.Lg.fG oi.dst v t)) R' H'→K (Go.Lg.fG oj.dst u t) R' H'):BA af c S ops j t R H K:=by
 obtain ⟨h1,h2⟩:=aa5 kA
 obtain ⟨o,ho,hd,h⟩:=h
 obtain rfl:o=oj:=Option.some.inj (ho.symm.trans hj)
 rw [agm (λ d hd=>(h1 d hd).1),acG hs (λ d hd=>(h1 d hd).1)] at h
 refine ⟨o,ho,hd,?_⟩
 rcases h with ⟨a,b⟩ | ⟨a,b | ⟨f,args,b,b'⟩⟩
 ·exact .inl ⟨a,hK _ _ _ (aT.refl _) hS b⟩
 ·exact .inr ⟨a,.inl (b.mono λ nx R' H' ⟨u,x,y,z,hk⟩=>⟨u,x,y,z,hK _ _ _ y (λ p hp=>z p (hFS p hp) (hS p hp)) hk⟩)⟩
 ·exact .inr ⟨a,.inr ⟨f,args,b,b'.mono λ u R' H' ⟨y,z,hk⟩=>⟨y,z,hK _ _ _ y (λ p hp=>z p (hFS p hp) (hS p hp)) hk⟩⟩⟩
def aal(P:Program)(B:Base)(S:an)(R:az)(ρ:Operand→Value)(o:Oper)(v:Value):Prop :=
 ∀ R' H',aT R R'→(∀ p∈S,p∈H')→aR P B R' H' (execOp ρ o) λ nx cx dW=>(nx = .value v∨(nx = .skip∧v=undef))∧cx=R'∧dW=H'
def qN(ops:Array Oper)(rem:List Nat)(i:Nat)(D:List Nat):Bool :=
 rem.contains i && oz ops rem i && !D.contains i && D.all (λ j=>rem.contains j && match ops[j]? with | some o=>o.after.any λ e=>Region.binds .any e && (e.on == i || D.contains e.on) | none=>false) &&
 (match ops[i]? with | some oi=>noSelect oi && rem.all (λ j=>j == i || D.contains j || match ops[j]? with | some oj=>noSelect oj && GV ops oi oj | none=>false) | none=>false)
theorem aD5{ops:Array Oper}{rem:List Nat}{i j:Nat}{D:List Nat}(h:qN ops rem i D=true)(fZ:j≠i)(rz:j ∉ D):qN ops (rem.erase j) i D=true:=by
 unfold qN at h ⊢
 simp only [Bool.and_eq_true,Bool.not_eq_true',List.all_eq_true,List.contains_iff_mem] at h ⊢
 obtain ⟨⟨⟨⟨h1,h2⟩,h3⟩,h4⟩,h5⟩:=h
 refine ⟨⟨⟨⟨(List.mem_erase_of_ne (Ne.symm fZ)).2 h1,?_⟩,h3⟩,λ x hx=>⟨(List.mem_erase_of_ne (λ e=>rz (by rw [← e]; exact hx))).2 (h4 x hx).1,(h4 x hx).2⟩⟩,?_⟩
 ·unfold oz at h2 ⊢
  cases ho:ops[i]? with
  | none=>simp [ho] at h2
  | some o =>
   simp only [ho,Array.all_eq_true_iff_forall_mem] at h2 ⊢
   intro e he
   have:=h2 e he
   rcases Bool.or_eq_true_iff.1 this with x | x
   ·simp [x]
   ·have hn:e.on ∉ rem:=by simpa using x
    have:e.on ∉ rem.erase j:=λ hm=>hn (List.mem_of_mem_erase hm)
    simp [this]
 ·cases ho:ops[i]? with
  | none=>simp [ho] at h5
  | some oi =>
   simp only [ho,Bool.and_eq_true,List.all_eq_true] at h5 ⊢
   exact ⟨h5.1,λ x hx=>h5.2 x (List.mem_of_mem_erase hx)⟩
theorem aa4{c:Ctx}{S:Nat→an}{ops:Array Oper}{Q:Array Value→az→an→Prop}{i:Nat}{oi:Oper}{D:List Nat}{N:an}{v:Value}(hi:ops[i]? = some oi)(hd:m5 oi.op=false):∀ (n:Nat) (rem:List Nat) (t:Array Value) (R:az) (H:an),
  qN ops rem i D=true→rem.Nodup→(∀ p∈N,p∈H)→(∀ j∈rem,j≠i→j ∉ D→∀ p∈N,p∈S j)→((Region.wanted oi (yielded ops t)=true∧aal P B N R (aV c t []).eval oi v)∨(Region.wanted oi (yielded ops t)=false∧v=undef))→EI af c S ops Q n (rem.erase i) (fG oi.dst v t) R H→EI af c S ops Q (n+1) rem t R H:=by
 intro n
 induction n with
 | zero =>
  intro rem t R H j6 dR hS xP qH h
  unfold qN at j6
  simp only [Bool.and_eq_true,List.contains_iff_mem] at j6
  have lS:i∈rem:=j6.1.1.1.1
  refine .inr ⟨(λ e=>by rw [e] at lS; cases lS),λ _ j hj _=>?_⟩
  have fZ:j=i:=by
   by_cases e:j=i
   ·exact e
   ·exact absurd ((List.mem_erase_of_ne e).2 hj) (by rw [h.1]; simp)
  subst fZ
  rcases qH with ⟨hw,hf⟩ | ⟨hw,rfl⟩
  ·exact ⟨oi,hi,hd,.inr ⟨hw,.inl ((hf R H (aT.refl _) hS).mono λ nx R' H' ⟨e1,e2,e3⟩=>by subst e2 e3; exact ⟨v,e1,aT.refl _,(λ _ _ h=>h),h⟩)⟩⟩
  ·exact ⟨oi,hi,hd,.inl ⟨hw,h⟩⟩
 | succ n ih =>
  intro rem t R H j6 dR hS xP qH h
  have awm:=j6
  unfold qN at j6
  simp only [Bool.and_eq_true,List.contains_iff_mem,Bool.not_eq_true',List.all_eq_true] at j6
  obtain ⟨⟨⟨⟨lS,aOl⟩,hiD⟩,hD⟩,xQ⟩:=j6
  rw [hi] at xQ
  simp only [Bool.and_eq_true,List.all_eq_true] at xQ
  obtain ⟨atf,xQ⟩:=xQ
  refine .inr ⟨(λ e=>by rw [e] at lS; cases lS),λ V9 j hj Aj=>?_⟩
  by_cases fZ:j=i
  ·subst fZ
   rcases qH with ⟨hw,hf⟩ | ⟨hw,rfl⟩
   ·exact ⟨oi,hi,hd,.inr ⟨hw,.inl ((hf R H (aT.refl _) hS).mono λ nx R' H' ⟨e1,e2,e3⟩=>by subst e2 e3; exact ⟨v,e1,aT.refl _,(λ _ _ h=>h),h⟩)⟩⟩
   ·exact ⟨oi,hi,hd,.inl ⟨hw,h⟩⟩
  ·
   have rz:j ∉ D:=λ rz=>by
    obtain ⟨_,hx⟩:=hD j rz
    unfold oz at Aj
    cases ho:ops[j]? with
    | none=>simp [ho] at hx
    | some o =>
     simp only [ho,Array.all_eq_true_iff_forall_mem] at Aj hx
     rw [Array.any_eq_true'] at hx
     obtain ⟨e,he,hx⟩:=hx
     have hr:=Aj e he
     rw [Bool.and_eq_true] at hx
     have mE:e.on∈rem:=by
      rcases Bool.or_eq_true_iff.1 hx.2 with x | x
      ·have:e.on=i:=by simpa using x
       rw [this]; exact lS
      ·have hxD:e.on∈D:=by simpa using x
       exact (hD _ hxD).1
     simp [hx.1,mE] at hr
   have Ai:=xQ j hj
   have Un:∃ oj,ops[j]? = some oj∧noSelect oj=true∧GV ops oi oj=true:=by
    cases ho:ops[j]? with
    | none=>simp [fZ,rz,ho] at Ai
    | some oj=>simp [fZ,rz,ho] at Ai; exact ⟨oj,rfl,Ai.1,Ai.2⟩
   obtain ⟨oj,hoj,atO,kA⟩:=Un
   rcases h with ⟨he,_⟩ | ⟨_,avA⟩
   ·exact absurd ((List.mem_erase_of_ne fZ).2 hj) (by rw [he]; simp)
   have as3:oz ops (rem.erase i) j=true:=by
    unfold oz at Aj ⊢
    simp only [hoj,Array.all_eq_true_iff_forall_mem] at Aj ⊢
    intro e he
    have:=Aj e he
    rcases Bool.or_eq_true_iff.1 this with x | x
    ·simp [x]
    ·have hn:e.on ∉ rem:=by simpa using x
     have:e.on ∉ rem.erase i:=λ hm=>hn (List.mem_of_mem_erase hm)
     simp [this]
   have U4:=avA V9 j ((List.mem_erase_of_ne fZ).2 hj) as3
   obtain ⟨ha1,ha2⟩:=aa5 kA
   refine BA.fG (oi:=oi) (v:=v) hoj atO kA hS (xP j hj fZ rz) U4 λ u R' H' hR TE hA=>?_
   refine ih (rem.erase j) (fG oj.dst u t) R' H' (aD5 awm fZ rz) (dR.erase _) TE (λ x hx=>xP x (List.mem_of_mem_erase hx)) ?_ ?_
   ·rw [agm (λ d hd=>ha2 d hd)]
    refine qH.imp (λ ⟨hw,hf⟩=>⟨hw,λ cx dW sH aqz=>?_⟩) id
    rw [acG (ops:=ops) atf (λ d hd=>ha2 d hd)]
    exact hf cx dW (hR.trans sH) aqz
   ·rw [List.erase_comm,aCB (a:=oi.dst) (b:=oj.dst) (λ d hd=>(ha1 d hd).2)]
    exact hA
variable {c:Ctx} {S:Nat→an} {ops:Array Oper} {k:List Item} {R:az} {H:an} {st st':St} {rem:List Nat} {n:Nat}
def Any(af:Jd P B main)(c:Ctx)(S:Nat→an)(ops:Array Oper)(k:List Item)(n:Nat)(rem:List Nat)(R:az)(H:an)(st:St):Prop :=
 rem.Nodup∧∀ tmps,cM c.n st tmps→EI af c S ops (λ t R H=>af.J R H (aX (aV c t k) c.cs)) n rem tmps R H
theorem U.draw{id:Nat}{is:List Nat}{n:Nat}(S:Nat→an)(hm:P.follows .mixedOrders=true)(hk:(c.kind == CallKind.early)=false)(hb:backward ops=true)(hn:ops.size=n)(mF:List.range n=is)(h:Any af c S ops k n is R H st):U af c R H st (.code (.region id ops true)::k):=by
 intro tmps ht
 subst hn; subst mF
 refine af.step rfl λ w hw=>?_
 have hA:HV ops (Array.replicate ops.size false) (List.range ops.size):=⟨by simp,List.nodup_range,λ i=>by
  simp only [List.mem_range,Array.getD_eq_getD_getElem?]
  constructor
  ·intro hi; exact ⟨hi,by simp [hi]⟩
  ·exact λ x=>x.1⟩
 have key:=λ t=>aav (af:=af) (k:=k) hk hb (λ _ _ _ hq=>hq) ops.size t _ [] _ tmps R H hA (by simp) (h.2 tmps ht)
 obtain ⟨is,h1,h2⟩:=key (if (Question.order c.fn id).forced then 0 else (Question.order c.fn id).cut (w.tape w.drawn (.order c.fn id)))
 refine ⟨aX (aV c tmps (.inRegion ops is::k)) c.cs,{ w with drawn:=w.drawn+1 },#[],R,H,?_,by simp,⟨⟨hw.r,hw.h,hw.nd,hw.dj,hw.os,hw.tape,hw.out⟩,λ _ _ x=>x,Nat.le_refl _,λ _ _ _=>rfl,λ _ _ x=>.inl x,λ _ o x=>.inl ⟨o,x⟩⟩,h2⟩
 simp only [Question.forced,Bool.false_eq_true,if_false,List.reverse_nil,List.nil_append] at h1
 simp [stepG,stepG.exec,aX,aV,choose,Sem.run,Question.forced,Region.schedule,hm,Region.linearise,h1]
theorem U.amT{id:Nat}{is:List Nat}{n:Nat}(hm:P.follows .mixedOrders=true)(hk:(c.kind == CallKind.early)=false)(hb:backward ops=true)(hn:ops.size=n)(mF:List.range n=is)(h:Any af c (λ _=>H) ops k n is R H st):U af c R H st (.code (.region id ops true)::k):=U.draw (λ _=>H) hm hk hb hn mF h
theorem pI.Ge{o:Oper}{i:Nat}{tmps:Array Value}(h:pI af c o R H st λ R' H' st'=>aT R R'∧(∀ p∈S i,p∈H→p∈H')∧Any af c S ops k n rem R' H' st')(ho:ops[i]? = some o)(hw:Region.wanted o (yielded ops tmps)=true)(ht:cM c.n st tmps) :
  BA af c (S i) ops i tmps R H λ t' R' H'=>EI af c S ops (λ t R H=>af.J R H (aX (aV c t k) c.cs)) n rem t' R' H':=by
 obtain ⟨hd,lT,h | ⟨f,args,h1,h2⟩⟩:=h
 ·exact ⟨o,ho,hd,.inr ⟨hw,.inl ((h _ (ht.knows c [])).mono λ nx R' H' ⟨v,hv,st',hs,hR,hS,hA⟩=>⟨v,hv,hR,hS,hA.2 _ ((ht.put v lT).sub hs)⟩)⟩⟩
 ·exact ⟨o,ho,hd,.inr ⟨hw,.inr ⟨f,args,h1 _ (ht.knows c []),h2.mono λ v R' H' ⟨st',hs,hR,hS,hA⟩=>⟨hR,hS,hA.2 _ ((ht.put v lT).sub hs)⟩⟩⟩⟩
theorem Any.done(h:U af c R H st k):Any af c S ops k n [] R H st:=⟨List.nodup_nil,λ tmps ht=>by
 cases n with
 | zero=>exact ⟨rfl,h tmps ht⟩
 | succ n=>exact .inl ⟨rfl,h tmps ht⟩⟩
theorem Any.take{i:Nat}{o:Oper}{v:Value}{N:an}(D:List Nat)(ho:ops[i]? = some o)(j6:qN ops rem i D=true)(hd:m5 o.op=false)(lT:bT o.dst c.n)(hw:cE ops st o=some true)(xP:∀ j∈rem,j≠i→j ∉ D→∀ p∈N,p∈S j)(hS:∀ p∈N,p∈H)(hf:∀ ρ,Knows st ρ→aal P B N R ρ o v)(hs:aI (bU o.dst v st) st')(dR:rem.Nodup)
  {p9:List Nat} (hr:rem.erase i=p9) (h:Any af c S ops k n p9 R H st'):Any af c S ops k (n+1) rem R H st:=by
 subst hr
 exact ⟨dR,λ tmps ht=>aa4 ho hd n rem tmps R H j6 dR hS xP (.inl ⟨kO ht hw,hf _ (ht.knows c [])⟩) (h.2 _ ((ht.put v lT).sub hs))⟩
theorem Any.Dv{i d:Nat}{o:Oper}{v:Value}{N:an}(D:List Nat)(ho:ops[i]? = some o)(oV:o.dst=some d)(hw:cE ops st o=some true)(j6:qN ops rem i D=true)(xP:∀ j∈rem,j≠i→j ∉ D→∀ p∈N,p∈S j)(hS:∀ p∈N,p∈H)
  (hf:∀ R' H',aT R R'→(∀ p∈N,p∈H')→aW P B c o R' H' st λ R1 H1 w8=>R1=R'∧H1=H'∧w8=[(d,v)]) (hs:aI ((d,v)::st) st') (dR:rem.Nodup)
  {p9:List Nat} (hr:rem.erase i=p9) (h:Any af c S ops k n p9 R H st'):Any af c S ops k (n+1) rem R H st:=by
 have h0:=hf R H (aT.refl _) hS
 refine Any.take (v:=v) D ho j6 h0.1 h0.2.1 hw xP hS (λ ρ bd R' H' hR TE=>?_) (by rw [oV]; exact hs) dR hr h
 refine ((hf R' H' hR TE).2.2 ρ bd).mono λ nx cx dW ⟨u,hu,w8,rB,e1,e2,e3⟩=>?_
 subst e3
 rw [oV] at rB
 have huv:u=v:=by
  have:=rB d v (by simp)
  simp only [bU,List.lookup_cons,beq_self_eq_true] at this
  exact Option.some.inj this
 subst huv
 exact ⟨hu,e1,e2⟩
theorem Any.aD4{i:Nat}{o:Oper}(D:List Nat)(ho:ops[i]? = some o)(j6:qN ops rem i D=true)(hd:m5 o.op=false)(lT:bT o.dst c.n)(hw:cE ops st o=some false)(hs:aI (bU o.dst undef st) st')(dR:rem.Nodup)
  {p9:List Nat} (hr:rem.erase i=p9) (h:Any af c S ops k n p9 R H st'):Any af c S ops k (n+1) rem R H st:=by
 subst hr
 exact ⟨dR,λ tmps ht=>aa4 (v:=undef) (N:=[]) ho hd n rem tmps R H j6 dR (by simp) (by simp) (.inr ⟨kO ht hw,rfl⟩) (h.2 _ ((ht.put undef lT).sub hs))⟩
theorem Any.one{i:Nat}{o:Oper}(ho:ops[i]? = some o)(mY:rem.filter (oz ops rem)=[i])(hw:cE ops st o=some true)(dR:rem.Nodup){p9:List Nat}(hr:rem.erase i=p9)
  (h:pI af c o R H st λ R' H' st'=>aT R R'∧(∀ p∈S i,p∈H→p∈H')∧Any af c S ops k n p9 R' H' st'):Any af c S ops k (n+1) rem R H st:=by
 subst hr
 refine ⟨dR,λ tmps ht=>.inr ⟨(λ e=>by rw [e] at mY; cases mY),λ _ j hj Aj=>?_⟩⟩
 have:j∈rem.filter (oz ops rem):=List.mem_filter.2 ⟨hj,Aj⟩
 rw [mY] at this
 obtain rfl:j=i:=by simpa using this
 exact h.Ge ho (kO ht hw) ht
theorem ayL{H H':an}(h:∀ p∈H,p∈H'){X:an}:∀ p∈H,p∈X→p∈H':=λ p hp _=>h p hp
end
end Go.Lg
namespace Go.Lg
open Go.Conc
section
variable {P:Program} {B:Base} {main:Bool} {af:Jd P B main} {c:Ctx} {R:az} {H H':an} {st st':St} {k:List Item}
theorem Pf{w:World}(hs:List.Sublist H' H)(hw:Fits B R H w):fP B R H w R H' w :=
 ⟨⟨hw.r,λ b o h=>hw.h b o (hs.subset h),(hs.map _).nodup hw.nd,λ b o h=>hw.dj b o (hs.subset h),hw.os,hw.tape,hw.out⟩,λ _ _ x=>x,Nat.le_refl _,λ _ _ _=>rfl,λ _ _ x=>.inl x,λ _ o x=>.inl ⟨o,hs.subset x⟩⟩
theorem U.drop{todo:List Item}(hs:List.Sublist H' H)(h:U af c R H' st todo):U af c R H st todo:=U.ghost (λ _ hw=>Pf hs hw) h
theorem J.drop{g:Goroutine}(hs:List.Sublist H' H)(h:af.J R H' g):af.J R H g:=af.ghost (λ _ hw=>Pf hs hw) h
theorem X5{w:World}(hs:List.Perm H' H)(hw:Fits B R H w):fP B R H w R H' w :=
 ⟨⟨hw.r,λ b o h=>hw.h b o (hs.subset h),(hs.map _).nodup_iff.2 hw.nd,λ b o h=>hw.dj b o (hs.subset h),hw.os,hw.tape,hw.out⟩,λ _ _ x=>x,Nat.le_refl _,λ _ _ _=>rfl,λ _ _ x=>.inl x,λ _ o x=>.inl ⟨o,hs.subset x⟩⟩
theorem U.perm{todo:List Item}(hs:List.Perm H' H)(h:U af c R H' st todo):U af c R H st todo:=U.ghost (λ _ hw=>X5 hs hw) h
theorem J.perm{g:Goroutine}(hs:List.Perm H' H)(h:af.J R H' g):af.J R H g:=af.ghost (λ _ hw=>X5 hs hw) h
def az.ins(R:az)(b:Nat)(o:Obj):az:=λ x=>if x=b then some o else R x
theorem az.ayI(R:az)(b:Nat)(o:Obj):R.ins b o b=some o:=by simp [az.ins]
theorem az.adB{R:az}{b:Nat}{o:Obj}(h:R b=none):aT R (R.ins b o):=λ x u hx=>by
 unfold az.ins
 split
 ·subst_vars; rw [h] at hx; cases hx
 ·exact hx
theorem aEg{w:World}{b:Nat}{o:Obj}(hw:Fits B R ((b,o)::H) w):fP B R ((b,o)::H) w (R.ins b o) H w:=by
 have hb:R b=none:=hw.dj b o (by simp)
 have dR:=hw.nd
 rw [List.map_cons,List.nodup_cons] at dR
 refine ⟨⟨λ x u hx=>?_,λ x u hx=>hw.h x u (by simp [hx]),dR.2,λ x u hx=>?_,hw.os,hw.tape,hw.out⟩,az.adB hb,Nat.le_refl _,λ _ _ _=>rfl,λ x u hx=>?_,λ x u hx=>.inl ⟨u,by simp [hx]⟩⟩
 ·unfold az.ins at hx
  split at hx
  ·subst_vars; cases hx; exact hw.h _ _ (by simp)
  ·exact hw.r x u hx
 ·have dU:x≠b:=λ e=>dR.1 (List.mem_map.2 ⟨(x,u),hx,e⟩)
  unfold az.ins
  rw [if_neg dU]
  exact hw.dj x u (by simp [hx])
 ·unfold az.ins at hx
  split at hx
  ·subst_vars; exact .inr (.inl ⟨o,by simp⟩)
  ·exact .inl hx
theorem J.freeze{g:Goroutine}{b:Nat}{o:Obj}(h:∀ R',aT R R'→R' b=some o→af.J R' H g)(hb:R b=none):af.J R ((b,o)::H) g :=
 af.ghost (λ _ hw=>aEg hw) (h _ (az.adB hb) (az.ayI R b o))
theorem J.apP{fr:Frame}{cs:List Frame}{b:Nat}{o:Obj}(h:∀ R',aT R R'→R' b=some o→af.J R' H (aX fr cs)):af.J R ((b,o)::H) (aX fr cs):=by
 cases hb:R b with
 | none=>exact J.freeze h hb
 | some x =>
  refine af.step rfl λ w hw=>?_
  have:=hw.dj b o (by simp)
  rw [hb] at this
  cases this
theorem U.freeze{todo:List Item}{b:Nat}{o:Obj}(h:∀ R',aT R R'→R' b=some o→U af c R' H st todo):U af c R ((b,o)::H) st todo :=
 λ tmps ht=>J.apP λ R' h1 h2=>h R' h1 h2 tmps ht
theorem cM.afc{n t:Nat}{x:Value}{tmps:Array Value}(hx:st.lookup t=some x)(h:cM n st tmps):cM n ((t,x)::st) tmps:=by
 refine ⟨h.1,λ u v hu=>?_⟩
 rw [List.lookup_cons] at hu
 split at hu
 ·rename_i heq
  have:u=t:=by simpa using heq
  subst this
  cases hu
  exact h.2 _ _ hx
 ·exact h.2 u v hu
theorem U.loop{body:Code}(I:Nat→az→an→St→Prop)
  (TG:∀ n R H st,I n R H st→(∀ m R' H' st',m < n→I m R' H' st'→U af c R' H' st' (.inLoop body::k))→U af c R H st (.code body :: .inLoop body::k))
  {n:Nat} (h0:I n R H st):U af c R H st (.code (.loop body)::k):=by
 have key:∀ n R H st,I n R H st→U af c R H st (.code body :: .inLoop body::k):=by
  intro n
  induction n using Nat.strongRecOn with
  | ind n ih=>exact λ R H st hI=>TG n R H st hI λ m R' H' st' hm Tt=>U.inLoop (ih m hm R' H' st' Tt)
 exact U.enterLoop (key n R H st h0)
end
theorem Cell.mono{R R':az}{H:an}{a:Addr}{v:Value}(h:Cell R [] a v)(hR:aT R R'):Cell R' H a v:=by
 obtain ⟨h1,cs,e,fz,h2,h3⟩:=h
 exact ⟨h1,cs,e,fz,.inl (h2.elim (hR _ _) (λ x=>by cases x)),h3⟩
theorem aQ.up{R R':az}{H:an}{b o:Nat}{vs:List Value}(h:aQ R [] b o vs)(hR:aT R R'):aQ R' H b o vs:=λ j v hj=>(h j v hj).mono hR
theorem aQ.any{R:az}{H:an}{b o:Nat}{vs:List Value}(h:aQ R [] b o vs):aQ R H b o vs:=h.up (aT.refl R)
theorem aQ.one{R:az}{H:an}{b o j:Nat}{v:Value}{vs:List Value}(h:aQ R H b o vs)(hj:vs[j]? = some v):Cell R H ⟨b,o+j,none⟩ v:=h j v hj
end Go.Lg
