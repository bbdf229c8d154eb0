/- The base of a logic of goroutines in company. Conditions: none. -/
import Derived.Conc.Beside
import Derived.Conc.Events
import Derived.Conc.Listed
import Derived.Orders
namespace Go.Lg
open Go.Conc
abbrev ax:=Nat→Option Obj
abbrev an:=List (Nat × Obj)
structure Base where
 os:Os→Prop
 tape:Nat→Question→Nat
 out:Array (Nat × ByteArray)
structure Fits (B:Base) (R:ax) (H:an) (w:World):Prop where
 r:∀ b o,R b=some o→w.heap[b]? = some o
 h:∀ b o,(b,o)∈H→w.heap[b]? = some o
 nd:(H.map (·.1)).Nodup
 dj:∀ b o,(b,o)∈H→R b=none
 os:B.os w.os
 tape:w.tape=B.tape
 out:w.output=B.out
theorem lb{w:World}{b:Nat}{o:Obj}(h:w.heap[b]? = some o):b < w.heap.size:=(Array.getElem?_eq_some_iff.1 h).1
structure fF (B:Base) (R:ax) (H:an) (w:World) (R':ax) (H':an) (w':World):Prop where
 fits:Fits B R' H' w'
 rle:∀ b o,R b=some o→R' b=some o
 size:w.heap.size≤w'.heap.size
 same:∀ b,b < w.heap.size→(∀ o,(b,o) ∉ H)→w'.heap[b]? = w.heap[b]?
 Fs:∀ b o,R' b=some o→R b=some o∨(∃ o',(b,o')∈H)∨w.heap.size≤b
 xB:∀ b o,(b,o)∈H'→(∃ o',(b,o')∈H)∨w.heap.size≤b
theorem fF.refl{B:Base}{R:ax}{H:an}{w:World}(h:Fits B R H w):fF B R H w R H w :=
 ⟨h,λ _ _ x=>x,Nat.le_refl _,λ _ _ _=>rfl,λ _ _ x=>.inl x,λ _ o x=>.inl ⟨o,x⟩⟩
theorem fF.trans{B:Base}{R R' cC:ax}{H H' dY:an}{w w' O5:World}(h:fF B R H w R' H' w')(k:fF B R' H' w' cC dY O5):fF B R H w cC dY O5:=by
 refine ⟨k.fits,λ b o x=>k.rle b o (h.rle b o x),Nat.le_trans h.size k.size,λ b hb hn=>?_,λ b o x=>?_,λ b o x=>?_⟩
 ·rw [k.same b (Nat.lt_of_lt_of_le hb h.size) (λ o ho=>?_),h.same b hb hn]
  rcases h.xB b o ho with ⟨o',eR⟩ | ti
  ·exact hn o' eR
  ·omega
 ·rcases k.Fs b o x with x | ⟨o',x⟩ | x
  ·exact h.Fs b o x
  ·exact .inr (h.xB b o' x)
  ·exact .inr (.inr (Nat.le_trans h.size x))
 ·rcases k.xB b o x with ⟨o',x⟩ | x
  ·exact h.xB b o' x
  ·exact .inr (Nat.le_trans h.size x)
def AF(R:ax)(H:an)(n:Nat)(write:Bool)(b:Nat):Prop:=(write=false∧(R b).isSome=true)∨(∃ o,(b,o)∈H)∨n≤b
def gR(R:ax)(H:an)(n m:Nat)(e:Event):Prop :=
 match e.loc with
 | .cell a=>e.sync=false∧a.block < m∧AF R H n e.write a.block
 | .obj b=>e.sync=false∧b < m∧AF R H n e.write b
 | .mark .noRoom=>True
 | _=>False
theorem AF.up{B:Base}{R R':ax}{H H':an}{w w':World}(h:fF B R H w R' H' w'){wr:Bool}{b:Nat}(k:AF R' H' w'.heap.size wr b):AF R H w.heap.size wr b:=by
 rcases k with ⟨k1,k2⟩ | ⟨o,k⟩ | k
 ·obtain ⟨o,ho⟩:=Option.isSome_iff_exists.1 k2
  rcases h.Fs b o ho with x | x | x
  ·exact .inl ⟨k1,by simp [x]⟩
  ·exact .inr (.inl x)
  ·exact .inr (.inr x)
 ·exact .inr (h.xB b o k)
 ·exact .inr (.inr (Nat.le_trans h.size k))
theorem gR.up{B:Base}{R R':ax}{H H':an}{w w':World}(h:fF B R H w R' H' w'){m:Nat}{e:Event}(k:gR R' H' w'.heap.size m e):gR R H w.heap.size m e:=by
 unfold gR at k ⊢
 split at k
 ·exact ⟨k.1,k.2.1,k.2.2.up h⟩
 ·exact ⟨k.1,k.2.1,k.2.2.up h⟩
 ·trivial
 ·exact k.elim
theorem gR.more{R:ax}{H:an}{n m m':Nat}{e:Event}(hm:m≤m')(k:gR R H n m e):gR R H n m' e:=by
 unfold gR at k ⊢
 split at k
 ·exact ⟨k.1,by omega,k.2.2⟩
 ·exact ⟨k.1,by omega,k.2.2⟩
 ·trivial
 ·exact k.elim
def aT{α:Type}(P:Program)(B:Base)(R:ax)(H:an)(s:Sem α)(K:α→ax→an→Prop):Prop :=
 ∀ w,Fits B R H w→∃ a w' R' H',s.run P w = .ok a w'∧(∀ e∈s.events P w #[],gR R H w.heap.size w'.heap.size e)∧fF B R H w R' H' w'∧K a R' H'
section
variable {P:Program} {B:Base} {R:ax} {H:an}
theorem aT.mono{α:Type}{s:Sem α}{K K':α→ax→an→Prop}(h:aT P B R H s K)(hk:∀ a R' H',K a R' H'→K' a R' H'):aT P B R H s K':=by
 intro w hw
 obtain ⟨a,w',R',H',h1,h2,h3,h4⟩:=h w hw
 exact ⟨a,w',R',H',h1,h2,h3,hk _ _ _ h4⟩
theorem aT.pure{α:Type}{a:α}{K:α→ax→an→Prop}(h:K a R H):aT P B R H (Pure.pure a:Sem α) K :=
 λ w hw=>⟨a,w,R,H,rfl,by simp,fF.refl hw,h⟩
theorem aT.bind{α β:Type}{s:Sem α}{f:α→Sem β}{K:β→ax→an→Prop}(h:aT P B R H s λ a R' H'=>aT P B R' H' (f a) K):aT P B R H (s >>= f) K:=by
 intro w hw
 obtain ⟨a,w',R',H',h1,h2,h3,h4⟩:=h w hw
 obtain ⟨b,O5,cC,dY,k1,k2,k3,k4⟩:=h4 w' h3.fits
 refine ⟨b,O5,cC,dY,by simp [h1,k1],λ e he=>?_,h3.trans k3,k4⟩
 rw [Sem.events_bind,h1,Result.evThen_ok,Sem.events_acc] at he
 rcases Array.mem_append.1 he with he | he
 ·exact (h2 e he).more k3.size
 ·exact (k2 e he).up h3
theorem aT.map{α β:Type}{s:Sem α}{f:α→β}{K:β→ax→an→Prop}(h:aT P B R H s λ a R' H'=>K (f a) R' H'):aT P B R H (f <$> s) K:=by
 intro w hw
 obtain ⟨a,w',R',H',h1,h2,h3,h4⟩:=h w hw
 exact ⟨f a,w',R',H',by simp [h1],by simpa using h2,h3,h4⟩
def ai{α:Type}(P:Program)(s:Sem α)(a:α):Prop:=∀ w,s.run P w = .ok a w∧s.events P w #[]=#[]
theorem ai.ok{α:Type}{s:Sem α}{a:α}{K:α→ax→an→Prop}(h:ai P s a)(hk:K a R H):aT P B R H s K :=
 λ w hw=>⟨a,w,R,H,(h w).1,by rw [(h w).2]; simp,fF.refl hw,hk⟩
theorem ai.pure{α:Type}(a:α):ai P (Pure.pure a:Sem α) a:=λ _=>⟨rfl,rfl⟩
theorem ai.bind{α β:Type}{s:Sem α}{f:α→Sem β}{a:α}{b:β}(h:ai P s a)(k:ai P (f a) b):ai P (s >>= f) b :=
 λ w=>⟨by simp [(h w).1,(k w).1],by rw [Sem.events_bind,(h w).1,(h w).2]; exact (k w).2⟩
theorem ai.map{α β:Type}{s:Sem α}{f:α→β}{a:α}(h:ai P s a):ai P (f <$> s) (f a) :=
 λ w=>⟨by simp [(h w).1],by simpa using (h w).2⟩
theorem ai.program:ai P program P:=λ _=>⟨rfl,rfl⟩
theorem ai.underlying{t:TypeId}{d:TypeDesc}(h:P.underlying t=some d):ai P (underlying t) d:=λ w=>⟨by simp [Go.underlying,h],by simp⟩
theorem ai.typeInfo{t:TypeId}{i:TypeInfo}(h:P.info? t=some i):ai P (typeInfo t) i:=λ w=>⟨by simp [Go.typeInfo,h],by simp⟩
theorem ai.eN{α β:Type}{s:Sem α}{f:α→Sem β}{a:α}{K:β→ax→an→Prop}(h:ai P s a)(hk:aT P B R H (f a) K):aT P B R H (s >>= f) K :=
 aT.bind (h.ok hk)
def Cell(R:ax)(H:an)(a:Addr)(v:Value):Prop :=
 a.spot=none∧∃ cs e fz,(R a.block=some (.cells cs e fz)∨(a.block,Obj.cells cs e fz)∈H)∧cs[a.off]? = some v
theorem Cell.at_{w:World}{a:Addr}{v:Value}(h:Cell R H a v)(hw:Fits B R H w):w.cell? a=some v:=by
 obtain ⟨hs,cs,e,fz,h1,h2⟩:=h
 have hh:w.heap[a.block]? = some (.cells cs e fz):=h1.elim (hw.r _ _) (hw.h _ _)
 simp [World.cell?,hh,hs,h2]
theorem Cell.touch{a:Addr}{v:Value}(h:Cell R H a v)(n:Nat):AF R H n false a.block:=by
 obtain ⟨_,cs,e,fz,h1,_⟩:=h
 rcases h1 with h1 | h1
 ·exact .inl ⟨rfl,by simp [h1]⟩
 ·exact .inr (.inl ⟨_,h1⟩)
theorem ay9{w:World}{a:Addr}{v:Value}(h:w.cell? a=some v):a.block < w.heap.size:=by
 unfold World.cell? at h
 split at h
 ·exact lb ‹_›
 ·cases h
theorem aT.load{a:Addr}{v:Value}{K:Value→ax→an→Prop}(h:Cell R H a v)(hk:K v R H):aT P B R H (load a) K:=by
 intro w hw
 have hc:=h.at_ hw
 refine ⟨v,w,R,H,by simp [hc],?_,fF.refl hw,hk⟩
 intro e he
 simp only [events_load,hc] at he
 simp at he
 subst he
 exact ⟨rfl,ay9 hc,h.touch _⟩
theorem aT.new{o:Obj}{K:Nat→ax→an→Prop}(hk:∀ r,R r=none→(∀ x,(r,x) ∉ H)→K r R ((r,o)::H)):aT P B R H (newObj o) K:=by
 intro w hw
 have hR:R w.heap.size=none:=by
  cases h:R w.heap.size with
  | none=>rfl
  | some x=>exact absurd (lb (hw.r _ _ h)) (Nat.lt_irrefl _)
 have hH:∀ x,(w.heap.size,x) ∉ H:=λ x hx=>absurd (lb (hw.h _ _ hx)) (Nat.lt_irrefl _)
 have tj:∀ b (x:Obj),w.heap[b]? = some x→(w.heap.push o)[b]? = some x:=λ b x hx=>by
  have:=lb hx
  rw [Array.getElem?_push]
  rw [if_neg (by omega)]; exact hx
 refine ⟨w.heap.size,{ w with heap:=w.heap.push o },R,(w.heap.size,o)::H,by simp,by simp,⟨⟨?_,?_,?_,?_,hw.os,hw.tape,hw.out⟩,λ _ _ x=>x,by simp,?_,λ _ _ x=>.inl x,?_⟩,hk _ hR hH⟩
 ·exact λ b x hx=>tj b x (hw.r b x hx)
 ·intro b x hx
  rcases List.mem_cons.1 hx with hx | hx
  ·cases hx; simp
  ·exact tj b x (hw.h b x hx)
 ·rw [List.map_cons,List.nodup_cons]
  refine ⟨λ hm=>?_,hw.nd⟩
  obtain ⟨p,hp,he⟩:=List.mem_map.1 hm
  have Ml:p.1=w.heap.size:=he
  exact hH p.2 (by rw [← Ml]; exact hp)
 ·intro b x hx
  rcases List.mem_cons.1 hx with hx | hx
  ·cases hx; exact hR
  ·exact hw.dj b x hx
 ·intro b hb _
  show (w.heap.push o)[b]? = _
  rw [Array.getElem?_push,if_neg (by omega)]
 ·intro b x hx
  rcases List.mem_cons.1 hx with hx | hx
  ·cases hx; exact .inr (Nat.le_refl _)
  ·exact .inl ⟨x,hx⟩
inductive fa:an→Nat→Obj→Obj→an→Prop
 | here {b:Nat} {o o':Obj} {H:an}:fa ((b,o)::H) b o o' ((b,o')::H)
 | there {b:Nat} {o o':Obj} {p:Nat × Obj} {H H':an}:fa H b o o' H'→fa (p::H) b o o' (p::H')
theorem fa.keys{H H':an}{b:Nat}{o o':Obj}(h:fa H b o o' H'):H'.map (·.1)=H.map (·.1):=by
 induction h with
 | here=>rfl
 | there _ ih=>simp [ih]
theorem fa.mem{H H':an}{b:Nat}{o o':Obj}(h:fa H b o o' H'):(b,o)∈H:=by
 induction h with
 | here=>simp
 | there _ ih=>exact List.mem_cons_of_mem _ ih
theorem fa.old{H H':an}{b:Nat}{o o':Obj}(h:fa H b o o' H')(hn:(H.map (·.1)).Nodup):∀ c x,(c,x)∈H'→(c=b∧x=o')∨(c≠b∧(c,x)∈H):=by
 induction h with
 | @here b o o' H =>
  intro c x hx
  rw [List.map_cons,List.nodup_cons] at hn
  rcases List.mem_cons.1 hx with gN | gN
  ·cases gN; exact .inl ⟨rfl,rfl⟩
  ·refine .inr ⟨λ e=>hn.1 ?_,List.mem_cons_of_mem _ gN⟩
   rw [← e]
   exact List.mem_map.2 ⟨(c,x),gN,rfl⟩
 | @there b o o' p H H' hs ih =>
  intro c x hx
  rw [List.map_cons,List.nodup_cons] at hn
  rcases List.mem_cons.1 hx with hx | hx
  ·subst hx
   refine .inr ⟨λ e=>hn.1 ?_,by simp⟩
   simp only at e ⊢
   subst e
   exact List.mem_map.2 ⟨_,hs.mem,rfl⟩
  ·exact (ih hn.2 c x hx).imp id λ y=>⟨y.1,List.mem_cons_of_mem _ y.2⟩
theorem Fits.ME{H':an}{b:Nat}{o o':Obj}{w:World}(hw:Fits B R H w)(h:fa H b o o' H') :
  fF B R H w R H' { w with heap:=w.heap.setIfInBounds b o' }:=by
 have hb:w.heap[b]? = some o:=hw.h _ _ h.mem
 have bE:=lb hb
 have eH:∀ c,c≠b→(w.heap.setIfInBounds b o')[c]? = w.heap[c]? := λ c hc=>Array.getElem?_setIfInBounds_ne (by omega)
 refine ⟨⟨?_,?_,by rw [h.keys]; exact hw.nd,?_,hw.os,hw.tape,hw.out⟩,λ _ _ x=>x,by simp,?_,λ _ _ x=>.inl x,?_⟩
 ·intro c x hx
  show (w.heap.setIfInBounds b o')[c]? = _
  rw [eH c (λ e=>by subst e; have:=hw.dj _ _ h.mem; rw [hx] at this; cases this)]
  exact hw.r c x hx
 ·intro c x hx
  show (w.heap.setIfInBounds b o')[c]? = _
  rcases h.old hw.nd c x hx with ⟨rfl,rfl⟩ | ⟨hc,hx⟩
  ·rw [Array.getElem?_setIfInBounds_self_of_lt bE]
  ·rw [eH c hc]; exact hw.h c x hx
 ·intro c x hx
  rcases h.old hw.nd c x hx with ⟨rfl,_⟩ | ⟨_,hx⟩
  ·exact hw.dj _ _ h.mem
  ·exact hw.dj c x hx
 ·intro c _ hn
  exact eH c (λ e=>by subst e; exact hn _ h.mem)
 ·intro c x hx
  rcases h.old hw.nd c x hx with ⟨rfl,_⟩ | ⟨_,hx⟩
  ·exact .inl ⟨_,h.mem⟩
  ·exact .inl ⟨_,hx⟩
theorem aT.store{a:Addr}{v:Value}{cs:Array Value}{e:TypeId}{H':an}{K:Unit→ax→an→Prop}(h1:v.oneCell'=true)(ha:a.spot=none)(bE:a.off < cs.size)
  (hs:fa H a.block (.cells cs e (0,0)) (.cells (cs.setIfInBounds a.off v) e (0,0)) H') (hk:K () R H'):aT P B R H (store a v) K:=by
 intro w hw
 have hb:w.heap[a.block]? = some (.cells cs e (0,0)):=hw.h _ _ hs.mem
 have hc:w.cell? a=some cs[a.off]:=by simp [World.cell?,hb,ha,bE]
 have hf:w.frozen? a=false:=by simp [World.frozen?,hb]
 have ME:w.setCell a v={ w with heap:=w.heap.setIfInBounds a.block (.cells (cs.setIfInBounds a.off v) e (0,0)) }:=by
  simp only [World.setCell]
  congr 1
  apply Array.ext_getElem?
  intro i
  rw [Array.getElem?_modify]
  by_cases hi:a.block=i
  ·subst hi
   rw [Array.getElem?_setIfInBounds_self_of_lt (lb hb),hb]
   simp [ha]
  ·simp [hi,Array.getElem?_setIfInBounds_ne hi]
 refine ⟨(),w.setCell a v,R,H',by rw [run_store P w a v _ h1]; simp [hc,hf],?_,?_,hk⟩
 ·intro e he
  rw [events_store P w #[] a v _ h1] at he
  simp [hc,hf] at he
  subst he
  refine ⟨rfl,?_,.inr (.inl ⟨_,hs.mem⟩)⟩
  simpa [World.setCell] using lb hb
 ·rw [ME]; exact hw.ME hs
def Obj.plain:Obj→Bool
 | .cells .. => false
 | .chan .. => false
 | _=>true
theorem aT.getObj{r:Nat}{o:Obj}{K:Obj→ax→an→Prop}(ho:Obj.plain o=true)(h:R r=some o∨(r,o)∈H)(hk:K o R H):aT P B R H (getObj r) K:=by
 intro w hw
 have hh:w.heap[r]? = some o:=h.elim (hw.r _ _) (hw.h _ _)
 have kh:(Go.getObj r).run P w = .ok o w:=by
  cases o <;> simp_all [Obj.plain,Go.getObj,Sem.run]
 have jP:(Go.getObj r).events P w #[]=#[⟨.obj r,false,false⟩]:=by
  cases o <;> simp_all [Obj.plain,Go.getObj,Sem.events,Sem.runT,Obj.isChan,-Sem.runT_eq]
 refine ⟨o,w,R,H,kh,?_,fF.refl hw,hk⟩
 intro e he
 rw [jP] at he
 simp at he
 subst he
 exact ⟨rfl,lb hh,h.elim (λ x=>.inl ⟨rfl,by simp [x]⟩) (λ x=>.inr (.inl ⟨_,x⟩))⟩
theorem aT.setObj{r:Nat}{o o':Obj}{H':an}{K:Unit→ax→an→Prop}(ho:Obj.plain o=true)(eR:Obj.plain o'=true)(hs:fa H r o o' H')(hk:K () R H'):aT P B R H (setObj r o') K:=by
 intro w hw
 have hh:w.heap[r]? = some o:=hw.h _ _ hs.mem
 have kh:(Go.setObj r o').run P w = .ok () { w with heap:=w.heap.setIfInBounds r o' }:=by
  cases o <;> simp_all [Obj.plain,Go.setObj,Sem.run]
 have jP:(Go.setObj r o').events P w #[]=#[⟨.obj r,true,false⟩]:=by
  cases o <;> simp_all [Obj.plain,Go.setObj,Sem.events,Sem.runT,-Sem.runT_eq] <;> (cases o' <;> simp_all [Obj.isChan])
 refine ⟨(),_,R,H',kh,?_,hw.ME hs,hk⟩
 intro e he
 rw [jP] at he
 simp at he
 subst he
 exact ⟨rfl,by simpa using lb hh,.inr (.inl ⟨_,hs.mem⟩)⟩
theorem aT.choose{q:Question}{K:Nat→ax→an→Prop}(hk:∀ t,K (if q.forced then 0 else q.cut t) R H):aT P B R H (choose q) K:=by
 intro w hw
 cases hf:q.forced with
 | true =>
  have:=hk 0
  rw [hf] at this
  exact ⟨0,w,R,H,by simp [Go.choose,Sem.run,hf],by simp,fF.refl hw,by simpa using this⟩
 | false =>
  have:=hk (w.tape w.drawn q)
  rw [hf] at this
  exact ⟨q.cut (w.tape w.drawn q),{ w with drawn:=w.drawn+1 },R,H,by simp [Go.choose,Sem.run,hf],by simp,⟨⟨hw.r,hw.h,hw.nd,hw.dj,hw.os,hw.tape,hw.out⟩,λ _ _ x=>x,Nat.le_refl _,λ _ _ _=>rfl,λ _ _ x=>.inl x,λ _ o x=>.inl ⟨o,x⟩⟩,by simpa using this⟩
theorem aT.aBs{K:Unit→ax→an→Prop}(hk:K () R H):aT P B R H (mark .noRoom) K :=
 λ w hw=>⟨(),w,R,H,rfl,by simp [gR],fF.refl hw,hk⟩
end
end Go.Lg
namespace Go.Lg
open Go.Conc
structure Jd (P:Program) (B:Base) (main:Bool) where
 J:ax→an→Goroutine→Prop
 step:∀ {R H g},g.status = .running→(∀ w,Fits B R H w→∃ g' w' es R' H',stepG P main g w = .go g' w' es∧(∀ e∈es,gR R H w.heap.size w'.heap.size e)∧fF B R H w R' H' w'∧J R' H' g')→J R H g
 ghost:∀ {R H R' H' g},(∀ w,Fits B R H w→fF B R H w R' H' w)→J R' H' g→J R H g
abbrev St:=List (Nat × Value)
structure Ctx where
 fn:FuncId
 kind:CallKind
 ro:Option Nat
 n:Nat
 defers:List Deferred
 cs:List Frame
def aY(fr:Frame)(cs:List Frame):Goroutine:={ frame:=fr,callers:=cs,status:=.running,dying:=none }
def aW(c:Ctx)(tmps:Array Value)(todo:List Item):Frame:={ fn:=c.fn,tmps,todo,defers:=c.defers,mode:=.run,kind:=c.kind,roundOf:=c.ro }
def cQ(n:Nat)(st:St)(tmps:Array Value):Prop:=tmps.size=n∧∀ t v,st.lookup t=some v→tmps[t]? = some v
def bU(st:St):St→Prop
 | []=>True
 | p::r=>st.lookup p.1=some p.2∧bU st r
def aF(st st':St):Prop:=∀ t v,st'.lookup t=some v→st.lookup t=some v
theorem bU.sub{st:St}:∀ {st':St},bU st st'→aF st st'
 | [],_,_,_,h=>by cases h
 | p::r,hs,t,v,h=>by
  rw [List.lookup_cons] at h
  split at h
  ·rename_i heq
   cases h
   have:t=p.1:=by simpa using heq
   subst this
   exact hs.1
  ·exact bU.sub hs.2 t v h
theorem aF.refl(st:St):aF st st:=λ _ _ h=>h
theorem cQ.sub{n:Nat}{st st':St}{tmps:Array Value}(h:cQ n st tmps)(hs:aF st st'):cQ n st' tmps:=⟨h.1,λ t v x=>h.2 t v (hs t v x)⟩
def bW(dst:Option Tmp)(v:Value)(st:St):St:=match dst with | some d=>(d,v)::st | none=>st
theorem aF.put{dst:Option Tmp}{d:Tmp}{v:Value}{st:St}(h:dst=some d):aF (bW dst v st) ((d,v)::st):=by subst h; exact aF.refl _
theorem aF.NA{dst:Option Tmp}{v:Value}{st:St}(h:dst=none):aF (bW dst v st) st:=by subst h; exact aF.refl _
def fw(dst:Option Tmp)(v:Value)(tmps:Array Value):Array Value:=match dst with | some d=>tmps.setIfInBounds d v | none=>tmps
def ajK(dst:Option Tmp)(n:Nat):Bool:=match dst with | some d=>Nat.blt d n | none=>true
def bV(dst:Option Tmp)(n:Nat):Prop:=ajK dst n=true
theorem bV.lt{d n:Nat}(h:bV (some d) n):d < n:=by
 have:Nat.blt d n=true:=h
 simpa [Nat.blt_eq] using this
theorem cQ.put{n:Nat}{st:St}{tmps:Array Value}(h:cQ n st tmps){dst:Option Tmp}(v:Value)(hd:bV dst n):cQ n (bW dst v st) (fw dst v tmps):=by
 cases dst with
 | none=>exact h
 | some d =>
  refine ⟨by simp [fw,h.1],λ t u hu=>?_⟩
  have hd':d < tmps.size:=by rw [h.1]; exact hd.lt
  simp only [bW,List.lookup_cons] at hu
  split at hu
  ·rename_i heq
   cases hu
   have:t=d:=by simpa using heq
   subst this
   simp [fw,hd']
  ·rename_i heq
   have eH:t≠d:=by simpa using heq
   simp only [fw]
   rw [Array.getElem?_setIfInBounds_ne (Ne.symm eH)]
   exact h.2 t u hu
def bh(st:St):Operand→Option Value
 | .tmp t=>st.lookup t
 | .const v=>some v
 | .global g=>some (.pointer (some ⟨g,0,none⟩))
 | .func f=>some (.func (.func f) #[] #[])
def Knows(st:St)(ρ:Operand→Value):Prop:=∀ x v,bh st x=some v→ρ x=v
theorem cQ.knows{n:Nat}{st:St}{tmps:Array Value}(h:cQ n st tmps)(c:Ctx)(todo:List Item):Knows st (aW c tmps todo).eval:=by
 intro x v hx
 cases x with
 | tmp t =>
  have:=h.2 t v hx
  simp [aW,Frame.eval,Array.getD_eq_getD_getElem?,this]
 | const u=>cases hx; rfl
 | global g=>cases hx; rfl
 | func f=>cases hx; rfl
section
variable {P:Program} {B:Base} {main:Bool} (ae:Jd P B main)
def U(c:Ctx)(R:ax)(H:an)(st:St)(todo:List Item):Prop:=∀ tmps,cQ c.n st tmps→ae.J R H (aY (aW c tmps todo) c.cs)
variable {ae} {c:Ctx} {R:ax} {H:an} {st:St} {k:List Item}
theorem U.sub{st':St}{todo:List Item}(hs:aF st st')(h:U ae c R H st' todo):U ae c R H st todo:=λ tmps ht=>h tmps (ht.sub hs)
theorem U.ghost{R':ax}{H':an}{todo:List Item}(hg:∀ w,Fits B R H w→fF B R H w R' H' w)(h:U ae c R' H' st todo):U ae c R H st todo:=λ tmps ht=>ae.ghost hg (h tmps ht)
theorem Jd.ctl{R:ax}{H:an}{g g':Goroutine}(hs:g.status = .running)(h:∀ w,stepG P main g w = .go g' w)(hj:ae.J R H g'):ae.J R H g :=
 ae.step hs λ w hw=>⟨g',w,#[],R,H,h w,by simp,fF.refl hw,hj⟩
theorem U.skip(h:U ae c R H st k):U ae c R H st (.code .skip::k):=λ tmps ht=>Jd.ctl rfl (λ w=>by simp [stepG,stepG.exec,aY,aW]) (h tmps ht)
theorem U.label{l:Nat}(h:U ae c R H st k):U ae c R H st (.code (.label l)::k):=λ tmps ht=>Jd.ctl rfl (λ w=>by simp [stepG,stepG.exec,aY,aW]) (h tmps ht)
theorem U.inBlock{id:Nat}(h:U ae c R H st k):U ae c R H st (.inBlock id::k):=λ tmps ht=>Jd.ctl rfl (λ w=>by simp [stepG,stepG.exec,aY,aW]) (h tmps ht)
theorem U.seq{x y:Code}(h:U ae c R H st (.code x :: .code y::k)):U ae c R H st (.code (.seq x y)::k):=λ tmps ht=>Jd.ctl rfl (λ w=>by simp [stepG,stepG.exec,aY,aW]) (h tmps ht)
theorem U.block{id:Nat}{x:Code}(h:U ae c R H st (.code x :: .inBlock id::k)):U ae c R H st (.code (.block id x)::k):=λ tmps ht=>Jd.ctl rfl (λ w=>by simp [stepG,stepG.exec,aY,aW]) (h tmps ht)
theorem U.scope{x:Code}(h:U ae c R H st (.code x :: .inScope x::k)):U ae c R H st (.code (.scope x)::k):=λ tmps ht=>Jd.ctl rfl (λ w=>by simp [stepG,stepG.exec,aY,aW]) (h tmps ht)
theorem U.enterLoop{x:Code}(h:U ae c R H st (.code x :: .inLoop x::k)):U ae c R H st (.code (.loop x)::k):=λ tmps ht=>Jd.ctl rfl (λ w=>by simp [stepG,stepG.exec,aY,aW]) (h tmps ht)
theorem U.inLoop{x:Code}(h:U ae c R H st (.code x :: .inLoop x::k)):U ae c R H st (.inLoop x::k):=λ tmps ht=>Jd.ctl rfl (λ w=>by simp [stepG,stepG.exec,aY,aW]) (h tmps ht)
theorem U.exit{id:Nat}{k':List Item}(he:exitTo id k=some k')(h:U ae c R H st k'):U ae c R H st (.code (.exit id)::k):=λ tmps ht=>Jd.ctl rfl (λ w=>by simp [stepG,stepG.exec,aY,aW,he]) (h tmps ht)
theorem U.region{id:Nat}{ops:Array Oper}(h:U ae c R H st (.inRegion ops (List.range ops.size)::k)):U ae c R H st (.code (.region id ops false)::k):=λ tmps ht=>Jd.ctl rfl (λ w=>by simp [stepG,stepG.exec,aY,aW]) (h tmps ht)
theorem U.aV{ops:Array Oper}(h:U ae c R H st k):U ae c R H st (.inRegion ops []::k):=λ tmps ht=>Jd.ctl rfl (λ w=>by simp [stepG,stepG.exec,aY,aW]) (h tmps ht)
theorem U.cond{x:Operand}{th el:Code}{t:Bool}(hx:bh st x=some (.bool t))(h1:t=true→U ae c R H st (.code th::k))(h2:t=false→U ae c R H st (.code el::k)):U ae c R H st (.code (.cond x th el)::k):=by
 intro tmps ht
 have he:=ht.knows c (.code (.cond x th el)::k) x _ hx
 cases t with
 | true=>exact Jd.ctl rfl (λ w=>by simp only [aW] at he; simp [stepG,stepG.exec,aY,aW,he]) (h1 rfl tmps ht)
 | false=>exact Jd.ctl rfl (λ w=>by simp only [aW] at he; simp [stepG,stepG.exec,aY,aW,he]) (h2 rfl tmps ht)
theorem U.cond_true{x:Operand}{th el:Code}(hx:bh st x=some (.bool true))(h:U ae c R H st (.code th::k)):U ae c R H st (.code (.cond x th el)::k):=U.cond hx (λ _=>h) (λ e=>by cases e)
theorem U.cond_false{x:Operand}{th el:Code}(hx:bh st x=some (.bool false))(h:U ae c R H st (.code el::k)):U ae c R H st (.code (.cond x th el)::k):=U.cond hx (λ e=>by cases e) (λ _=>h)
def mF:Op→Bool
 | .defer _=>true
 | _=>false
theorem po{tmps:Array Value}{ops:Array Oper}{i:Nat}{rest:List Nat}{o:Oper}{w:World}(ho:ops[i]? = some o)(hw:Region.wanted o (yielded ops tmps)=true)(hd:mF o.op=false) :
  stepG P main (aY (aW c tmps (.inRegion ops (i::rest)::k)) c.cs) w=stepG.apply P true (aW c tmps (.inRegion ops (i::rest)::k)) c.cs none (execOp (aW c tmps (.inRegion ops (i::rest)::k)).eval o) w:=by
 cases hr:c.ro with
 | none=>simp [aY,stepG,stepG.exec,stepG.oper,Frame.oper?,aW,ho,hw,hr]
 | some l =>
  simp only [aY,stepG,stepG.exec,stepG.oper,Frame.oper?,aW,ho,hw,hr,Option.map_some,Option.getD_some,if_true]
  split
  ·rename_i h1 h2; rw [h2] at hd; cases hd
  ·rfl
theorem Xl{tmps:Array Value}{ops:Array Oper}{i:Nat}{rest:List Nat}{o:Oper}{w:World}(ho:ops[i]? = some o)(hw:Region.wanted o (yielded ops tmps)=false) :
  stepG P main (aY (aW c tmps (.inRegion ops (i::rest)::k)) c.cs) w = .go (aY (aW c (fw o.dst undef tmps) (.inRegion ops rest::k)) c.cs) w:=by
 simp only [aY,stepG,stepG.exec,aW,ho,hw,Option.map_some,Option.getD_some,Frame.finish,Option.bind_some,fw]
 cases o.dst <;> rfl
theorem pK{tmps:Array Value}{ops:Array Oper}{i:Nat}{rest:List Nat}{o:Oper}{v:Value}(ho:ops[i]? = some o) :
  (aW c tmps (.inRegion ops (i::rest)::k)).finish v=aW c (fw o.dst v tmps) (.inRegion ops rest::k):=by
 simp only [Frame.finish,aW,ho,Option.bind_some,fw]
 cases o.dst <;> rfl
def cJ(ops:Array Oper)(st:St)(o:Oper):Option Bool :=
 match o.guard with
 | none=>some true
 | some (j,want)=>match ((ops[j]?).bind (·.dst)).bind (st.lookup ·) with
  | some (.bool b)=>some (b == want)
  | some (.tuple _)=>some false
  | _=>none
theorem kz{n:Nat}{ops:Array Oper}{tmps:Array Value}{o:Oper}{b:Bool}(ht:cQ n st tmps)(h:cJ ops st o=some b):Region.wanted o (yielded ops tmps)=b:=by
 unfold cJ at h
 unfold Region.wanted
 split at h
 ·rename_i hg; simp only [hg]; exact Option.some.inj h
 ·rename_i j want hg
  simp only [hg,yielded]
  cases hd:(ops[j]?).bind (·.dst) with
  | none=>simp [hd] at h
  | some d =>
   simp only [hd,Option.bind_some] at h ⊢
   cases hl:st.lookup d with
   | none=>simp [hl] at h
   | some v =>
    rw [hl] at h
    rw [ht.2 d v hl]
    cases v <;> simp at h ⊢ <;> first | (rw [← h]; done) | exact h.symm | (subst h; rfl)
theorem AG{fr:Frame}{cs:List Frame}{s:Sem Next}{w w':World}{v:Value}(hk:fr.kind ≠ .early)(hr:s.run P w = .ok (.value v) w') :
  stepG.apply P true fr cs none s w = .go (aY (fr.finish v) cs) w' (seen P fr.fn (s.events P w #[])):=by
 have dI:(fr.kind == CallKind.early)=false:=by simpa using hk
 simp [stepG.apply,hr,aY,dI,GStep.after]
theorem Qb{fr:Frame}{cs:List Frame}{s:Sem Next}{w w':World}(hk:fr.kind ≠ .early)(hr:s.run P w = .ok .skip w') :
  stepG.apply P true fr cs none s w = .go (aY (fr.finish undef) cs) w' (seen P fr.fn (s.events P w #[])):=by
 have dI:(fr.kind == CallKind.early)=false:=by simpa using hk
 simp [stepG.apply,hr,aY,dI,GStep.after]
theorem GQ{fr:Frame}{cs:List Frame}{s:Sem Next}{w w':World}{f:FuncId}{args:Array Value}{ops:Array Oper}{is:List Nat}{k:List Item}(ht:fr.todo = .inRegion ops is::k)(hk:fr.kind ≠ .early)(hr:s.run P w = .ok (.enter f args) w') :
  stepG.apply P true fr cs none s w = .go (aY (Frame.enter P f args .normal) (fr::cs)) w' (seen P fr.fn (s.events P w #[])):=by
 have dI:(fr.kind == CallKind.early)=false:=by simpa using hk
 simp [stepG.apply,hr,aY,dI,GStep.after,ht]
theorem U.op{ops:Array Oper}{i:Nat}{rest:List Nat}{o:Oper}(ho:ops[i]? = some o)(hw:cJ ops st o=some true)(hd:mF o.op=false)(hk:c.kind ≠ .early)
  (h:∀ ρ,Knows st ρ→aT P B R H (execOp ρ o) λ nx R' H'=>∃ v,(nx = .value v∨(nx = .skip∧v=undef))∧bV o.dst c.n∧∃ st',aF (bW o.dst v st) st'∧U ae c R' H' st' (.inRegion ops rest::k)) :
  U ae c R H st (.inRegion ops (i::rest)::k):=by
 intro tmps ht
 refine ae.step rfl λ w pR=>?_
 obtain ⟨nx,w',R',H',h1,h2,h3,v,hv,lE,st',hs,jM⟩:=h _ (ht.knows c _) w pR
 refine ⟨aY (aW c (fw o.dst v tmps) (.inRegion ops rest::k)) c.cs,w',seen P c.fn ((execOp (aW c tmps (.inRegion ops (i::rest)::k)).eval o).events P w #[]),R',H',?_,λ e he=>h2 e (mem_seen he),h3,jM _ ((ht.put v lE).sub hs)⟩
 rw [po ho (kz ht hw) hd,← pK (rest:=rest) (k:=k) (c:=c) (tmps:=tmps) (v:=v) ho]
 rcases hv with rfl | ⟨rfl,rfl⟩
 ·exact AG hk h1
 ·exact Qb hk h1
theorem U.unwanted{ops:Array Oper}{i:Nat}{rest:List Nat}{o:Oper}{st':St}(ho:ops[i]? = some o)(hw:cJ ops st o=some false)(lE:bV o.dst c.n)(hs:aF (bW o.dst undef st) st')
  (h:U ae c R H st' (.inRegion ops rest::k)):U ae c R H st (.inRegion ops (i::rest)::k) :=
 λ _ ht=>Jd.ctl rfl (λ _=>Xl ho (kz ht hw)) (h _ ((ht.put undef lE).sub hs))
def aB(ae:Jd P B main)(f:FuncId)(args:Array Value)(R:ax)(H:an)(Post:Value→ax→an→Prop):Prop :=
 ∀ fr cs,(∀ v R' H',Post v R' H'→ae.J R' H' (aY (fr.finish v) cs))→ae.J R H (aY (Frame.enter P f args .normal) (fr::cs))
theorem aB.mono{f:FuncId}{args:Array Value}{Post GB:Value→ax→an→Prop}(h:aB ae f args R H Post)(hp:∀ v R' H',Post v R' H'→GB v R' H'):aB ae f args R H GB :=
 λ fr cs hk=>h fr cs λ v R' H' hv=>hk v R' H' (hp v R' H' hv)
theorem U.enters{ops:Array Oper}{i:Nat}{rest:List Nat}{o:Oper}{f:FuncId}{args:Array Value}{Post:Value→ax→an→Prop}(ho:ops[i]? = some o)(hw:cJ ops st o=some true)(hd:mF o.op=false)(hk:c.kind ≠ .early)(lE:bV o.dst c.n)
  (he:∀ ρ,Knows st ρ→ai P (execOp ρ o) (.enter f args)) (hf:aB ae f args R H Post)
  (h:∀ v R' H',Post v R' H'→∃ st',aF (bW o.dst v st) st'∧U ae c R' H' st' (.inRegion ops rest::k)) :
  U ae c R H st (.inRegion ops (i::rest)::k):=by
 intro tmps ht
 refine ae.step rfl λ w pR=>?_
 have hv:=he _ (ht.knows c (.inRegion ops (i::rest)::k)) w
 refine ⟨aY (Frame.enter P f args .normal) (aW c tmps (.inRegion ops (i::rest)::k)::c.cs),w,seen P c.fn ((execOp (aW c tmps (.inRegion ops (i::rest)::k)).eval o).events P w #[]),R,H,?_,?_,fF.refl pR,hf _ _ λ v R' H' hp=>?_⟩
 ·rw [po ho (kz ht hw) hd]
  exact GQ rfl hk hv.1
 ·intro e HN
  have:=mem_seen HN
  rw [hv.2] at this
  simp at this
 ·obtain ⟨st',hs,jM⟩:=h v R' H' hp
  rw [pK ho]
  exact jM _ ((ht.put v lE).sub hs)
def oJ(ae:Jd P B main)(c:Ctx)(o:Oper)(R:ax)(H:an)(st:St)(C:ax→an→St→Prop):Prop :=
 mF o.op=false∧bV o.dst c.n ∧
  ((∀ ρ,Knows st ρ→aT P B R H (execOp ρ o) λ nx R' H'=>∃ v,(nx = .value v∨(nx = .skip∧v=undef))∧∃ st',aF (bW o.dst v st) st'∧C R' H' st') ∨
   (∃ f args,(∀ ρ,Knows st ρ→ai P (execOp ρ o) (.enter f args))∧aB ae f args R H λ v R' H'=>∃ st',aF (bW o.dst v st) st'∧C R' H' st'))
def aZ(P:Program)(B:Base)(c:Ctx)(o:Oper)(R:ax)(H:an)(st:St)(C:ax→an→St→Prop):Prop :=
 mF o.op=false∧bV o.dst c.n∧∀ ρ,Knows st ρ→aT P B R H (execOp ρ o) λ nx R' H'=>∃ v,(nx = .value v∨(nx = .skip∧v=undef))∧∃ st',aF (bW o.dst v st) st'∧C R' H' st'
theorem aZ.to{o:Oper}{C:ax→an→St→Prop}(h:aZ P B c o R H st C):oJ ae c o R H st C:=⟨h.1,h.2.1,.inl h.2.2⟩
theorem U.step{ops:Array Oper}{i:Nat}{rest:List Nat}{o:Oper}(ho:ops[i]? = some o)(hw:cJ ops st o=some true)(hk:(c.kind == CallKind.early)=false)
  (h:oJ ae c o R H st λ R' H' st'=>U ae c R' H' st' (.inRegion ops rest::k)):U ae c R H st (.inRegion ops (i::rest)::k):=by
 obtain ⟨hd,lE,h | ⟨f,args,h1,h2⟩⟩:=h
 ·exact U.op ho hw hd (by simpa using hk) λ ρ bf=>(h ρ bf).mono λ nx R' H' ⟨v,hv,hx⟩=>⟨v,hv,lE,hx⟩
 ·exact U.enters ho hw hd (by simpa using hk) lE h1 h2 λ v R' H' hx=>hx
theorem U.ix{ops:Array Oper}{i:Nat}{rest:List Nat}{o:Oper}(ho:ops[i]? = some o)(hw:cJ ops st o=some true)(hk:(c.kind == CallKind.early)=false)
  (h:aZ P B c o R H st λ R' H' st'=>U ae c R' H' st' (.inRegion ops rest::k)):U ae c R H st (.inRegion ops (i::rest)::k):=U.step ho hw hk h.to
theorem U.aCV{id n:Nat}{is:List Nat}{ops:Array Oper}(hn:ops.size=n)(l5:List.range n=is)(h:U ae c R H st (.inRegion ops is::k)):U ae c R H st (.code (.region id ops false)::k):=by
 subst hn; subst l5; exact U.region h
def uH:Nat→List Value→St
 | _,[]=>[]
 | i,v::r=>(i,v)::uH (i+1) r
theorem GR:∀ (args:List Value) (i t:Nat) (v:Value),(uH i args).lookup t=some v→i≤t∧args[t - i]? = some v
 | [],_,_,_,h=>by cases h
 | a::r,i,t,v,h=>by
  simp only [uH,List.lookup_cons] at h
  split at h
  ·rename_i heq
   cases h
   have:t=i:=by simpa using heq
   subst this
   simp
  ·rename_i heq
   have eH:t≠i:=by simpa using heq
   obtain ⟨h1,h2⟩:=GR r (i+1) t v h
   refine ⟨by omega,?_⟩
   have:t - i=(t - (i+1))+1:=by omega
   rw [this]
   simpa using h2
theorem aB.bn{f:FuncId}{fn:Func}{body:Code}{args:List Value}{n:Nat}{Post:Value→ax→an→Prop}(hf:P.funcs[f]? = some fn)(hb:fn.body=some body)(qx:fn.ntmps=n)(hn:Nat.ble args.length n=true)
  (h:∀ fr cs,(∀ v R' H',Post v R' H'→ae.J R' H' (aY (fr.finish v) cs))→U ae ⟨f,.normal,none,n,[],fr::cs⟩ R H (uH 0 args) [.code body]):aB ae f args.toArray R H Post:=by
 subst qx
 intro fr cs hk
 have hn:args.length≤fn.ntmps:=by simpa [Nat.ble_eq] using hn
 have:=h fr cs hk (args.toArray++Array.replicate (fn.ntmps - args.length) undef) ⟨by simp; omega,λ t v ht=>?_⟩
 ·have e:Frame.enter P f args.toArray .normal=aW ⟨f,.normal,none,fn.ntmps,[],fr::cs⟩ (args.toArray++Array.replicate (fn.ntmps - args.length) undef) [.code body]:=by
   simp [Frame.enter,aW,hf,hb]
  rw [e]
  exact this
 ·obtain ⟨_,h2⟩:=GR args 0 t v ht
  have bE:t < args.length:=by
   have:=(List.getElem?_eq_some_iff.1 h2).1
   simpa using this
  rw [Array.getElem?_append_left (by simpa using bE)]
  simpa using h2
def xP(st:St):List ResultVar→Option (List Value)
 | []=>some []
 | .tmp t::r=>match st.lookup t,xP st r with
  | some v,some vs=>some (v::vs)
  | _,_=>none
 | .cell _ _::_=>none
def gZ:List Value→Value
 | [v]=>v
 | vs=>.tuple vs.toArray
theorem afd{st:St}{tmps:Array Value}{n:Nat}(ht:cQ n st tmps):∀ (l:List ResultVar) (vs:List Value),xP st l=some vs →
  ai P (l.mapM (m:=Sem) λ
   | .tmp t=>pure (tmps.getD t undef)
   | .cell a t=>do loadVar t (← asAddr (tmps.getD a undef))) vs
 | [],vs,h=>by cases h; exact ai.pure _
 | .tmp t::r,vs,h=>by
  simp only [xP] at h
  cases hl:st.lookup t with
  | none=>simp [hl] at h
  | some v =>
   cases hr:xP st r with
   | none=>simp [hl,hr] at h
   | some us =>
    simp only [hl,hr,Option.some.injEq] at h
    subst h
    rw [List.mapM_cons]
    refine ai.bind (a:=v) ?_ (ai.bind (afd ht r us hr) (ai.pure _))
    have:tmps.getD t undef=v:=by simp [Array.getD_eq_getD_getElem?,ht.2 t v hl]
    show ai P (pure (tmps.getD t undef)) v
    rw [this]; exact ai.pure _
 | .cell _ _::_,_,h=>by cases h
theorem XE{fn:Func}{st:St}{tmps:Array Value}{n:Nat}{vs:List Value}(ht:cQ n st tmps)(h:xP st fn.results.toList=some vs):ai P (results fn tmps) (gZ vs):=by
 unfold results
 rw [← Array.toArray_toList (xs:=fn.results),List.mapM_toArray]
 refine ai.bind (ai.map (afd ht _ _ h)) ?_
 cases vs with
 | nil=>exact ai.pure _
 | cons v r=>cases r with
  | nil=>exact ai.pure _
  | cons _ _=>exact ai.pure _
end
end Go.Lg
namespace Go.Lg
open Go.Conc
theorem rB(b o n:Nat):(⟨b,o,none⟩:Addr).add n=⟨b,o+n,none⟩:=by
 unfold Addr.add; split
 ·subst_vars; rfl
 ·rfl
def gf(P:Program)(s f off:Nat):Prop:=∀ b o:Nat,ai P (Instr.fieldAt s (.pointer (some ⟨b,o,none⟩)) f) (.pointer (some ⟨b,o+off,none⟩))
def mW(P:Program)(t e n:Nat):Prop:=P.underlying t=some (.slice e)∧ai P (sizeOf e) n
def uD(P:Program)(t len e n:Nat):Prop:=P.underlying t=some (.array len e)∧ai P (sizeOf e) n
def agI(z:Int):Prop:=-9223372036854775808≤z∧z≤9223372036854775807
theorem afW{z:Int}(h:agI z):IntKind.wrap .i64 z=z:=by
 obtain ⟨h1,h2⟩:=h
 simp only [IntKind.wrap,IntKind.bits,IntKind.signed]
 simp
 omega
section
variable {P:Program} {B:Base} {main:Bool} {ae:Jd P B main} {c:Ctx} {R:ax} {H:an} {st st':St} {o:Oper} {C:ax→an→St→Prop}
theorem Ox.val{v:Value}(lZ:mF o.op=false)(hd:bV o.dst c.n)
  (hv:∀ ρ,Knows st ρ→ai P (execOp ρ o) (.value v)) (hs:aF (bW o.dst v st) st') (h:C R H st'):aZ P B c o R H st C :=
 ⟨lZ,hd,λ ρ bf=>(hv ρ bf).ok ⟨v,.inl rfl,st',hs,h⟩⟩
theorem Ox.mf{s:(Operand→Value)→Sem Value}{v:Value}(lZ:mF o.op=false)(hd:bV o.dst c.n)
  (he:∀ ρ,execOp ρ o=(do let x ← s ρ; pure (.value x))) (hv:∀ ρ,Knows st ρ→ai P (s ρ) v) (hs:aF (bW o.dst v st) st') (h:C R H st'):aZ P B c o R H st C :=
 Ox.val lZ hd (λ ρ bf=>by rw [he]; exact ai.bind (hv ρ bf) (ai.pure _)) hs h
theorem Ox.mem{s:(Operand→Value)→Sem Value}(lZ:mF o.op=false)(hd:bV o.dst c.n)
  (he:∀ ρ,execOp ρ o=(do let x ← s ρ; pure (.value x)))
  (hv:∀ ρ,Knows st ρ→aT P B R H (s ρ) λ v R' H'=>∃ st',aF (bW o.dst v st) st'∧C R' H' st'):aZ P B c o R H st C :=
 ⟨lZ,hd,λ ρ bf=>by
  rw [he]
  exact aT.bind ((hv ρ bf).mono λ v R' H' ⟨st',hs,h⟩=>aT.pure ⟨v,.inl rfl,st',hs,h⟩)⟩
theorem Ox.Ns{s:(Operand→Value)→Sem Unit}(lZ:mF o.op=false)(hd:o.dst=none)
  (he:∀ ρ,execOp ρ o=(do s ρ; pure .skip)) (hs:aF st st')
  (hv:∀ ρ,Knows st ρ→aT P B R H (s ρ) λ _ R' H'=>C R' H' st'):aZ P B c o R H st C :=
 ⟨lZ,by rw [hd]; rfl,λ ρ bf=>by
  rw [he]
  exact aT.bind ((hv ρ bf).mono λ v R' H' h=>aT.pure ⟨undef,.inr ⟨rfl,rfl⟩,st',by rw [hd]; exact hs,h⟩)⟩
theorem Ox.move{x:Operand}{v:Value}(au:o.op = .move x)(hx:bh st x=some v)(hd:bV o.dst c.n)
  (hs:aF (bW o.dst v st) st') (h:C R H st'):aZ P B c o R H st C :=
 Ox.val (by rw [au]; rfl) hd (λ ρ bf=>by simp only [execOp,au,bf x v hx]; exact ai.pure _) hs h
theorem Ox.assign{x:Operand}{v:Value}(au:o.op = .assign x)(hx:bh st x=some v)(hd:bV o.dst c.n)
  (hs:aF (bW o.dst v st) st') (h:C R H st'):aZ P B c o R H st C :=
 Ox.val (by rw [au]; rfl) hd (λ ρ bf=>by simp only [execOp,au,bf x v hx]; exact ai.pure _) hs h
theorem Ox.aCw{x y z:Operand}{v:Value}(au:o.op = .pick x y z)(hx:bh st x=some (.bool true))(hy:bh st y=some v)(hd:bV o.dst c.n)
  (hs:aF (bW o.dst v st) st') (h:C R H st'):aZ P B c o R H st C :=
 Ox.val (by rw [au]; rfl) hd (λ ρ bf=>by
  simp only [execOp,au,bf x _ hx,bf y v hy,asBool]
  exact ai.bind (ai.pure true) (ai.pure _)) hs h
theorem Ox.aCv{x y z:Operand}{v:Value}(au:o.op = .pick x y z)(hx:bh st x=some (.bool false))(hz:bh st z=some v)(hd:bV o.dst c.n)
  (hs:aF (bW o.dst v st) st') (h:C R H st'):aZ P B c o R H st C :=
 Ox.val (by rw [au]; rfl) hd (λ ρ bf=>by
  simp only [execOp,au,bf x _ hx,bf z v hz,asBool]
  exact ai.bind (ai.pure false) (ai.pure _)) hs h
theorem Ox.fieldAddr{x:Operand}{s f off b n:Nat}(au:o.op = .fieldAddr s x f)(hx:bh st x=some (.pointer (some ⟨b,n,none⟩)))(hf:gf P s f off)(hd:bV o.dst c.n)
  (hs:aF (bW o.dst (.pointer (some ⟨b,n+off,none⟩)) st) st') (h:C R H st'):aZ P B c o R H st C :=
 Ox.mf (s:=λ ρ=>Instr.fieldAt s (ρ x) f) (by rw [au]; rfl) hd (λ ρ=>by simp only [execOp,au]) (λ ρ bf=>by rw [bf x _ hx]; exact hf b n) hs h
theorem XD{t e n b m len cap:Nat}{kd:IntKind}{j:Nat}(ht:mW P t e n)(hj:j < len) :
  ai P (Instr.indexAt t (.slice (some ⟨b,m,none⟩) len cap) (.int kd (j:Int))) (.pointer (some ⟨b,m+j * n,none⟩)):=by
 unfold Instr.indexAt
 refine ai.bind (a:=(kd,(j:Int))) (ai.pure _) (ai.bind (ai.underlying ht.1) (ai.bind (a:=(some (⟨b,m,none⟩:Addr),len,e)) (ai.pure _) (ai.bind (ai.underlying ht.1) ?_)))
 have h1:(0:Int)≤(j:Int)∧(j:Int) < (len:Int):=by omega
 simp only [h1,and_self,if_true,Int.toNat_natCast]
 refine ai.bind ht.2 ?_
 rw [rB]
 exact ai.pure _
theorem aED{t e n b m len:Nat}{kd:IntKind}{j:Nat}(ht:uD P t len e n)(hj:j < len) :
  ai P (Instr.indexAt t (.pointer (some ⟨b,m,none⟩)) (.int kd (j:Int))) (.pointer (some ⟨b,m+j * n,none⟩)):=by
 unfold Instr.indexAt
 refine ai.bind (a:=(kd,(j:Int))) (ai.pure _) (ai.bind (ai.underlying ht.1) (ai.bind (a:=(⟨b,m,none⟩:Addr)) (ai.pure _) (ai.bind (a:=(some (⟨b,m,none⟩:Addr),len,e)) (ai.pure _) (ai.bind (ai.underlying ht.1) ?_))))
 have h1:(0:Int)≤(j:Int)∧(j:Int) < (len:Int):=by omega
 simp only [h1,and_self,if_true,Int.toNat_natCast]
 refine ai.bind ht.2 ?_
 rw [rB]
 exact ai.pure _
theorem F7(op:BinOp)(t:TypeId)(x y:Operand)(ka kb:IntKind)(a b:Int):ai P (eqGuard op t x y (.int ka a) (.int kb b)) ():=by
 unfold eqGuard
 cases op <;> exact ai.pure _
def QP:BinOp→Int→Int→Option Bool
 | .eql,x,y=>some (x == y)
 | .neq,x,y=>some (x != y)
 | .lss,x,y=>some (decide (x < y))
 | .leq,x,y=>some (decide (x≤y))
 | .gtr,x,y=>some (decide (x > y))
 | .geq,x,y=>some (decide (x ≥ y))
 | _,_,_=>none
theorem Ox.cmp{x y:Operand}{bo:BinOp}{t u:TypeId}{a b:Int}{kd:IntKind}{r:Bool}(au:o.op = .binOp bo t x y u)(hx:bh st x=some (.int kd a))(hy:bh st y=some (.int kd b))(hr:QP bo a b=some r)
  (hd:bV o.dst c.n) (hs:aF (bW o.dst (.bool r) st) st') (h:C R H st'):aZ P B c o R H st C :=
 Ox.mf (s:=λ ρ=>do eqGuard bo t x y (ρ x) (ρ y); binOp bo t (ρ x) (ρ y)) (by rw [au]; rfl) hd (λ ρ=>by simp only [execOp,au]) (λ ρ bf=>by
  rw [bf x _ hx,bf y _ hy]
  refine ai.bind (F7 _ _ _ _ _ _ _ _) ?_
  cases bo <;> simp only [QP,Option.some.injEq,reduceCtorEq] at hr <;> subst hr <;> simp only [binOp,ne_eq,not_true_eq_false,if_false] <;> exact ai.pure _) hs h
def Qc:BinOp→Int→Int→Option Int
 | .add,x,y=>some (x+y)
 | .sub,x,y=>some (x - y)
 | .mul,x,y=>some (x * y)
 | _,_,_=>none
theorem Ox.not{x:Operand}{t:TypeId}{a:Bool}(au:o.op = .unOp .not t x)(hx:bh st x=some (.bool a))
  (hd:bV o.dst c.n) (hs:aF (bW o.dst (.bool (!a)) st) st') (h:C R H st'):aZ P B c o R H st C :=
 Ox.mf (s:=λ ρ=>Op.unary .not (ρ x)) (by rw [au]; rfl) hd (λ ρ=>by simp only [execOp,au]) (λ ρ bf=>by rw [bf x _ hx]; exact ai.pure _) hs h
theorem Ox.extract{x:Operand}{j:Nat}{vs:Array Value}{v:Value}(au:o.op = .extract x j)(hx:bh st x=some (.tuple vs))(hj:vs[j]? = some v)
  (hd:bV o.dst c.n) (hs:aF (bW o.dst v st) st') (h:C R H st'):aZ P B c o R H st C :=
 Ox.mf (s:=λ ρ=>Instr.extract (ρ x) j) (by rw [au]; rfl) hd (λ ρ=>by simp only [execOp,au]) (λ ρ bf=>by
  rw [bf x _ hx]
  simp only [Instr.extract,hj]; exact ai.pure _) hs h
theorem Ox.makeFunc{fn:Fn}{first captured:Array Operand}{vs us:Array Value}(au:o.op = .makeFunc fn first captured)(h1:first.toList.mapM (bh st)=some vs.toList)(h2:captured.toList.mapM (bh st)=some us.toList)
  (hd:bV o.dst c.n) (hs:aF (bW o.dst (.func fn vs us) st) st') (h:C R H st'):aZ P B c o R H st C :=
 Ox.mf (s:=λ ρ=>Instr.makeFunc fn (first.map ρ) (captured.map ρ)) (by rw [au]; rfl) hd (λ ρ=>by simp only [execOp,au]) (λ ρ bf=>by
  have key:∀ (l:List Operand) (r:List Value),l.mapM (bh st)=some r→l.map ρ=r:=by
   intro l
   induction l with
   | nil=>intro r hr; simpa using hr
   | cons a l ih =>
    intro r hr
    rw [List.mapM_cons] at hr
    cases ha:bh st a with
    | none=>simp [ha] at hr
    | some u =>
     cases hl:l.mapM (bh st) with
     | none=>simp [ha,hl] at hr
     | some us =>
      simp [ha,hl] at hr
      subst hr
      simp [bf a u ha,ih us hl]
  have e1:first.map ρ=vs:=by apply Array.ext'; simpa using key _ _ h1
  have e2:captured.map ρ=us:=by apply Array.ext'; simpa using key _ _ h2
  rw [e1,e2]
  exact ai.pure _) hs h
theorem Ox.len{x:Operand}{t e:TypeId}{a:Option Addr}{n cap:Nat}(au:o.op = .call ⟨.builtin .len,#[x],#[t]⟩)(hx:bh st x=some (.slice a n cap))(ht:P.underlying t=some (.slice e))
  (hd:bV o.dst c.n) (hs:aF (bW o.dst (.int .i64 (n:Int)) st) st') (h:C R H st'):aZ P B c o R H st C :=
 Ox.val (by rw [au]; rfl) hd (λ ρ bf=>by
  simp only [execOp,au]
  refine ai.bind (a:=⟨.builtin .len #[t] o.type (#[x].map λ | .const _=>true | _=>false),#[x].map ρ⟩) (ai.pure _) ?_
  simp only [invoke,builtin]
  refine ai.bind (a:=.int .i64 (n:Int)) ?_ (ai.pure _)
  have e:(#[x].map ρ)=#[.slice a n cap]:=by simp [bf x _ hx]
  rw [e]
  exact ai.bind (ai.underlying ht) (ai.pure _)) hs h
theorem Ox.M6{x:Operand}{t:TypeId}{s:ByteArray}(au:o.op = .call ⟨.builtin .len,#[x],#[t]⟩)(hx:bh st x=some (.string s))(ht:P.underlying t=some .string)
  (hd:bV o.dst c.n) (hs:aF (bW o.dst (.int .i64 (s.size:Int)) st) st') (h:C R H st'):aZ P B c o R H st C :=
 Ox.val (by rw [au]; rfl) hd (λ ρ bf=>by
  simp only [execOp,au]
  refine ai.bind (a:=⟨.builtin .len #[t] o.type (#[x].map λ | .const _=>true | _=>false),#[x].map ρ⟩) (ai.pure _) ?_
  simp only [invoke,builtin]
  refine ai.bind (a:=.int .i64 (s.size:Int)) ?_ (ai.pure _)
  have e:(#[x].map ρ)=#[.string s]:=by simp [bf x _ hx]
  rw [e]
  exact ai.bind (ai.underlying ht) (ai.pure _)) hs h
theorem C2{f:FuncId}{fn:Func}{args:Array Value}(hf:P.funcs[f]? = some fn)(hn:(fn.name == "runtime.NumGoroutine")=false)(hb:fn.body.isNone=false):ai P (callFunc f args) (.enter f args):=by
 unfold callFunc
 refine ai.bind ai.program ?_
 simp only [hf,hn,hb]
 exact ai.pure _
structure bl (P:Program) (f:FuncId):Prop where
 ex:∃ fn,P.funcs[f]? = some fn∧(fn.name == "runtime.NumGoroutine")=false∧fn.body.isNone=false
def iD(st:St):List Operand→Option (List Value)
 | []=>some []
 | x::r=>match bh st x,iD st r with
  | some v,some vs=>some (v::vs)
  | _,_=>none
theorem AH{st:St}{ρ:Operand→Value}(bf:Knows st ρ):∀ (l:List Operand) (r:List Value),iD st l=some r→l.map ρ=r
 | [],r,h=>by cases h; rfl
 | x::l,r,h=>by
  simp only [iD] at h
  cases hx:bh st x with
  | none=>simp [hx] at h
  | some v =>
   cases hl:iD st l with
   | none=>simp [hx,hl] at h
   | some vs =>
    simp [hx,hl] at h
    subst h
    simp [bf x v hx,AH bf l vs hl]
theorem Ox.fB{ca:Call}{x:Operand}{f:FuncId}{first captured:Array Value}{vs:List Value}{args:Array Value}
  (au:o.op = .call ca) (hc:ca.callee = .value x) (hx:bh st x=some (.func (.func f) first captured)) (ha:iD st ca.args.toList=some vs) (he:bl P f) (HG:first++vs.toArray++captured=args)
  (hd:bV o.dst c.n) (hf:aB ae f args R H λ v R' H'=>∃ st',aF (bW o.dst v st) st'∧C R' H' st'):oJ ae c o R H st C :=
 ⟨by rw [au]; rfl,hd,.inr ⟨f,args,λ ρ bf=>by
  obtain ⟨fn,h1,h2,h3⟩:=he.ex
  simp only [execOp,au,resolve,hc,bf x _ hx,Deferred.ofValue]
  have e:ca.args.map ρ=vs.toArray:=by apply Array.ext'; simpa using AH bf _ _ ha
  refine ai.bind (a:=⟨.fn (.func f) captured,first++vs.toArray⟩) (by rw [e]; exact ai.pure _) ?_
  simp only [invoke,HG]
  exact C2 h1 h2 h3,hf⟩⟩
end
end Go.Lg
namespace Go.Lg
open Go.Conc
def jf(P:Program)(t:TypeId)(cs:Array Value):Prop:=∃ z,ai P (zeroValue t) z∧z.cells=cs
def gS(P:Program)(t:TypeId):Prop:=ai P (isAgg t) false∧ai P (sizeOf t) 1
def mT(P:Program)(t:TypeId)(n:Nat):Prop:=ai P (isAgg t) true∧ai P (sizeOf t) n
def aQ(R:ax)(H:an)(b o:Nat)(vs:List Value):Prop:=∀ j v,vs[j]? = some v→Cell R H ⟨b,o+j,none⟩ v
theorem aQ.known{R:ax}{H:an}{b o n:Nat}{cs:Array Value}{e:TypeId}{fz:Nat × Nat}{vs:List Value}(hm:R b=some (Obj.cells cs e fz))(hv:(cs.toList.drop o).take n=vs):aQ R H b o vs:=by
 intro j v hj
 refine ⟨rfl,cs,e,fz,.inl hm,?_⟩
 subst hv
 rw [List.getElem?_take] at hj
 split at hj
 ·rw [List.getElem?_drop] at hj
  simpa using hj
 ·cases hj
def fL(cs:Array Value):Nat→List Value→Array Value
 | _,[]=>cs
 | o,v::r=>fL (cs.setIfInBounds o v) (o+1) r
theorem J0:∀ (vs:List Value) (cs:Array Value) (o:Nat),(fL cs o vs).size=cs.size
 | [],_,_=>rfl
 | v::r,cs,o=>by simp only [fL]; rw [J0 r]; simp
theorem fa.mid{H H1 H':an}{b:Nat}{o o' o'':Obj}(h:fa H b o o' H1)(k:fa H b o o'' H')(hn:(H.map (·.1)).Nodup):fa H1 b o' o'' H':=by
 induction h generalizing H' with
 | @here b o o' H =>
  cases k with
  | here=>exact .here
  | there k =>
   rw [List.map_cons,List.nodup_cons] at hn
   exact absurd (List.mem_map.2 ⟨_,k.mem,rfl⟩) hn.1
 | @there b o o' p H H1 hs ih =>
  cases k with
  | here =>
   rw [List.map_cons,List.nodup_cons] at hn
   exact absurd (List.mem_map.2 ⟨_,hs.mem,rfl⟩) hn.1
  | there k =>
   rw [List.map_cons,List.nodup_cons] at hn
   exact .there (ih k hn.2)
section
variable {P:Program} {B:Base} {main:Bool} {ae:Jd P B main} {c:Ctx} {R:ax} {H H':an} {st st':St} {o:Oper} {C:ax→an→St→Prop}
theorem aT.Of{b:Nat}{e:TypeId}{K:Unit→ax→an→Prop}:∀ (vs:List Value) (cs:Array Value) (off i:Nat) (H H':an),(∀ v∈vs,v.oneCell'=true)→off+i+vs.length≤cs.size →
  fa H b (.cells cs e (0,0)) (.cells (fL cs (off+i) vs) e (0,0)) H'→(H.map (·.1)).Nodup→K () R H'→aT P B R H (storeCells ⟨b,off,none⟩ vs i) K
 | [],cs,off,i,H,H',_,_,hs,hn,hk=>by
  have e1:H'=H:=by
   have:∀ {H H':an} {o:Obj},fa H b o o H'→H'=H:=by
    intro H H' o h
    induction H generalizing H' with
    | nil=>cases h
    | cons p r ih =>
     cases h with
     | here=>rfl
     | there h=>rw [ih h]
   exact this hs
  subst e1
  simp only [storeCells]
  exact aT.pure hk
 | v::r,cs,off,i,H,H',h1,hl,hs,hn,hk=>by
  simp only [storeCells]
  simp only [List.length_cons] at hl
  have hex:∀ (H:an) (o o':Obj),(b,o)∈H→∃ H1,fa H b o o' H1:=by
   intro H o o' hm
   induction H with
   | nil=>cases hm
   | cons p r ih =>
    rcases List.mem_cons.1 hm with rfl | hm
    ·exact ⟨_,.here⟩
    ·obtain ⟨H1,h1⟩:=ih hm
     exact ⟨_,.there h1⟩
  obtain ⟨H1,qy⟩:=hex H _ (.cells (cs.setIfInBounds (off+i) v) e (0,0)) hs.mem
  have Ep:fa H1 b (.cells (cs.setIfInBounds (off+i) v) e (0,0)) (.cells (fL cs (off+i) (v::r)) e (0,0)) H':=fa.mid qy hs hn
  refine aT.bind ?_
  rw [rB]
  refine aT.store (h1 v (by simp)) rfl (by show off+i < cs.size; omega) qy ?_
  exact aT.Of r (cs.setIfInBounds (off+i) v) off (i+1) H1 H' (λ u hu=>h1 u (by simp [hu])) (by simp; omega) (by simpa [fL,Nat.add_assoc] using Ep) (by rw [qy.keys]; exact hn) hk
theorem aT.given{α:Type}{s:Sem α}{K:α→ax→an→Prop}(h:(H.map (·.1)).Nodup→aT P B R H s K):aT P B R H s K:=λ w hw=>h hw.nd w hw
theorem aT.storeVar{t:TypeId}{b off n:Nat}{e:TypeId}{v:Value}{cs:Array Value}{K:Unit→ax→an→Prop}(hn:ai P (sizeOf t) n)(hvn:v.cells.size=n)(h1:∀ u∈v.cells.toList,u.oneCell'=true)(hl:off+n≤cs.size)
  (hs:fa H b (.cells cs e (0,0)) (.cells (fL cs off v.cells.toList) e (0,0)) H') (hk:K () R H'):aT P B R H (storeVar t ⟨b,off,none⟩ v) K:=by
 refine aT.given λ dL=>?_
 unfold Go.storeVar
 refine ai.eN hn ?_
 simp only [hvn,ne_eq,not_true_eq_false,if_false]
 exact aT.Of _ cs off 0 H H' h1 (by simp [hvn]; exact hl) (by simpa using hs) dL hk
theorem aT.loadCellsFrom{b off:Nat}{K:Array Value→ax→an→Prop}:∀ (vs:List Value) (i:Nat) (acc:Array Value),aQ R H b (off+i) vs→K (acc++vs.toArray) R H→aT P B R H (loadCellsFrom ⟨b,off,none⟩ i vs.length acc) K
 | [],i,acc,_,hk=>by
  simp only [List.length_nil,Go.loadCellsFrom]
  exact aT.pure (by simpa using hk)
 | v::r,i,acc,hc,hk=>by
  simp only [List.length_cons,Go.loadCellsFrom]
  refine aT.bind ?_
  rw [rB]
  refine aT.load (v:=v) (by simpa using hc 0 v rfl) ?_
  refine aT.loadCellsFrom r (i+1) (acc.push v) (λ j u hj=>?_) (by simpa using hk)
  have:=hc (j+1) u (by simpa using hj)
  simpa [Nat.add_assoc,Nat.add_comm,Nat.add_left_comm] using this
theorem Ox.dg{x:Operand}{t:TypeId}{b off:Nat}{v:Value}(au:o.op = .load t x)(hx:bh st x=some (.pointer (some ⟨b,off,none⟩)))(ht:gS P t)(hc:Cell R H ⟨b,off,none⟩ v)
  (hd:bV o.dst c.n) (hs:aF (bW o.dst v st) st') (h:C R H st'):aZ P B c o R H st C :=
 Ox.mem (s:=λ ρ=>Instr.loadAt t (ρ x)) (by rw [au]; rfl) hd (λ ρ=>by simp only [execOp,au]) (λ ρ bf=>by
  rw [bf x _ hx]
  simp only [Instr.loadAt,Instr.sureAddr,loadVar]
  refine ai.eN (ai.pure _) (ai.eN ht.1 ?_)
  exact aT.load hc ⟨st',hs,h⟩)
theorem Ox.bN{x:Operand}{t:TypeId}{b off n:Nat}{vs:List Value}(au:o.op = .load t x)(hx:bh st x=some (.pointer (some ⟨b,off,none⟩)))(ht:mT P t n)(hn:vs.length=n)(hc:aQ R H b off vs)
  (hd:bV o.dst c.n) (hs:aF (bW o.dst (.agg vs.toArray) st) st') (h:C R H st'):aZ P B c o R H st C :=
 Ox.mem (s:=λ ρ=>Instr.loadAt t (ρ x)) (by rw [au]; rfl) hd (λ ρ=>by simp only [execOp,au]) (λ ρ bf=>by
  rw [bf x _ hx]
  simp only [Instr.loadAt,Instr.sureAddr,loadVar]
  refine ai.eN (ai.pure _) (ai.eN ht.1 ?_)
  simp only [if_true]
  refine ai.eN ht.2 (aT.bind ?_)
  subst hn
  exact aT.loadCellsFrom vs 0 #[] (by simpa using hc) (aT.pure ⟨st',by simpa using hs,h⟩))
theorem Ox.gp{x y:Operand}{t e:TypeId}{b off:Nat}{v:Value}{cs cs':Array Value}(au:o.op = .store t x y)(hx:bh st x=some (.pointer (some ⟨b,off,none⟩)))(hy:bh st y=some v)(ht:gS P t)(hv:v.oneCell'=true)(hs:fa H b (.cells cs e (0,0)) (.cells cs' e (0,0)) H')(hl:Nat.blt off cs.size=true)(pP:cs.setIfInBounds off v=cs')
  (hd:o.dst=none) (Ia:aF st st') (h:C R H' st'):aZ P B c o R H st C :=
 Ox.Ns (s:=λ ρ=>Instr.storeAt t (ρ x) (ρ y)) (by rw [au]; rfl) hd (λ ρ=>by simp only [execOp,au]) Ia (λ ρ bf=>by
  rw [bf x _ hx,bf y _ hy]
  simp only [Instr.storeAt,Instr.sureAddr]
  refine ai.eN (ai.pure _) ?_
  have UQ:v.cells=#[v]:=by cases v <;> first | rfl | (simp [Value.oneCell'] at hv)
  refine aT.storeVar (cs:=cs) (e:=e) ht.2 (by rw [UQ]; rfl) (by rw [UQ]; simpa using hv) (Nat.le_of_ble_eq_true hl) ?_ h
  rw [UQ]
  simpa [fL,pP] using hs)
theorem Ox.cu{x y:Operand}{t e:TypeId}{b off n:Nat}{vs:Array Value}{cs cs':Array Value}(au:o.op = .store t x y)(hx:bh st x=some (.pointer (some ⟨b,off,none⟩)))(hy:bh st y=some (.agg vs))(ht:mT P t n)(hn:vs.size=n)(h1:∀ u∈vs.toList,u.oneCell'=true)(hs:fa H b (.cells cs e (0,0)) (.cells cs' e (0,0)) H')(hl:Nat.ble (off+n) cs.size=true)(pP:fL cs off vs.toList=cs')
  (hd:o.dst=none) (Ia:aF st st') (h:C R H' st'):aZ P B c o R H st C :=
 Ox.Ns (s:=λ ρ=>Instr.storeAt t (ρ x) (ρ y)) (by rw [au]; rfl) hd (λ ρ=>by simp only [execOp,au]) Ia (λ ρ bf=>by
  rw [bf x _ hx,bf y _ hy]
  simp only [Instr.storeAt,Instr.sureAddr]
  refine ai.eN (ai.pure _) ?_
  exact aT.storeVar (cs:=cs) (e:=e) ht.2 hn h1 (Nat.le_of_ble_eq_true hl) (by simpa [Value.cells,pP] using hs) h)
theorem Ox.sX{x:Operand}{t:TypeId}{v:Value}(au:o.op = .box t x)(hx:bh st x=some v)(hv:v.cells=#[v])(hd:bV o.dst c.n)
  (h:∀ b,R b=none→(∀ x,(b,x) ∉ H)→∃ st',aF (bW o.dst (.pointer (some ⟨b,0,none⟩)) st) st'∧C R ((b,.cells #[v] t)::H) st'):aZ P B c o R H st C :=
 Ox.mem (s:=λ ρ=>Instr.box t (ρ x)) (by rw [au]; rfl) hd (λ ρ=>by simp only [execOp,au]) (λ ρ bf=>by
  rw [bf x _ hx]
  simp only [Instr.box,newVar,newRow,hv]
  exact aT.bind (aT.bind (aT.new λ b h1 h2=>aT.pure (aT.pure (h b h1 h2)))))
theorem Ox.ZC{x:Operand}{t:TypeId}{vs:Array Value}(au:o.op = .box t x)(hx:bh st x=some (.agg vs))(hd:bV o.dst c.n)
  (h:∀ b,R b=none→(∀ x,(b,x) ∉ H)→∃ st',aF (bW o.dst (.pointer (some ⟨b,0,none⟩)) st) st'∧C R ((b,.cells vs t)::H) st'):aZ P B c o R H st C :=
 Ox.mem (s:=λ ρ=>Instr.box t (ρ x)) (by rw [au]; rfl) hd (λ ρ=>by simp only [execOp,au]) (λ ρ bf=>by
  rw [bf x _ hx]
  simp only [Instr.box,newVar,newRow,Value.cells]
  exact aT.bind (aT.bind (aT.new λ b h1 h2=>aT.pure (aT.pure (h b h1 h2)))))
theorem Ox.alloc{t:TypeId}{cs:Array Value}(au:o.op = .alloc t)(ht:jf P t cs)(hd:bV o.dst c.n)
  (h:∀ b,R b=none→(∀ x,(b,x) ∉ H)→∃ st',aF (bW o.dst (.pointer (some ⟨b,0,none⟩)) st) st'∧C R ((b,.cells cs t)::H) st'):aZ P B c o R H st C :=
 Ox.mem (s:=λ _=>Instr.alloc t true (.tuple #[])) (by rw [au]; rfl) hd (λ ρ=>by simp only [execOp,au]) (λ ρ bf=>by
  obtain ⟨z,hz,rfl⟩:=ht
  simp only [Instr.alloc,newVar,newRow]
  exact ai.eN hz (aT.bind (aT.bind (aT.new λ b h1 h2=>aT.pure (aT.pure (h b h1 h2))))))
def zT(st:St):List (Nat × Operand)→Option (List (Nat × Value))
 | []=>some []
 | (j,x)::r=>match bh st x,zT st r with
  | some v,some vs=>some ((j,v)::vs)
  | _,_=>none
theorem W6{ρ:Operand→Value}(bf:Knows st ρ):∀ (l:List (Nat × Operand)) (r:List (Nat × Value)),zT st l=some r→l.map (λ (j,x)=>(j,ρ x))=r
 | [],r,h=>by cases h; rfl
 | (j,x)::l,r,h=>by
  simp only [zT] at h
  cases hx:bh st x with
  | none=>simp [hx] at h
  | some v =>
   cases hl:zT st l with
   | none=>simp [hx,hl] at h
   | some vs =>
    simp [hx,hl] at h
    subst h
    simp [bf x v hx,W6 bf l vs hl]
def uF(P:Program)(t:TypeId)(places:List (Nat × Nat))(z:Array Value):Prop :=
 jf P t z∧∃ fs:Array Field,P.underlying t=some (.struct fs)∧ai P (fs.mapM λ f=>do pure (f.offset,← sizeOf f.type)) places.toArray
theorem Ox.build{t:TypeId}{parts:Array (Nat × Operand)}{ps:List (Nat × Value)}{places:List (Nat × Nat)}{z cells:Array Value}(au:o.op = .build t parts)(ht:uF P t places z)(hp:zT st parts.toList=some ps)(hf:Instr.fill (places.toArray[·]?) z ps=some cells)
  (hd:bV o.dst c.n) (hs:aF (bW o.dst (.agg cells) st) st') (h:C R H st'):aZ P B c o R H st C :=
 Ox.mf (s:=λ ρ=>Instr.build t (parts.map λ (j,x)=>(j,ρ x))) (by rw [au]; rfl) hd (λ ρ=>by simp only [execOp,au]) (λ ρ bf=>by
  obtain ⟨⟨z0,hz,rfl⟩,fs,h1,h2⟩:=ht
  have e:(parts.map λ (j,x)=>(j,ρ x))=ps.toArray:=by apply Array.ext'; simpa using W6 bf _ _ hp
  rw [e]
  unfold Instr.build
  refine ai.bind hz (ai.bind (ai.underlying h1) (ai.bind h2 ?_))
  simp only [hf]
  exact ai.pure _) hs h
def sJ(P:Program)(t e n:Nat)(z:Array Value):Prop:=P.underlying t=some (.slice e)∧ai P (sizeOf e) n∧jf P e z∧z.size=n∧0 < n
theorem Ox.buildSlice{t e n len:Nat}{parts:Array (Nat × Operand)}{ps:List (Nat × Value)}{z base cells:Array Value}(au:o.op = .buildSlice t len parts)(ht:sJ P t e n z)(hp:zT st parts.toList=some ps)(hlen:len * n≤16777216)
  (hb:(Array.range (len * n)).map (z[· % z.size]!)=base) (hf:Instr.fill (λ j=>some (j * n,n)) base ps=some cells) (hd:bV o.dst c.n)
  (h:∀ b,R b=none→(∀ x,(b,x) ∉ H)→∃ st',aF (bW o.dst (.slice (some ⟨b,0,none⟩) len len) st) st'∧C R ((b,.cells cells e)::H) st'):aZ P B c o R H st C :=
 Ox.mem (s:=λ ρ=>Instr.buildSlice t len (parts.map λ (j,x)=>(j,ρ x))) (by rw [au]; rfl) hd (λ ρ=>by simp only [execOp,au]) (λ ρ bf=>by
  subst hb
  obtain ⟨h1,h2,⟨z0,hz,rfl⟩,h3,h4⟩:=ht
  have ep:(parts.map λ (j,x)=>(j,ρ x))=ps.toArray:=by apply Array.ext'; simpa using W6 bf _ _ hp
  rw [ep]
  unfold Instr.buildSlice
  refine ai.eN (ai.underlying h1) (ai.eN h2 ?_)
  have hl:¬ (len * n > 2 ^ 24):=by omega
  simp only [hl,if_false]
  have last:aT P B R H (do let a ← newRow e cells; pure (.slice (some a) len len)) λ v R' H'=>∃ st',aF (bW o.dst v st) st'∧C R' H' st':=by
   simp only [newRow]
   exact aT.bind (aT.bind (aT.new λ b h1 h2=>aT.pure (aT.pure (h b h1 h2))))
  by_cases h0:len * n=0
  ·simp only [h0,if_true]
   refine ai.eN (ai.pure _) ?_
   have hr:∀ f:Nat→Value,(Array.range 0).map f=#[]:=λ f=>by simp [Array.range]
   simp only [h0,hr] at hf ⊢
   simp only [hf]
   exact last
  ·simp only [h0,if_false]
   refine ai.eN hz (ai.eN (ai.pure _) ?_)
   simp only [hf]
   exact last)
end
end Go.Lg
namespace Go.Lg
open Go.Conc
def aS(R R':ax):Prop:=∀ b o,R b=some o→R' b=some o
theorem aS.refl(R:ax):aS R R:=λ _ _ h=>h
theorem aS.trans{R R' cC:ax}(h:aS R R')(k:aS R' cC):aS R cC:=λ b o x=>k b o (h b o x)
section
variable {P:Program} {B:Base} {main:Bool} (ae:Jd P B main)
def Ax(c:Ctx)(S:an)(ops:Array Oper)(i:Nat)(tmps:Array Value)(R:ax)(H:an)(K:Array Value→ax→an→Prop):Prop :=
 ∃ o,ops[i]? = some o∧mF o.op=false ∧
  ((Region.wanted o (yielded ops tmps)=false∧K (fw o.dst undef tmps) R H) ∨
   (Region.wanted o (yielded ops tmps)=true ∧
   ((aT P B R H (execOp (aW c tmps []).eval o) λ nx R' H'=>∃ v,(nx = .value v∨(nx = .skip∧v=undef))∧aS R R'∧(∀ p∈S,p∈H→p∈H')∧K (fw o.dst v tmps) R' H') ∨
    (∃ f args,ai P (execOp (aW c tmps []).eval o) (.enter f args)∧aB ae f args R H λ v R' H'=>aS R R'∧(∀ p∈S,p∈H→p∈H')∧K (fw o.dst v tmps) R' H'))))
theorem J.given{R:ax}{H:an}{g:Goroutine}(hs:g.status = .running)(h:(∃ w,Fits B R H w)→ae.J R H g):ae.J R H g:=by
 by_cases hw:∃ w,Fits B R H w
 ·exact h hw
 ·exact ae.step hs λ w hf=>absurd ⟨w,hf⟩ hw
def nM(ops:Array Oper)(rem:List Nat)(i:Nat):Bool:=match ops[i]? with
 | some o=>o.after.all λ e=>!Region.binds .any e || !rem.contains e.on
 | none=>false
def DF(c:Ctx)(S:Nat→an)(ops:Array Oper)(Q:Array Value→ax→an→Prop):Nat→List Nat→Array Value→ax→an→Prop
 | 0,rem,t,R,H=>rem=[]∧Q t R H
 | n+1,rem,t,R,H=>(rem=[]∧Q t R H)∨(rem≠[]∧((∃ w,Fits B R H w)→∀ i∈rem,nM ops rem i=true→Ax ae c (S i) ops i t R H λ t' R' H'=>DF c S ops Q n (rem.erase i) t' R' H'))
variable {ae}
def backward(ops:Array Oper):Bool:=(List.range ops.size).all λ i=>match ops[i]? with
 | some o=>o.after.all λ e=>!Region.binds .any e || decide (e.on < i)
 | none=>true
theorem aa4(c:Ctx)(tmps:Array Value)(todo:List Item):(aW c tmps todo).eval=(aW c tmps []).eval:=by
 funext x; cases x <;> rfl
theorem ahr{c:Ctx}{S:an}{ops:Array Oper}{i:Nat}{rest:List Nat}{k:List Item}{tmps:Array Value}{R:ax}{H:an}{K:Array Value→ax→an→Prop}(hk:(c.kind == CallKind.early)=false)(h:Ax ae c S ops i tmps R H K)
  (hK:∀ t R' H',K t R' H'→ae.J R' H' (aY (aW c t (.inRegion ops rest::k)) c.cs)):ae.J R H (aY (aW c tmps (.inRegion ops (i::rest)::k)) c.cs):=by
 obtain ⟨o,ho,hd,h⟩:=h
 have fG:(aW c tmps (.inRegion ops (i::rest)::k)).kind ≠ .early:=by show c.kind≠_; simpa using hk
 rcases h with ⟨h1,h2⟩ | ⟨h1,h2 | ⟨f,args,h2,h3⟩⟩
 ·exact Jd.ctl rfl (λ w=>Xl ho h1) (hK _ _ _ h2)
 ·refine ae.step rfl λ w pR=>?_
  obtain ⟨nx,w',R',H',e1,e2,e3,v,hv,_,_,hKK⟩:=h2 w pR
  refine ⟨aY (aW c (fw o.dst v tmps) (.inRegion ops rest::k)) c.cs,w',seen P c.fn ((execOp (aW c tmps []).eval o).events P w #[]),R',H',?_,λ e he=>e2 e (mem_seen he),e3,hK _ _ _ hKK⟩
  rw [po ho h1 hd,← pK (rest:=rest) (k:=k) (c:=c) (tmps:=tmps) (v:=v) ho,aa4]
  rcases hv with rfl | ⟨rfl,rfl⟩
  ·exact AG fG e1
  ·exact Qb fG e1
 ·refine ae.step rfl λ w pR=>?_
  have hv:=h2 w
  refine ⟨aY (Frame.enter P f args .normal) (aW c tmps (.inRegion ops (i::rest)::k)::c.cs),w,seen P c.fn ((execOp (aW c tmps []).eval o).events P w #[]),R,H,?_,?_,fF.refl pR,h3 _ _ λ v R' H' hp=>?_⟩
  ·rw [po ho h1 hd,aa4]
   exact GQ rfl fG hv.1
  ·intro e HN
   have:=mem_seen HN
   rw [hv.2] at this
   simp at this
  ·rw [pK ho]
   exact hK _ _ _ hp.2.2
def Gj(ops:Array Oper)(listed:Array Bool)(rem:List Nat):Prop:=listed.size=ops.size∧rem.Nodup∧(∀ i,i∈rem↔(i < ops.size∧listed.getD i true=false))
theorem am0{listed:Array Bool}{i j:Nat}{d:Bool}(hi:i < listed.size):(listed.setIfInBounds i true).getD j d=if i=j then true else listed.getD j d:=by
 simp only [Array.getD_eq_getD_getElem?]
 by_cases h:i=j
 ·subst h; simp [hi]
 ·rw [if_neg h,Array.getElem?_setIfInBounds_ne h]
theorem Gj.erase{ops:Array Oper}{listed:Array Bool}{rem:List Nat}(h:Gj ops listed rem){i:Nat}(hi:i∈rem):Gj ops (listed.setIfInBounds i true) (rem.erase i):=by
 obtain ⟨h1,h2,h3⟩:=h
 have bE:i < listed.size:=by rw [h1]; exact ((h3 i).1 hi).1
 refine ⟨by simp [h1],h2.erase _,λ j=>?_⟩
 rw [h2.mem_erase_iff,h3 j,am0 bE]
 by_cases e:i=j
 ·subst e; simp
 ·simp [e,Ne.symm e]
theorem acP:∀ (l:List Nat),l≠[]→∃ m∈l,∀ x∈l,m≤x
 | [],h=>absurd rfl h
 | [a],_=>⟨a,by simp,by simp⟩
 | a::b::r,_=>by
  obtain ⟨m,hm,hl⟩:=acP (b::r) (by simp)
  by_cases h:a≤m
  ·exact ⟨a,by simp,λ x hx=>by
    rcases List.mem_cons.1 hx with rfl | hx
    ·exact Nat.le_refl _
    ·exact Nat.le_trans h (hl x hx)⟩
  ·exact ⟨m,List.mem_cons_of_mem _ hm,λ x hx=>by
    rcases List.mem_cons.1 hx with rfl | hx
    ·omega
    ·exact hl x hx⟩
theorem YA{c:Ctx}{S:Nat→an}{ops:Array Oper}{k:List Item}{Q:Array Value→ax→an→Prop}(hk:(c.kind == CallKind.early)=false)(hb:backward ops=true)
  (hQ:∀ t R H,Q t R H→ae.J R H (aY (aW c t k) c.cs)):∀ (fuel t:Nat) (listed:Array Bool) (acc:List Nat) (rem:List Nat) (tmps:Array Value) (R:ax) (H:an),Gj ops listed rem→rem.length≤fuel →
   DF ae c S ops Q fuel rem tmps R H→∃ is,Region.linearise.go .any ops fuel t listed acc=acc.reverse++is∧ae.J R H (aY (aW c tmps (.inRegion ops is::k)) c.cs)
 | 0,t,listed,acc,rem,tmps,R,H,_,_,h=>⟨[],by simp [Region.linearise.go],Jd.ctl rfl (λ w=>by simp [stepG,stepG.exec,aY,aW]) (hQ _ _ _ h.2)⟩
 | fuel+1,t,listed,acc,rem,tmps,R,H,hA,hl,h=>by
  generalize MD:((List.range ops.size).filter λ i=>!listed.getD i true && ((ops[i]?).map (·.after.all λ e=>!Region.binds .any e || listed.getD e.on false)).getD false)=rs
  have mB:∀ i,i∈rs→i∈rem∧nM ops rem i=true:=by
   intro i hi
   rw [← MD] at hi
   simp only [List.mem_filter,List.mem_range,Bool.and_eq_true,Bool.not_eq_true'] at hi
   obtain ⟨h1,h2,h3⟩:=hi
   refine ⟨(hA.2.2 i).2 ⟨h1,h2⟩,?_⟩
   unfold nM
   cases ho:ops[i]? with
   | none=>simp [ho] at h3
   | some o =>
    simp only [ho,Option.map_some,Option.getD_some,Array.all_eq_true_iff_forall_mem] at h3 ⊢
    intro e he
    have:=h3 e he
    rcases Bool.or_eq_true_iff.1 this with x | x
    ·simp [x]
    ·have hn:e.on ∉ rem:=λ hm=>by
      have:=((hA.2.2 e.on).1 hm).2
      have bE:e.on < listed.size:=by rw [hA.1]; exact ((hA.2.2 e.on).1 hm).1
      simp only [Array.getD_eq_getD_getElem?,Array.getElem?_eq_getElem bE,Option.getD_some] at this x
      rw [x] at this; cases this
     simp [hn]
  rcases h with ⟨rfl,hq⟩ | ⟨eH,tf⟩
  ·have are:rs=[]:=by
    cases rs with
    | nil=>rfl
    | cons a r=>exact absurd (mB a (by simp)).1 (by simp)
   refine ⟨[],?_,Jd.ctl rfl (λ w=>by simp [stepG,stepG.exec,aY,aW]) (hQ _ _ _ hq)⟩
   unfold Region.linearise.go
   simp only [MD,are]
   simp
  ·
   have arf:rs≠[]:=by
    obtain ⟨m,hm,aqw⟩:=acP rem eH
    have SK:=((hA.2.2 m).1 hm).1
    have:m∈rs:=by
     rw [← MD]
     simp only [List.mem_filter,List.mem_range,Bool.and_eq_true,Bool.not_eq_true']
     refine ⟨SK,((hA.2.2 m).1 hm).2,?_⟩
     have ho:ops[m]? = some ops[m]:=Array.getElem?_eq_getElem SK
     simp only [ho,Option.map_some,Option.getD_some,Array.all_eq_true_iff_forall_mem]
     intro e he
     unfold backward at hb
     rw [List.all_eq_true] at hb
     have fY:=hb m (List.mem_range.2 SK)
     simp only [ho,Array.all_eq_true_iff_forall_mem] at fY
     rcases Bool.or_eq_true_iff.1 (fY e he) with x | x
     ·simp [x]
     ·have bE:e.on < m:=by simpa using x
      have hn:e.on ∉ rem:=λ HY=>by have:=aqw _ HY; omega
      have hl':e.on < listed.size:=by rw [hA.1]; omega
      have h1:listed.getD e.on true=true:=by
       cases hh:listed.getD e.on true with
       | true=>rfl
       | false=>exact absurd ((hA.2.2 e.on).2 ⟨by omega,hh⟩) hn
      simp only [Array.getD_eq_getD_getElem?,Array.getElem?_eq_getElem hl',Option.getD_some] at h1 ⊢
      simp [h1]
    intro e; rw [e] at this; cases this
   have hlen:t % rs.length < rs.length:=Nat.mod_lt _ (by
    cases rs with
    | nil=>exact absurd rfl arf
    | cons _ _=>simp)
   have hi:rs[t % rs.length]? = some rs[t % rs.length]:=List.getElem?_eq_getElem hlen
   generalize rs[t % rs.length]=i at hi
   obtain ⟨Sv,mD⟩:=mB i (List.mem_of_getElem? hi)
   have Tt:=λ hw=>tf hw i Sv mD
   have bE:(rem.erase i).length≤fuel:=by rw [List.length_erase_of_mem Sv]; omega
   have hgo:∀ K2,∃ is,Region.linearise.go .any ops fuel (t / rs.length) (listed.setIfInBounds i true) K2=K2.reverse++is:=λ K2=>⟨_,linearise_go_acc .any ops fuel (t / rs.length) (listed.setIfInBounds i true) K2⟩
   obtain ⟨is,l5⟩:=hgo (i::acc)
   refine ⟨i::is,?_,?_⟩
   ·rw [Region.linearise.go]
    simp only [MD,hi]
    rw [l5]; simp
   ·refine J.given ae rfl λ hw=>?_
    refine ahr hk (Tt hw) λ t' R' H' hK=>?_
    obtain ⟨qG,h1,h2⟩:=YA hk hb hQ fuel (t / rs.length) (listed.setIfInBounds i true) (i::acc) (rem.erase i) t' R' H' (hA.erase Sv) bE hK
    rw [l5] at h1
    have:is=qG:=by simpa using h1
    rw [this]; exact h2
end
section
variable {P:Program} {B:Base} {main:Bool} {ae:Jd P B main}
def noSelect(o:Oper):Bool:=match o.op with | .select _ _=>false | _=>true
def looks(ops:Array Oper)(o:Oper):List Nat :=
 (o.op.operands.toList.filterMap λ | .tmp t=>some t | _=>none)++(match o.guard with | some (j,_)=>((ops[j]?).bind (·.dst)).toList | none=>[])
def GO(ops:Array Oper)(a b:Oper):Bool :=
 (match a.dst with | some d=>!(looks ops b).contains d && b.dst != some d | none=>true) && (match b.dst with | some d=>!(looks ops a).contains d | none=>true)
theorem aCC{a b:Option Tmp}{v u:Value}{t:Array Value}(h:∀ d,a=some d→b≠some d):fw a v (fw b u t)=fw b u (fw a v t):=by
 cases a with
 | none=>rfl
 | some x=>cases b with
  | none=>rfl
  | some y =>
   have eH:x≠y:=λ e=>h x rfl (by rw [e])
   simp only [fw]
   exact Array.setIfInBounds_comm u v (Ne.symm eH)
theorem alu{c:Ctx}{t:Array Value}{dst:Option Tmp}{v:Value}{x:Operand}(h:∀ d,dst=some d→x ≠ .tmp d):(aW c (fw dst v t) []).eval x=(aW c t []).eval x:=by
 cases dst with
 | none=>rfl
 | some d=>cases x with
  | tmp y =>
   have eH:d≠y:=λ e=>h d rfl (by rw [e])
   simp only [aW,Frame.eval,fw,Array.getD_eq_getD_getElem?]
   rw [Array.getElem?_setIfInBounds_ne eH]
  | _=>rfl
theorem abm{c:Ctx}{ops:Array Oper}{t:Array Value}{dst:Option Tmp}{v:Value}{o:Oper}(hs:noSelect o=true)(h:∀ d,dst=some d→d ∉ looks ops o):execOp (aW c (fw dst v t) []).eval o=execOp (aW c t []).eval o:=by
 refine execOp_congr o (λ cs b e=>by rw [noSelect,e] at hs; cases hs) λ x hx=>alu λ d hd e=>h d hd ?_
 subst e
 unfold looks
 exact List.mem_append_left _ (List.mem_filterMap.2 ⟨_,Array.mem_toList_iff.2 hx,rfl⟩)
theorem afR{ops:Array Oper}{t:Array Value}{dst:Option Tmp}{v:Value}{o:Oper}(h:∀ d,dst=some d→d ∉ looks ops o):Region.wanted o (yielded ops (fw dst v t))=Region.wanted o (yielded ops t):=by
 unfold Region.wanted
 cases hg:o.guard with
 | none=>rfl
 | some g =>
  obtain ⟨j,want⟩:=g
  simp only [yielded]
  cases hd:(ops[j]?).bind (·.dst) with
  | none=>rfl
  | some d =>
   simp only [Option.bind_some]
   cases dst with
   | none=>rfl
   | some d' =>
    have eH:d'≠d:=λ e=>h d' rfl (by
     subst e
     unfold looks
     rw [hg]
     exact List.mem_append_right _ (by simp [hd]))
    simp only [fw]
    rw [Array.getElem?_setIfInBounds_ne eH]
theorem Zi{ops:Array Oper}{a b:Oper}(h:GO ops a b=true):(∀ d,a.dst=some d→d ∉ looks ops b∧b.dst≠some d)∧(∀ d,b.dst=some d→d ∉ looks ops a):=by
 unfold GO at h
 rw [Bool.and_eq_true] at h
 refine ⟨λ d hd=>?_,λ d hd=>?_⟩
 ·rw [hd] at h; simpa using h.1
 ·rw [hd] at h; simpa using h.2
theorem Ax.fw{c:Ctx}{S:an}{ops:Array Oper}{j:Nat}{oi oj:Oper}{t:Array Value}{v:Value}{R:ax}{H:an}{K1 K:Array Value→ax→an→Prop}(hj:ops[j]? = some oj)(hs:noSelect oj=true)(lY:GO ops oi oj=true){F:an}(hS:∀ p∈F,p∈H)(hFS:∀ p∈F,p∈S)
  (h:Ax ae c S ops j (fw oi.dst v t) R H K1) (hK:∀ u R' H',aS R R'→(∀ p∈F,p∈H')→K1 (Go.Lg.fw oj.dst u (Go.Lg.fw oi.dst v t)) R' H'→K (Go.Lg.fw oj.dst u t) R' H'):Ax ae c S ops j t R H K:=by
 obtain ⟨h1,h2⟩:=Zi lY
 obtain ⟨o,ho,hd,h⟩:=h
 obtain rfl:o=oj:=Option.some.inj (ho.symm.trans hj)
 rw [afR (λ d hd=>(h1 d hd).1),abm hs (λ d hd=>(h1 d hd).1)] at h
 refine ⟨o,ho,hd,?_⟩
 rcases h with ⟨a,b⟩ | ⟨a,b | ⟨f,args,b,b'⟩⟩
 ·exact .inl ⟨a,hK _ _ _ (aS.refl _) hS b⟩
 ·exact .inr ⟨a,.inl (b.mono λ nx R' H' ⟨u,x,y,z,hk⟩=>⟨u,x,y,z,hK _ _ _ y (λ p hp=>z p (hFS p hp) (hS p hp)) hk⟩)⟩
 ·exact .inr ⟨a,.inr ⟨f,args,b,b'.mono λ u R' H' ⟨y,z,hk⟩=>⟨y,z,hK _ _ _ y (λ p hp=>z p (hFS p hp) (hS p hp)) hk⟩⟩⟩
def Yp(P:Program)(B:Base)(S:an)(R:ax)(ρ:Operand→Value)(o:Oper)(v:Value):Prop :=
 ∀ R' H',aS R R'→(∀ p∈S,p∈H')→aT P B R' H' (execOp ρ o) λ nx cC dY=>(nx = .value v∨(nx = .skip∧v=undef))∧cC=R'∧dY=H'
def p8(ops:Array Oper)(rem:List Nat)(i:Nat)(D:List Nat):Bool :=
 rem.contains i && nM ops rem i && !D.contains i && D.all (λ j=>rem.contains j && match ops[j]? with | some o=>o.after.any λ e=>Region.binds .any e && (e.on == i || D.contains e.on) | none=>false) &&
 (match ops[i]? with | some oi=>noSelect oi && rem.all (λ j=>j == i || D.contains j || match ops[j]? with | some oj=>noSelect oj && GO ops oi oj | none=>false) | none=>false)
theorem aEa{ops:Array Oper}{rem:List Nat}{i j:Nat}{D:List Nat}(h:p8 ops rem i D=true)(gj:j≠i)(qw:j ∉ D):p8 ops (rem.erase j) i D=true:=by
 unfold p8 at h ⊢
 simp only [Bool.and_eq_true,Bool.not_eq_true',List.all_eq_true,List.contains_iff_mem] at h ⊢
 obtain ⟨⟨⟨⟨h1,h2⟩,h3⟩,h4⟩,h5⟩:=h
 refine ⟨⟨⟨⟨(List.mem_erase_of_ne (Ne.symm gj)).2 h1,?_⟩,h3⟩,λ x hx=>⟨(List.mem_erase_of_ne (λ e=>qw (by rw [← e]; exact hx))).2 (h4 x hx).1,(h4 x hx).2⟩⟩,?_⟩
 ·unfold nM at h2 ⊢
  cases ho:ops[i]? with
  | none=>simp [ho] at h2
  | some o =>
   simp only [ho,Array.all_eq_true_iff_forall_mem] at h2 ⊢
   intro e he
   have:=h2 e he
   rcases Bool.or_eq_true_iff.1 this with x | x
   ·simp [x]
   ·have hn:e.on ∉ rem:=by simpa using x
    have:e.on ∉ rem.erase j:=λ hm=>hn (List.mem_of_mem_erase hm)
    simp [this]
 ·cases ho:ops[i]? with
  | none=>simp [ho] at h5
  | some oi =>
   simp only [ho,Bool.and_eq_true,List.all_eq_true] at h5 ⊢
   exact ⟨h5.1,λ x hx=>h5.2 x (List.mem_of_mem_erase hx)⟩
theorem Zh{c:Ctx}{S:Nat→an}{ops:Array Oper}{Q:Array Value→ax→an→Prop}{i:Nat}{oi:Oper}{D:List Nat}{N:an}{v:Value}(hi:ops[i]? = some oi)(hd:mF oi.op=false):∀ (n:Nat) (rem:List Nat) (t:Array Value) (R:ax) (H:an),
  p8 ops rem i D=true→rem.Nodup→(∀ p∈N,p∈H)→(∀ j∈rem,j≠i→j ∉ D→∀ p∈N,p∈S j)→((Region.wanted oi (yielded ops t)=true∧Yp P B N R (aW c t []).eval oi v)∨(Region.wanted oi (yielded ops t)=false∧v=undef))→DF ae c S ops Q n (rem.erase i) (fw oi.dst v t) R H→DF ae c S ops Q (n+1) rem t R H:=by
 intro n
 induction n with
 | zero =>
  intro rem t R H jQ dL hS wL pR h
  unfold p8 at jQ
  simp only [Bool.and_eq_true,List.contains_iff_mem] at jQ
  have mB:i∈rem:=jQ.1.1.1.1
  refine .inr ⟨(λ e=>by rw [e] at mB; cases mB),λ _ j hj _=>?_⟩
  have gj:j=i:=by
   by_cases e:j=i
   ·exact e
   ·exact absurd ((List.mem_erase_of_ne e).2 hj) (by rw [h.1]; simp)
  subst gj
  rcases pR with ⟨hw,hf⟩ | ⟨hw,rfl⟩
  ·exact ⟨oi,hi,hd,.inr ⟨hw,.inl ((hf R H (aS.refl _) hS).mono λ nx R' H' ⟨e1,e2,e3⟩=>by subst e2 e3; exact ⟨v,e1,aS.refl _,(λ _ _ h=>h),h⟩)⟩⟩
  ·exact ⟨oi,hi,hd,.inl ⟨hw,h⟩⟩
 | succ n ih =>
  intro rem t R H jQ dL hS wL pR h
  have auy:=jQ
  unfold p8 at jQ
  simp only [Bool.and_eq_true,List.contains_iff_mem,Bool.not_eq_true',List.all_eq_true] at jQ
  obtain ⟨⟨⟨⟨mB,aMy⟩,hiD⟩,hD⟩,tf⟩:=jQ
  rw [hi] at tf
  simp only [Bool.and_eq_true,List.all_eq_true] at tf
  obtain ⟨aqz,tf⟩:=tf
  refine .inr ⟨(λ e=>by rw [e] at mB; cases mB),λ US j hj zh=>?_⟩
  by_cases gj:j=i
  ·subst gj
   rcases pR with ⟨hw,hf⟩ | ⟨hw,rfl⟩
   ·exact ⟨oi,hi,hd,.inr ⟨hw,.inl ((hf R H (aS.refl _) hS).mono λ nx R' H' ⟨e1,e2,e3⟩=>by subst e2 e3; exact ⟨v,e1,aS.refl _,(λ _ _ h=>h),h⟩)⟩⟩
   ·exact ⟨oi,hi,hd,.inl ⟨hw,h⟩⟩
  ·
   have qw:j ∉ D:=λ qw=>by
    obtain ⟨_,hx⟩:=hD j qw
    unfold nM at zh
    cases ho:ops[j]? with
    | none=>simp [ho] at hx
    | some o =>
     simp only [ho,Array.all_eq_true_iff_forall_mem] at zh hx
     rw [Array.any_eq_true'] at hx
     obtain ⟨e,he,hx⟩:=hx
     have hr:=zh e he
     rw [Bool.and_eq_true] at hx
     have wS:e.on∈rem:=by
      rcases Bool.or_eq_true_iff.1 hx.2 with x | x
      ·have:e.on=i:=by simpa using x
       rw [this]; exact mB
      ·have hxD:e.on∈D:=by simpa using x
       exact (hD _ hxD).1
     simp [hx.1,wS] at hr
   have zf:=tf j hj
   have SH:∃ oj,ops[j]? = some oj∧noSelect oj=true∧GO ops oi oj=true:=by
    cases ho:ops[j]? with
    | none=>simp [gj,qw,ho] at zf
    | some oj=>simp [gj,qw,ho] at zf; exact ⟨oj,rfl,zf.1,zf.2⟩
   obtain ⟨oj,hoj,arh,lY⟩:=SH
   rcases h with ⟨he,_⟩ | ⟨_,atg⟩
   ·exact absurd ((List.mem_erase_of_ne gj).2 hj) (by rw [he]; simp)
   have aqo:nM ops (rem.erase i) j=true:=by
    unfold nM at zh ⊢
    simp only [hoj,Array.all_eq_true_iff_forall_mem] at zh ⊢
    intro e he
    have:=zh e he
    rcases Bool.or_eq_true_iff.1 this with x | x
    ·simp [x]
    ·have hn:e.on ∉ rem:=by simpa using x
     have:e.on ∉ rem.erase i:=λ hm=>hn (List.mem_of_mem_erase hm)
     simp [this]
   have Tt:=atg US j ((List.mem_erase_of_ne gj).2 hj) aqo
   obtain ⟨ha1,ha2⟩:=Zi lY
   refine Ax.fw (oi:=oi) (v:=v) hoj arh lY hS (wL j hj gj qw) Tt λ u R' H' hR RX hA=>?_
   refine ih (rem.erase j) (fw oj.dst u t) R' H' (aEa auy gj qw) (dL.erase _) RX (λ x hx=>wL x (List.mem_of_mem_erase hx)) ?_ ?_
   ·rw [afR (λ d hd=>ha2 d hd)]
    refine pR.imp (λ ⟨hw,hf⟩=>⟨hw,λ cC dY rK anS=>?_⟩) id
    rw [abm (ops:=ops) aqz (λ d hd=>ha2 d hd)]
    exact hf cC dY (hR.trans rK) anS
   ·rw [List.erase_comm,aCC (a:=oi.dst) (b:=oj.dst) (λ d hd=>(ha1 d hd).2)]
    exact hA
variable {c:Ctx} {S:Nat→an} {ops:Array Oper} {k:List Item} {R:ax} {H:an} {st st':St} {rem:List Nat} {n:Nat}
def Any(ae:Jd P B main)(c:Ctx)(S:Nat→an)(ops:Array Oper)(k:List Item)(n:Nat)(rem:List Nat)(R:ax)(H:an)(st:St):Prop :=
 rem.Nodup∧∀ tmps,cQ c.n st tmps→DF ae c S ops (λ t R H=>ae.J R H (aY (aW c t k) c.cs)) n rem tmps R H
theorem U.draw{id:Nat}{is:List Nat}{n:Nat}(S:Nat→an)(hm:P.follows .mixedOrders=true)(hk:(c.kind == CallKind.early)=false)(hb:backward ops=true)(hn:ops.size=n)(l5:List.range n=is)(h:Any ae c S ops k n is R H st):U ae c R H st (.code (.region id ops true)::k):=by
 intro tmps ht
 subst hn; subst l5
 refine ae.step rfl λ w hw=>?_
 have hA:Gj ops (Array.replicate ops.size false) (List.range ops.size):=⟨by simp,List.nodup_range,λ i=>by
  simp only [List.mem_range,Array.getD_eq_getD_getElem?]
  constructor
  ·intro hi; exact ⟨hi,by simp [hi]⟩
  ·exact λ x=>x.1⟩
 have key:=λ t=>YA (ae:=ae) (k:=k) hk hb (λ _ _ _ hq=>hq) ops.size t _ [] _ tmps R H hA (by simp) (h.2 tmps ht)
 obtain ⟨is,h1,h2⟩:=key (if (Question.order c.fn id).forced then 0 else (Question.order c.fn id).cut (w.tape w.drawn (.order c.fn id)))
 refine ⟨aY (aW c tmps (.inRegion ops is::k)) c.cs,{ w with drawn:=w.drawn+1 },#[],R,H,?_,by simp,⟨⟨hw.r,hw.h,hw.nd,hw.dj,hw.os,hw.tape,hw.out⟩,λ _ _ x=>x,Nat.le_refl _,λ _ _ _=>rfl,λ _ _ x=>.inl x,λ _ o x=>.inl ⟨o,x⟩⟩,h2⟩
 simp only [Question.forced,Bool.false_eq_true,if_false,List.reverse_nil,List.nil_append] at h1
 simp [stepG,stepG.exec,aY,aW,choose,Sem.run,Question.forced,Region.schedule,hm,Region.linearise,h1]
theorem U.ajI{id:Nat}{is:List Nat}{n:Nat}(hm:P.follows .mixedOrders=true)(hk:(c.kind == CallKind.early)=false)(hb:backward ops=true)(hn:ops.size=n)(l5:List.range n=is)(h:Any ae c (λ _=>H) ops k n is R H st):U ae c R H st (.code (.region id ops true)::k):=U.draw (λ _=>H) hm hk hb hn l5 h
theorem oJ.Fw{o:Oper}{i:Nat}{tmps:Array Value}(h:oJ ae c o R H st λ R' H' st'=>aS R R'∧(∀ p∈S i,p∈H→p∈H')∧Any ae c S ops k n rem R' H' st')(ho:ops[i]? = some o)(hw:Region.wanted o (yielded ops tmps)=true)(ht:cQ c.n st tmps) :
  Ax ae c (S i) ops i tmps R H λ t' R' H'=>DF ae c S ops (λ t R H=>ae.J R H (aY (aW c t k) c.cs)) n rem t' R' H':=by
 obtain ⟨hd,lE,h | ⟨f,args,h1,h2⟩⟩:=h
 ·exact ⟨o,ho,hd,.inr ⟨hw,.inl ((h _ (ht.knows c [])).mono λ nx R' H' ⟨v,hv,st',hs,hR,hS,hA⟩=>⟨v,hv,hR,hS,hA.2 _ ((ht.put v lE).sub hs)⟩)⟩⟩
 ·exact ⟨o,ho,hd,.inr ⟨hw,.inr ⟨f,args,h1 _ (ht.knows c []),h2.mono λ v R' H' ⟨st',hs,hR,hS,hA⟩=>⟨hR,hS,hA.2 _ ((ht.put v lE).sub hs)⟩⟩⟩⟩
theorem Any.done(h:U ae c R H st k):Any ae c S ops k n [] R H st:=⟨List.nodup_nil,λ tmps ht=>by
 cases n with
 | zero=>exact ⟨rfl,h tmps ht⟩
 | succ n=>exact .inl ⟨rfl,h tmps ht⟩⟩
theorem Any.take{i:Nat}{o:Oper}{v:Value}{N:an}(D:List Nat)(ho:ops[i]? = some o)(jQ:p8 ops rem i D=true)(hd:mF o.op=false)(lE:bV o.dst c.n)(hw:cJ ops st o=some true)(wL:∀ j∈rem,j≠i→j ∉ D→∀ p∈N,p∈S j)(hS:∀ p∈N,p∈H)(hf:∀ ρ,Knows st ρ→Yp P B N R ρ o v)(hs:aF (bW o.dst v st) st')(dL:rem.Nodup)
  {pe:List Nat} (hr:rem.erase i=pe) (h:Any ae c S ops k n pe R H st'):Any ae c S ops k (n+1) rem R H st:=by
 subst hr
 exact ⟨dL,λ tmps ht=>Zh ho hd n rem tmps R H jQ dL hS wL (.inl ⟨kz ht hw,hf _ (ht.knows c [])⟩) (h.2 _ ((ht.put v lE).sub hs))⟩
theorem Any.CX{i d:Nat}{o:Oper}{v:Value}{N:an}(D:List Nat)(ho:ops[i]? = some o)(om:o.dst=some d)(hw:cJ ops st o=some true)(jQ:p8 ops rem i D=true)(wL:∀ j∈rem,j≠i→j ∉ D→∀ p∈N,p∈S j)(hS:∀ p∈N,p∈H)
  (hf:∀ R' H',aS R R'→(∀ p∈N,p∈H')→aZ P B c o R' H' st λ R1 H1 vS=>R1=R'∧H1=H'∧vS=[(d,v)]) (hs:aF ((d,v)::st) st') (dL:rem.Nodup)
  {pe:List Nat} (hr:rem.erase i=pe) (h:Any ae c S ops k n pe R H st'):Any ae c S ops k (n+1) rem R H st:=by
 have h0:=hf R H (aS.refl _) hS
 refine Any.take (v:=v) D ho jQ h0.1 h0.2.1 hw wL hS (λ ρ bf R' H' hR RX=>?_) (by rw [om]; exact hs) dL hr h
 refine ((hf R' H' hR RX).2.2 ρ bf).mono λ nx cC dY ⟨u,hu,vS,qy,e1,e2,e3⟩=>?_
 subst e3
 rw [om] at qy
 have huv:u=v:=by
  have:=qy d v (by simp)
  simp only [bW,List.lookup_cons,beq_self_eq_true] at this
  exact Option.some.inj this
 subst huv
 exact ⟨hu,e1,e2⟩
theorem Any.aD9{i:Nat}{o:Oper}(D:List Nat)(ho:ops[i]? = some o)(jQ:p8 ops rem i D=true)(hd:mF o.op=false)(lE:bV o.dst c.n)(hw:cJ ops st o=some false)(hs:aF (bW o.dst undef st) st')(dL:rem.Nodup)
  {pe:List Nat} (hr:rem.erase i=pe) (h:Any ae c S ops k n pe R H st'):Any ae c S ops k (n+1) rem R H st:=by
 subst hr
 exact ⟨dL,λ tmps ht=>Zh (v:=undef) (N:=[]) ho hd n rem tmps R H jQ dL (by simp) (by simp) (.inr ⟨kz ht hw,rfl⟩) (h.2 _ ((ht.put undef lE).sub hs))⟩
theorem Any.one{i:Nat}{o:Oper}(ho:ops[i]? = some o)(mD:rem.filter (nM ops rem)=[i])(hw:cJ ops st o=some true)(dL:rem.Nodup){pe:List Nat}(hr:rem.erase i=pe)
  (h:oJ ae c o R H st λ R' H' st'=>aS R R'∧(∀ p∈S i,p∈H→p∈H')∧Any ae c S ops k n pe R' H' st'):Any ae c S ops k (n+1) rem R H st:=by
 subst hr
 refine ⟨dL,λ tmps ht=>.inr ⟨(λ e=>by rw [e] at mD; cases mD),λ _ j hj zh=>?_⟩⟩
 have:j∈rem.filter (nM ops rem):=List.mem_filter.2 ⟨hj,zh⟩
 rw [mD] at this
 obtain rfl:j=i:=by simpa using this
 exact h.Fw ho (kz ht hw) ht
theorem ax8{H H':an}(h:∀ p∈H,p∈H'){X:an}:∀ p∈H,p∈X→p∈H':=λ p hp _=>h p hp
end
end Go.Lg
namespace Go.Lg
open Go.Conc
section
variable {P:Program} {B:Base} {main:Bool} {ae:Jd P B main} {c:Ctx} {R:ax} {H H':an} {st st':St} {k:List Item}
theorem Oo{w:World}(hs:List.Sublist H' H)(hw:Fits B R H w):fF B R H w R H' w :=
 ⟨⟨hw.r,λ b o h=>hw.h b o (hs.subset h),(hs.map _).nodup hw.nd,λ b o h=>hw.dj b o (hs.subset h),hw.os,hw.tape,hw.out⟩,λ _ _ x=>x,Nat.le_refl _,λ _ _ _=>rfl,λ _ _ x=>.inl x,λ _ o x=>.inl ⟨o,hs.subset x⟩⟩
theorem U.drop{todo:List Item}(hs:List.Sublist H' H)(h:U ae c R H' st todo):U ae c R H st todo:=U.ghost (λ _ hw=>Oo hs hw) h
theorem J.drop{g:Goroutine}(hs:List.Sublist H' H)(h:ae.J R H' g):ae.J R H g:=ae.ghost (λ _ hw=>Oo hs hw) h
theorem Xy{w:World}(hs:List.Perm H' H)(hw:Fits B R H w):fF B R H w R H' w :=
 ⟨⟨hw.r,λ b o h=>hw.h b o (hs.subset h),(hs.map _).nodup_iff.2 hw.nd,λ b o h=>hw.dj b o (hs.subset h),hw.os,hw.tape,hw.out⟩,λ _ _ x=>x,Nat.le_refl _,λ _ _ _=>rfl,λ _ _ x=>.inl x,λ _ o x=>.inl ⟨o,hs.subset x⟩⟩
theorem U.perm{todo:List Item}(hs:List.Perm H' H)(h:U ae c R H' st todo):U ae c R H st todo:=U.ghost (λ _ hw=>Xy hs hw) h
theorem J.perm{g:Goroutine}(hs:List.Perm H' H)(h:ae.J R H' g):ae.J R H g:=ae.ghost (λ _ hw=>Xy hs hw) h
def ax.ins(R:ax)(b:Nat)(o:Obj):ax:=λ x=>if x=b then some o else R x
theorem ax.ax6(R:ax)(b:Nat)(o:Obj):R.ins b o b=some o:=by simp [ax.ins]
theorem ax.acB{R:ax}{b:Nat}{o:Obj}(h:R b=none):aS R (R.ins b o):=λ x u hx=>by
 unfold ax.ins
 split
 ·subst_vars; rw [h] at hx; cases hx
 ·exact hx
theorem aEo{w:World}{b:Nat}{o:Obj}(hw:Fits B R ((b,o)::H) w):fF B R ((b,o)::H) w (R.ins b o) H w:=by
 have hb:R b=none:=hw.dj b o (by simp)
 have dL:=hw.nd
 rw [List.map_cons,List.nodup_cons] at dL
 refine ⟨⟨λ x u hx=>?_,λ x u hx=>hw.h x u (by simp [hx]),dL.2,λ x u hx=>?_,hw.os,hw.tape,hw.out⟩,ax.acB hb,Nat.le_refl _,λ _ _ _=>rfl,λ x u hx=>?_,λ x u hx=>.inl ⟨u,by simp [hx]⟩⟩
 ·unfold ax.ins at hx
  split at hx
  ·subst_vars; cases hx; exact hw.h _ _ (by simp)
  ·exact hw.r x u hx
 ·have eH:x≠b:=λ e=>dL.1 (List.mem_map.2 ⟨(x,u),hx,e⟩)
  unfold ax.ins
  rw [if_neg eH]
  exact hw.dj x u (by simp [hx])
 ·unfold ax.ins at hx
  split at hx
  ·subst_vars; exact .inr (.inl ⟨o,by simp⟩)
  ·exact .inl hx
theorem J.freeze{g:Goroutine}{b:Nat}{o:Obj}(h:∀ R',aS R R'→R' b=some o→ae.J R' H g)(hb:R b=none):ae.J R ((b,o)::H) g :=
 ae.ghost (λ _ hw=>aEo hw) (h _ (ax.acB hb) (ax.ax6 R b o))
theorem J.amX{fr:Frame}{cs:List Frame}{b:Nat}{o:Obj}(h:∀ R',aS R R'→R' b=some o→ae.J R' H (aY fr cs)):ae.J R ((b,o)::H) (aY fr cs):=by
 cases hb:R b with
 | none=>exact J.freeze h hb
 | some x =>
  refine ae.step rfl λ w hw=>?_
  have:=hw.dj b o (by simp)
  rw [hb] at this
  cases this
theorem U.freeze{todo:List Item}{b:Nat}{o:Obj}(h:∀ R',aS R R'→R' b=some o→U ae c R' H st todo):U ae c R ((b,o)::H) st todo :=
 λ tmps ht=>J.amX λ R' h1 h2=>h R' h1 h2 tmps ht
theorem cQ.aeF{n t:Nat}{x:Value}{tmps:Array Value}(hx:st.lookup t=some x)(h:cQ n st tmps):cQ n ((t,x)::st) tmps:=by
 refine ⟨h.1,λ u v hu=>?_⟩
 rw [List.lookup_cons] at hu
 split at hu
 ·rename_i heq
  have:u=t:=by simpa using heq
  subst this
  cases hu
  exact h.2 _ _ hx
 ·exact h.2 u v hu
theorem U.loop{body:Code}(I:Nat→ax→an→St→Prop)
  (RZ:∀ n R H st,I n R H st→(∀ m R' H' st',m < n→I m R' H' st'→U ae c R' H' st' (.inLoop body::k))→U ae c R H st (.code body :: .inLoop body::k))
  {n:Nat} (h0:I n R H st):U ae c R H st (.code (.loop body)::k):=by
 have key:∀ n R H st,I n R H st→U ae c R H st (.code body :: .inLoop body::k):=by
  intro n
  induction n using Nat.strongRecOn with
  | ind n ih=>exact λ R H st hI=>RZ n R H st hI λ m R' H' st' hm RD=>U.inLoop (ih m hm R' H' st' RD)
 exact U.enterLoop (key n R H st h0)
end
theorem Cell.mono{R R':ax}{H:an}{a:Addr}{v:Value}(h:Cell R [] a v)(hR:aS R R'):Cell R' H a v:=by
 obtain ⟨h1,cs,e,fz,h2,h3⟩:=h
 exact ⟨h1,cs,e,fz,.inl (h2.elim (hR _ _) (λ x=>by cases x)),h3⟩
theorem aQ.up{R R':ax}{H:an}{b o:Nat}{vs:List Value}(h:aQ R [] b o vs)(hR:aS R R'):aQ R' H b o vs:=λ j v hj=>(h j v hj).mono hR
theorem aQ.any{R:ax}{H:an}{b o:Nat}{vs:List Value}(h:aQ R [] b o vs):aQ R H b o vs:=h.up (aS.refl R)
theorem aQ.one{R:ax}{H:an}{b o j:Nat}{v:Value}{vs:List Value}(h:aQ R H b o vs)(hj:vs[j]? = some v):Cell R H ⟨b,o+j,none⟩ v:=h j v hj
end Go.Lg
