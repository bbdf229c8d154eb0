/- The base of a logic of goroutines in company. Conditions: none. -/
import Derived.Conc.Beside
import Derived.Conc.Events
import Derived.Conc.Listed
import Derived.Orders
namespace Go.Lg
open Go.Conc
abbrev aE:=Nat→Option Obj
abbrev an:=List (Nat × Obj)
structure Base where
 os:Os
 tape:Nat→Question→Nat
 out:Array (Nat × ByteArray)
structure Fits (B:Base) (R:aE) (H:an) (w:World):Prop where
 r:∀ b o,R b=some o→w.heap[b]? = some o
 h:∀ b o,(b,o)∈H→w.heap[b]? = some o
 nd:(H.map (·.1)).Nodup
 dj:∀ b o,(b,o)∈H→R b=none
 os:w.os=B.os
 tape:w.tape=B.tape
 out:w.output=B.out
theorem ir{w:World}{b:Nat}{o:Obj}(h:w.heap[b]? = some o):b < w.heap.size:=(Array.getElem?_eq_some_iff.1 h).1
structure dU (B:Base) (R:aE) (H:an) (w:World) (R':aE) (H':an) (w':World):Prop where
 fits:Fits B R' H' w'
 rle:∀ b o,R b=some o→R' b=some o
 size:w.heap.size≤w'.heap.size
 same:∀ b,b < w.heap.size→(∀ o,(b,o) ∉ H)→w'.heap[b]? = w.heap[b]?
 Gw:∀ b o,R' b=some o→R b=some o∨(∃ o',(b,o')∈H)∨w.heap.size≤b
 xL:∀ b o,(b,o)∈H'→(∃ o',(b,o')∈H)∨w.heap.size≤b
theorem dU.refl{B:Base}{R:aE}{H:an}{w:World}(h:Fits B R H w):dU B R H w R H w :=
 ⟨h,λ _ _ x=>x,Nat.le_refl _,λ _ _ _=>rfl,λ _ _ x=>.inl x,λ _ o x=>.inl ⟨o,x⟩⟩
theorem dU.trans{B:Base}{R R' bY:aE}{H H' cD:an}{w w' QF:World}(h:dU B R H w R' H' w')(k:dU B R' H' w' bY cD QF):dU B R H w bY cD QF:=by
 refine ⟨k.fits,λ b o x=>k.rle b o (h.rle b o x),Nat.le_trans h.size k.size,λ b hb hn=>?_,λ b o x=>?_,λ b o x=>?_⟩
 ·rw [k.same b (Nat.lt_of_lt_of_le hb h.size) (λ o ho=>?_),h.same b hb hn]
  rcases h.xL b o ho with ⟨o',eC⟩ | l3
  ·exact hn o' eC
  ·omega
 ·rcases k.Gw b o x with x | ⟨o',x⟩ | x
  ·exact h.Gw b o x
  ·exact .inr (h.xL b o' x)
  ·exact .inr (.inr (Nat.le_trans h.size x))
 ·rcases k.xL b o x with ⟨o',x⟩ | x
  ·exact h.xL b o' x
  ·exact .inr (Nat.le_trans h.size x)
def BP(R:aE)(H:an)(n:Nat)(write:Bool)(b:Nat):Prop:=(write=false∧(R b).isSome=true)∨(∃ o,(b,o)∈H)∨n≤b
def ia(R:aE)(H:an)(n m:Nat)(e:Event):Prop :=
 match e.loc with
 | .cell a=>e.sync=false∧a.block < m∧BP R H n e.write a.block
 | .obj b=>e.sync=false∧b < m∧BP R H n e.write b
 | .mark .noRoom=>True
 | _=>False
theorem BP.up{B:Base}{R R':aE}{H H':an}{w w':World}(h:dU B R H w R' H' w'){wr:Bool}{b:Nat}(k:BP R' H' w'.heap.size wr b):BP R H w.heap.size wr b:=by
 rcases k with ⟨k1,k2⟩ | ⟨o,k⟩ | k
 ·obtain ⟨o,ho⟩:=Option.isSome_iff_exists.1 k2
  rcases h.Gw b o ho with x | x | x
  ·exact .inl ⟨k1,by simp [x]⟩
  ·exact .inr (.inl x)
  ·exact .inr (.inr x)
 ·exact .inr (h.xL b o k)
 ·exact .inr (.inr (Nat.le_trans h.size k))
theorem ia.up{B:Base}{R R':aE}{H H':an}{w w':World}(h:dU B R H w R' H' w'){m:Nat}{e:Event}(k:ia R' H' w'.heap.size m e):ia R H w.heap.size m e:=by
 unfold ia at k ⊢
 split at k
 ·exact ⟨k.1,k.2.1,k.2.2.up h⟩
 ·exact ⟨k.1,k.2.1,k.2.2.up h⟩
 ·trivial
 ·exact k.elim
theorem ia.more{R:aE}{H:an}{n m m':Nat}{e:Event}(hm:m≤m')(k:ia R H n m e):ia R H n m' e:=by
 unfold ia at k ⊢
 split at k
 ·exact ⟨k.1,by omega,k.2.2⟩
 ·exact ⟨k.1,by omega,k.2.2⟩
 ·trivial
 ·exact k.elim
def aK{α:Type}(P:Program)(B:Base)(R:aE)(H:an)(s:Sem α)(K:α→aE→an→Prop):Prop :=
 ∀ w,Fits B R H w→∃ a w' R' H',s.run P w = .ok a w'∧(∀ e∈s.events P w #[],ia R H w.heap.size w'.heap.size e)∧dU B R H w R' H' w'∧K a R' H'
section
variable {P:Program} {B:Base} {R:aE} {H:an}
theorem aK.mono{α:Type}{s:Sem α}{K K':α→aE→an→Prop}(h:aK P B R H s K)(hk:∀ a R' H',K a R' H'→K' a R' H'):aK P B R H s K':=by
 intro w hw
 obtain ⟨a,w',R',H',h1,h2,h3,h4⟩:=h w hw
 exact ⟨a,w',R',H',h1,h2,h3,hk _ _ _ h4⟩
theorem aK.pure{α:Type}{a:α}{K:α→aE→an→Prop}(h:K a R H):aK P B R H (Pure.pure a:Sem α) K :=
 λ w hw=>⟨a,w,R,H,rfl,by simp,dU.refl hw,h⟩
theorem aK.bind{α β:Type}{s:Sem α}{f:α→Sem β}{K:β→aE→an→Prop}(h:aK P B R H s λ a R' H'=>aK P B R' H' (f a) K):aK P B R H (s >>= f) K:=by
 intro w hw
 obtain ⟨a,w',R',H',h1,h2,h3,h4⟩:=h w hw
 obtain ⟨b,QF,bY,cD,k1,k2,k3,k4⟩:=h4 w' h3.fits
 refine ⟨b,QF,bY,cD,by simp [h1,k1],λ e he=>?_,h3.trans k3,k4⟩
 rw [Sem.events_bind,h1,Result.evThen_ok,Sem.events_acc] at he
 rcases Array.mem_append.1 he with he | he
 ·exact (h2 e he).more k3.size
 ·exact (k2 e he).up h3
theorem aK.map{α β:Type}{s:Sem α}{f:α→β}{K:β→aE→an→Prop}(h:aK P B R H s λ a R' H'=>K (f a) R' H'):aK P B R H (f <$> s) K:=by
 intro w hw
 obtain ⟨a,w',R',H',h1,h2,h3,h4⟩:=h w hw
 exact ⟨f a,w',R',H',by simp [h1],by simpa using h2,h3,h4⟩
def aq{α:Type}(P:Program)(s:Sem α)(a:α):Prop:=∀ w,s.run P w = .ok a w∧s.events P w #[]=#[]
theorem aq.ok{α:Type}{s:Sem α}{a:α}{K:α→aE→an→Prop}(h:aq P s a)(hk:K a R H):aK P B R H s K :=
 λ w hw=>⟨a,w,R,H,(h w).1,by rw [(h w).2]; simp,dU.refl hw,hk⟩
theorem aq.pure{α:Type}(a:α):aq P (Pure.pure a:Sem α) a:=λ _=>⟨rfl,rfl⟩
theorem aq.bind{α β:Type}{s:Sem α}{f:α→Sem β}{a:α}{b:β}(h:aq P s a)(k:aq P (f a) b):aq P (s >>= f) b :=
 λ w=>⟨by simp [(h w).1,(k w).1],by rw [Sem.events_bind,(h w).1,(h w).2]; exact (k w).2⟩
theorem aq.map{α β:Type}{s:Sem α}{f:α→β}{a:α}(h:aq P s a):aq P (f <$> s) (f a) :=
 λ w=>⟨by simp [(h w).1],by simpa using (h w).2⟩
theorem aq.program:aq P program P:=λ _=>⟨rfl,rfl⟩
theorem aq.underlying{t:TypeId}{d:TypeDesc}(h:P.underlying t=some d):aq P (underlying t) d:=λ w=>⟨by simp [Go.underlying,h],by simp⟩
theorem aq.typeInfo{t:TypeId}{i:TypeInfo}(h:P.info? t=some i):aq P (typeInfo t) i:=λ w=>⟨by simp [Go.typeInfo,h],by simp⟩
theorem aq.cG{α β:Type}{s:Sem α}{f:α→Sem β}{a:α}{K:β→aE→an→Prop}(h:aq P s a)(hk:aK P B R H (f a) K):aK P B R H (s >>= f) K :=
 aK.bind (h.ok hk)
def Cell(R:aE)(H:an)(a:Addr)(v:Value):Prop :=
 a.spot=none∧∃ cs e fz,(R a.block=some (.cells cs e fz)∨(a.block,Obj.cells cs e fz)∈H)∧cs[a.off]? = some v
theorem Cell.at_{w:World}{a:Addr}{v:Value}(h:Cell R H a v)(hw:Fits B R H w):w.cell? a=some v:=by
 obtain ⟨hs,cs,e,fz,h1,h2⟩:=h
 have hh:w.heap[a.block]? = some (.cells cs e fz):=h1.elim (hw.r _ _) (hw.h _ _)
 simp [World.cell?,hh,hs,h2]
theorem Cell.touch{a:Addr}{v:Value}(h:Cell R H a v)(n:Nat):BP R H n false a.block:=by
 obtain ⟨_,cs,e,fz,h1,_⟩:=h
 rcases h1 with h1 | h1
 ·exact .inl ⟨rfl,by simp [h1]⟩
 ·exact .inr (.inl ⟨_,h1⟩)
theorem aH1{w:World}{a:Addr}{v:Value}(h:w.cell? a=some v):a.block < w.heap.size:=by
 unfold World.cell? at h
 split at h
 ·exact ir ‹_›
 ·cases h
theorem aK.load{a:Addr}{v:Value}{K:Value→aE→an→Prop}(h:Cell R H a v)(hk:K v R H):aK P B R H (load a) K:=by
 intro w hw
 have hc:=h.at_ hw
 refine ⟨v,w,R,H,by simp [hc],?_,dU.refl hw,hk⟩
 intro e he
 simp only [events_load,hc] at he
 simp at he
 subst he
 exact ⟨rfl,aH1 hc,h.touch _⟩
theorem aK.new{o:Obj}{K:Nat→aE→an→Prop}(hk:∀ r,R r=none→(∀ x,(r,x) ∉ H)→K r R ((r,o)::H)):aK P B R H (newObj o) K:=by
 intro w hw
 have hR:R w.heap.size=none:=by
  cases h:R w.heap.size with
  | none=>rfl
  | some x=>exact absurd (ir (hw.r _ _ h)) (Nat.lt_irrefl _)
 have hH:∀ x,(w.heap.size,x) ∉ H:=λ x hx=>absurd (ir (hw.h _ _ hx)) (Nat.lt_irrefl _)
 have sU:∀ b (x:Obj),w.heap[b]? = some x→(w.heap.push o)[b]? = some x:=λ b x hx=>by
  have:=ir hx
  rw [Array.getElem?_push]
  rw [if_neg (by omega)]; exact hx
 refine ⟨w.heap.size,{ w with heap:=w.heap.push o },R,(w.heap.size,o)::H,by simp,by simp,⟨⟨?_,?_,?_,?_,hw.os,hw.tape,hw.out⟩,λ _ _ x=>x,by simp,?_,λ _ _ x=>.inl x,?_⟩,hk _ hR hH⟩
 ·exact λ b x hx=>sU b x (hw.r b x hx)
 ·intro b x hx
  rcases List.mem_cons.1 hx with hx | hx
  ·cases hx; simp
  ·exact sU b x (hw.h b x hx)
 ·rw [List.map_cons,List.nodup_cons]
  refine ⟨λ hm=>?_,hw.nd⟩
  obtain ⟨p,hp,he⟩:=List.mem_map.1 hm
  have he':p.1=w.heap.size:=he
  exact hH p.2 (by rw [← he']; exact hp)
 ·intro b x hx
  rcases List.mem_cons.1 hx with hx | hx
  ·cases hx; exact hR
  ·exact hw.dj b x hx
 ·intro b hb _
  show (w.heap.push o)[b]? = _
  rw [Array.getElem?_push,if_neg (by omega)]
 ·intro b x hx
  rcases List.mem_cons.1 hx with hx | hx
  ·cases hx; exact .inr (Nat.le_refl _)
  ·exact .inl ⟨x,hx⟩
inductive dS:an→Nat→Obj→Obj→an→Prop
 | here {b:Nat} {o o':Obj} {H:an}:dS ((b,o)::H) b o o' ((b,o')::H)
 | there {b:Nat} {o o':Obj} {p:Nat × Obj} {H H':an}:dS H b o o' H'→dS (p::H) b o o' (p::H')
theorem dS.keys{H H':an}{b:Nat}{o o':Obj}(h:dS H b o o' H'):H'.map (·.1)=H.map (·.1):=by
 induction h with
 | here=>rfl
 | there _ ih=>simp [ih]
theorem dS.mem{H H':an}{b:Nat}{o o':Obj}(h:dS H b o o' H'):(b,o)∈H:=by
 induction h with
 | here=>simp
 | there _ ih=>exact List.mem_cons_of_mem _ ih
theorem dS.old{H H':an}{b:Nat}{o o':Obj}(h:dS H b o o' H')(hn:(H.map (·.1)).Nodup):∀ c x,(c,x)∈H'→(c=b∧x=o')∨(c≠b∧(c,x)∈H):=by
 induction h with
 | @here b o o' H =>
  intro c x hx
  rw [List.map_cons,List.nodup_cons] at hn
  rcases List.mem_cons.1 hx with gV | gV
  ·cases gV; exact .inl ⟨rfl,rfl⟩
  ·refine .inr ⟨λ e=>hn.1 ?_,List.mem_cons_of_mem _ gV⟩
   rw [← e]
   exact List.mem_map.2 ⟨(c,x),gV,rfl⟩
 | @there b o o' p H H' hs ih =>
  intro c x hx
  rw [List.map_cons,List.nodup_cons] at hn
  rcases List.mem_cons.1 hx with hx | hx
  ·subst hx
   refine .inr ⟨λ e=>hn.1 ?_,by simp⟩
   simp only at e ⊢
   subst e
   exact List.mem_map.2 ⟨_,hs.mem,rfl⟩
  ·exact (ih hn.2 c x hx).imp id λ y=>⟨y.1,List.mem_cons_of_mem _ y.2⟩
theorem Fits.yO{H':an}{b:Nat}{o o':Obj}{w:World}(hw:Fits B R H w)(h:dS H b o o' H') :
  dU B R H w R H' { w with heap:=w.heap.setIfInBounds b o' }:=by
 have hb:w.heap[b]? = some o:=hw.h _ _ h.mem
 have br:=ir hb
 have b7:∀ c,c≠b→(w.heap.setIfInBounds b o')[c]? = w.heap[c]? := λ c hc=>Array.getElem?_setIfInBounds_ne (by omega)
 refine ⟨⟨?_,?_,by rw [h.keys]; exact hw.nd,?_,hw.os,hw.tape,hw.out⟩,λ _ _ x=>x,by simp,?_,λ _ _ x=>.inl x,?_⟩
 ·intro c x hx
  show (w.heap.setIfInBounds b o')[c]? = _
  rw [b7 c (λ e=>by subst e; have:=hw.dj _ _ h.mem; rw [hx] at this; cases this)]
  exact hw.r c x hx
 ·intro c x hx
  show (w.heap.setIfInBounds b o')[c]? = _
  rcases h.old hw.nd c x hx with ⟨rfl,rfl⟩ | ⟨hc,hx⟩
  ·rw [Array.getElem?_setIfInBounds_self_of_lt br]
  ·rw [b7 c hc]; exact hw.h c x hx
 ·intro c x hx
  rcases h.old hw.nd c x hx with ⟨rfl,_⟩ | ⟨_,hx⟩
  ·exact hw.dj _ _ h.mem
  ·exact hw.dj c x hx
 ·intro c _ hn
  exact b7 c (λ e=>by subst e; exact hn _ h.mem)
 ·intro c x hx
  rcases h.old hw.nd c x hx with ⟨rfl,_⟩ | ⟨_,hx⟩
  ·exact .inl ⟨_,h.mem⟩
  ·exact .inl ⟨_,hx⟩
theorem aK.store{a:Addr}{v:Value}{cs:Array Value}{e:TypeId}{H':an}{K:Unit→aE→an→Prop}(h1:v.oneCell'=true)(ha:a.spot=none)(br:a.off < cs.size)
  (hs:dS H a.block (.cells cs e (0,0)) (.cells (cs.setIfInBounds a.off v) e (0,0)) H') (hk:K () R H'):aK P B R H (store a v) K:=by
 intro w hw
 have hb:w.heap[a.block]? = some (.cells cs e (0,0)):=hw.h _ _ hs.mem
 have hc:w.cell? a=some cs[a.off]:=by simp [World.cell?,hb,ha,br]
 have hf:w.frozen? a=false:=by simp [World.frozen?,hb]
 have yO:w.setCell a v={ w with heap:=w.heap.setIfInBounds a.block (.cells (cs.setIfInBounds a.off v) e (0,0)) }:=by
  simp only [World.setCell]
  congr 1
  apply Array.ext_getElem?
  intro i
  rw [Array.getElem?_modify]
  by_cases hi:a.block=i
  ·subst hi
   rw [Array.getElem?_setIfInBounds_self_of_lt (ir hb),hb]
   simp [ha]
  ·simp [hi,Array.getElem?_setIfInBounds_ne hi]
 refine ⟨(),w.setCell a v,R,H',by rw [run_store P w a v _ h1]; simp [hc,hf],?_,?_,hk⟩
 ·intro e he
  rw [events_store P w #[] a v _ h1] at he
  simp [hc,hf] at he
  subst he
  refine ⟨rfl,?_,.inr (.inl ⟨_,hs.mem⟩)⟩
  simpa [World.setCell] using ir hb
 ·rw [yO]; exact hw.yO hs
def Obj.plain:Obj→Bool
 | .cells .. => false
 | .chan .. => false
 | _=>true
theorem aK.getObj{r:Nat}{o:Obj}{K:Obj→aE→an→Prop}(ho:Obj.plain o=true)(h:R r=some o∨(r,o)∈H)(hk:K o R H):aK P B R H (getObj r) K:=by
 intro w hw
 have hh:w.heap[r]? = some o:=h.elim (hw.r _ _) (hw.h _ _)
 have fS:(Go.getObj r).run P w = .ok o w:=by
  cases o <;> simp_all [Obj.plain,Go.getObj,Sem.run]
 have zB:(Go.getObj r).events P w #[]=#[⟨.obj r,false,false⟩]:=by
  cases o <;> simp_all [Obj.plain,Go.getObj,Sem.events,Sem.runT,Obj.isChan,-Sem.runT_eq]
 refine ⟨o,w,R,H,fS,?_,dU.refl hw,hk⟩
 intro e he
 rw [zB] at he
 simp at he
 subst he
 exact ⟨rfl,ir hh,h.elim (λ x=>.inl ⟨rfl,by simp [x]⟩) (λ x=>.inr (.inl ⟨_,x⟩))⟩
theorem aK.setObj{r:Nat}{o o':Obj}{H':an}{K:Unit→aE→an→Prop}(ho:Obj.plain o=true)(eC:Obj.plain o'=true)(hs:dS H r o o' H')(hk:K () R H'):aK P B R H (setObj r o') K:=by
 intro w hw
 have hh:w.heap[r]? = some o:=hw.h _ _ hs.mem
 have fS:(Go.setObj r o').run P w = .ok () { w with heap:=w.heap.setIfInBounds r o' }:=by
  cases o <;> simp_all [Obj.plain,Go.setObj,Sem.run]
 have zB:(Go.setObj r o').events P w #[]=#[⟨.obj r,true,false⟩]:=by
  cases o <;> simp_all [Obj.plain,Go.setObj,Sem.events,Sem.runT,-Sem.runT_eq] <;> (cases o' <;> simp_all [Obj.isChan])
 refine ⟨(),_,R,H',fS,?_,hw.yO hs,hk⟩
 intro e he
 rw [zB] at he
 simp at he
 subst he
 exact ⟨rfl,by simpa using ir hh,.inr (.inl ⟨_,hs.mem⟩)⟩
theorem aK.choose{q:Question}{K:Nat→aE→an→Prop}(hk:∀ t,K (if q.forced then 0 else q.cut t) R H):aK P B R H (choose q) K:=by
 intro w hw
 cases hf:q.forced with
 | true =>
  have:=hk 0
  rw [hf] at this
  exact ⟨0,w,R,H,by simp [Go.choose,Sem.run,hf],by simp,dU.refl hw,by simpa using this⟩
 | false =>
  have:=hk (w.tape w.drawn q)
  rw [hf] at this
  exact ⟨q.cut (w.tape w.drawn q),{ w with drawn:=w.drawn+1 },R,H,by simp [Go.choose,Sem.run,hf],by simp,⟨⟨hw.r,hw.h,hw.nd,hw.dj,hw.os,hw.tape,hw.out⟩,λ _ _ x=>x,Nat.le_refl _,λ _ _ _=>rfl,λ _ _ x=>.inl x,λ _ o x=>.inl ⟨o,x⟩⟩,by simpa using this⟩
theorem aK.aJH{K:Unit→aE→an→Prop}(hk:K () R H):aK P B R H (mark .noRoom) K :=
 λ w hw=>⟨(),w,R,H,rfl,by simp [ia],dU.refl hw,hk⟩
theorem aK.shape{r:Nat}{K:Option (TypeId × Nat)→aE→an→Prop}(hk:∀ x,K x R H):aK P B R H (shape r) K :=
 λ w hw=>⟨_,w,R,H,rfl,by simp,dU.refl hw,hk _⟩
end
end Go.Lg
namespace Go.Lg
open Go.Conc
structure Jd (P:Program) (B:Base) (main:Bool) where
 J:aE→an→Goroutine→Prop
 step:∀ {R H g},g.status = .running→(∀ w,Fits B R H w→∃ g' w' es R' H',stepG P main g w = .go g' w' es∧(∀ e∈es,ia R H w.heap.size w'.heap.size e)∧dU B R H w R' H' w'∧J R' H' g')→J R H g
 ghost:∀ {R H R' H' g},(∀ w,Fits B R H w→dU B R H w R' H' w)→J R' H' g→J R H g
abbrev St:=List (Nat × Value)
structure Ctx where
 fn:FuncId
 kind:CallKind
 ro:Option Nat
 n:Nat
 defers:List Deferred
 cs:List Frame
def bA(fr:Frame)(cs:List Frame):Goroutine:={ frame:=fr,callers:=cs,status:=.running,dying:=none }
def bq(c:Ctx)(tmps:Array Value)(todo:List Item):Frame:={ fn:=c.fn,tmps,todo,defers:=c.defers,mode:=.run,kind:=c.kind,roundOf:=c.ro }
def fU(n:Nat)(st:St)(tmps:Array Value):Prop:=tmps.size=n∧∀ t v,st.lookup t=some v→tmps[t]? = some v
def dT(st:St):St→Prop
 | []=>True
 | p::r=>st.lookup p.1=some p.2∧dT st r
def aH(st ab:St):Prop:=∀ t v,ab.lookup t=some v→st.lookup t=some v
theorem dT.sub{st:St}:∀ {ab:St},dT st ab→aH st ab
 | [],_,_,_,h=>by cases h
 | p::r,hs,t,v,h=>by
  rw [List.lookup_cons] at h
  split at h
  ·rename_i heq
   cases h
   have:t=p.1:=by simpa using heq
   subst this
   exact hs.1
  ·exact dT.sub hs.2 t v h
theorem aH.refl(st:St):aH st st:=λ _ _ h=>h
theorem fU.sub{n:Nat}{st ab:St}{tmps:Array Value}(h:fU n st tmps)(hs:aH st ab):fU n ab tmps:=⟨h.1,λ t v x=>h.2 t v (hs t v x)⟩
def bR(dst:Option Tmp)(v:Value)(st:St):St:=match dst with | some d=>(d,v)::st | none=>st
theorem aH.put{dst:Option Tmp}{d:Tmp}{v:Value}{st:St}(h:dst=some d):aH (bR dst v st) ((d,v)::st):=by subst h; exact aH.refl _
theorem aH.non{dst:Option Tmp}{v:Value}{st:St}(h:dst=none):aH (bR dst v st) st:=by subst h; exact aH.refl _
def fq(dst:Option Tmp)(v:Value)(tmps:Array Value):Array Value:=match dst with | some d=>tmps.setIfInBounds d v | none=>tmps
def api(dst:Option Tmp)(n:Nat):Bool:=match dst with | some d=>Nat.blt d n | none=>true
def cp(dst:Option Tmp)(n:Nat):Prop:=api dst n=true
theorem cp.lt{d n:Nat}(h:cp (some d) n):d < n:=by
 have:Nat.blt d n=true:=h
 simpa [Nat.blt_eq] using this
theorem fU.put{n:Nat}{st:St}{tmps:Array Value}(h:fU n st tmps){dst:Option Tmp}(v:Value)(hd:cp dst n):fU n (bR dst v st) (fq dst v tmps):=by
 cases dst with
 | none=>exact h
 | some d =>
  refine ⟨by simp [fq,h.1],λ t u hu=>?_⟩
  have hd':d < tmps.size:=by rw [h.1]; exact hd.lt
  simp only [bR,List.lookup_cons] at hu
  split at hu
  ·rename_i heq
   cases hu
   have:t=d:=by simpa using heq
   subst this
   simp [fq,hd']
  ·rename_i heq
   have b7:t≠d:=by simpa using heq
   simp only [fq]
   rw [Array.getElem?_setIfInBounds_ne (Ne.symm b7)]
   exact h.2 t u hu
def bg(st:St):Operand→Option Value
 | .tmp t=>st.lookup t
 | .const v=>some v
 | .global g=>some (.pointer (some ⟨g,0,none⟩))
 | .func f=>some (.func (.func f) #[] #[])
def Knows(st:St)(ρ:Operand→Value):Prop:=∀ x v,bg st x=some v→ρ x=v
theorem fU.knows{n:Nat}{st:St}{tmps:Array Value}(h:fU n st tmps)(c:Ctx)(todo:List Item):Knows st (bq c tmps todo).eval:=by
 intro x v hx
 cases x with
 | tmp t =>
  have:=h.2 t v hx
  simp [bq,Frame.eval,Array.getD_eq_getD_getElem?,this]
 | const u=>cases hx; rfl
 | global g=>cases hx; rfl
 | func f=>cases hx; rfl
section
variable {P:Program} {B:Base} {main:Bool} (ag:Jd P B main)
def At(c:Ctx)(R:aE)(H:an)(st:St)(todo:List Item):Prop:=∀ tmps,fU c.n st tmps→ag.J R H (bA (bq c tmps todo) c.cs)
variable {ag} {c:Ctx} {R:aE} {H:an} {st:St} {k:List Item}
theorem At.sub{ab:St}{todo:List Item}(hs:aH st ab)(h:At ag c R H ab todo):At ag c R H st todo:=λ tmps ht=>h tmps (ht.sub hs)
theorem At.ghost{R':aE}{H':an}{todo:List Item}(hg:∀ w,Fits B R H w→dU B R H w R' H' w)(h:At ag c R' H' st todo):At ag c R H st todo:=λ tmps ht=>ag.ghost hg (h tmps ht)
theorem Jd.ctl{R:aE}{H:an}{g g':Goroutine}(hs:g.status = .running)(h:∀ w,stepG P main g w = .go g' w)(hj:ag.J R H g'):ag.J R H g :=
 ag.step hs λ w hw=>⟨g',w,#[],R,H,h w,by simp,dU.refl hw,hj⟩
theorem At.skip(h:At ag c R H st k):At ag c R H st (.code .skip::k):=λ tmps ht=>Jd.ctl rfl (λ w=>by simp [stepG,stepG.exec,bA,bq]) (h tmps ht)
theorem At.label{l:Nat}(h:At ag c R H st k):At ag c R H st (.code (.label l)::k):=λ tmps ht=>Jd.ctl rfl (λ w=>by simp [stepG,stepG.exec,bA,bq]) (h tmps ht)
theorem At.inBlock{id:Nat}(h:At ag c R H st k):At ag c R H st (.inBlock id::k):=λ tmps ht=>Jd.ctl rfl (λ w=>by simp [stepG,stepG.exec,bA,bq]) (h tmps ht)
theorem At.seq{x y:Code}(h:At ag c R H st (.code x :: .code y::k)):At ag c R H st (.code (.seq x y)::k):=λ tmps ht=>Jd.ctl rfl (λ w=>by simp [stepG,stepG.exec,bA,bq]) (h tmps ht)
theorem At.block{id:Nat}{x:Code}(h:At ag c R H st (.code x :: .inBlock id::k)):At ag c R H st (.code (.block id x)::k):=λ tmps ht=>Jd.ctl rfl (λ w=>by simp [stepG,stepG.exec,bA,bq]) (h tmps ht)
theorem At.scope{x:Code}(h:At ag c R H st (.code x :: .inScope x::k)):At ag c R H st (.code (.scope x)::k):=λ tmps ht=>Jd.ctl rfl (λ w=>by simp [stepG,stepG.exec,bA,bq]) (h tmps ht)
theorem At.enterLoop{x:Code}(h:At ag c R H st (.code x :: .inLoop x::k)):At ag c R H st (.code (.loop x)::k):=λ tmps ht=>Jd.ctl rfl (λ w=>by simp [stepG,stepG.exec,bA,bq]) (h tmps ht)
theorem At.inLoop{x:Code}(h:At ag c R H st (.code x :: .inLoop x::k)):At ag c R H st (.inLoop x::k):=λ tmps ht=>Jd.ctl rfl (λ w=>by simp [stepG,stepG.exec,bA,bq]) (h tmps ht)
theorem At.exit{id:Nat}{k':List Item}(he:exitTo id k=some k')(h:At ag c R H st k'):At ag c R H st (.code (.exit id)::k):=λ tmps ht=>Jd.ctl rfl (λ w=>by simp [stepG,stepG.exec,bA,bq,he]) (h tmps ht)
theorem At.region{id:Nat}{ops:Array Oper}(h:At ag c R H st (.inRegion ops (List.range ops.size)::k)):At ag c R H st (.code (.region id ops false)::k):=λ tmps ht=>Jd.ctl rfl (λ w=>by simp [stepG,stepG.exec,bA,bq]) (h tmps ht)
theorem At.eH{ops:Array Oper}(h:At ag c R H st k):At ag c R H st (.inRegion ops []::k):=λ tmps ht=>Jd.ctl rfl (λ w=>by simp [stepG,stepG.exec,bA,bq]) (h tmps ht)
theorem At.cond{x:Operand}{th el:Code}{t:Bool}(hx:bg st x=some (.bool t))(h1:t=true→At ag c R H st (.code th::k))(h2:t=false→At ag c R H st (.code el::k)):At ag c R H st (.code (.cond x th el)::k):=by
 intro tmps ht
 have he:=ht.knows c (.code (.cond x th el)::k) x _ hx
 cases t with
 | true=>exact Jd.ctl rfl (λ w=>by simp only [bq] at he; simp [stepG,stepG.exec,bA,bq,he]) (h1 rfl tmps ht)
 | false=>exact Jd.ctl rfl (λ w=>by simp only [bq] at he; simp [stepG,stepG.exec,bA,bq,he]) (h2 rfl tmps ht)
theorem At.cond_true{x:Operand}{th el:Code}(hx:bg st x=some (.bool true))(h:At ag c R H st (.code th::k)):At ag c R H st (.code (.cond x th el)::k):=At.cond hx (λ _=>h) (λ e=>by cases e)
theorem At.cond_false{x:Operand}{th el:Code}(hx:bg st x=some (.bool false))(h:At ag c R H st (.code el::k)):At ag c R H st (.code (.cond x th el)::k):=At.cond hx (λ e=>by cases e) (λ _=>h)
def ns:Op→Bool
 | .defer _=>true
 | _=>false
theorem xX{tmps:Array Value}{ops:Array Oper}{i:Nat}{rest:List Nat}{o:Oper}{w:World}(ho:ops[i]? = some o)(hw:Region.wanted o (yielded ops tmps)=true)(hd:ns o.op=false) :
  stepG P main (bA (bq c tmps (.inRegion ops (i::rest)::k)) c.cs) w=stepG.apply P true (bq c tmps (.inRegion ops (i::rest)::k)) c.cs none (execOp (bq c tmps (.inRegion ops (i::rest)::k)).eval o) w:=by
 cases hr:c.ro with
 | none=>simp [bA,stepG,stepG.exec,stepG.oper,Frame.oper?,bq,ho,hw,hr]
 | some l =>
  simp only [bA,stepG,stepG.exec,stepG.oper,Frame.oper?,bq,ho,hw,hr,Option.map_some,Option.getD_some,if_true]
  split
  ·rename_i h1 h2; rw [h2] at hd; cases hd
  ·rfl
theorem ahT{tmps:Array Value}{ops:Array Oper}{i:Nat}{rest:List Nat}{o:Oper}{w:World}(ho:ops[i]? = some o)(hw:Region.wanted o (yielded ops tmps)=false) :
  stepG P main (bA (bq c tmps (.inRegion ops (i::rest)::k)) c.cs) w = .go (bA (bq c (fq o.dst undef tmps) (.inRegion ops rest::k)) c.cs) w:=by
 simp only [bA,stepG,stepG.exec,bq,ho,hw,Option.map_some,Option.getD_some,Frame.finish,Option.bind_some,fq]
 cases o.dst <;> rfl
theorem uY{tmps:Array Value}{ops:Array Oper}{i:Nat}{rest:List Nat}{o:Oper}{v:Value}(ho:ops[i]? = some o) :
  (bq c tmps (.inRegion ops (i::rest)::k)).finish v=bq c (fq o.dst v tmps) (.inRegion ops rest::k):=by
 simp only [Frame.finish,bq,ho,Option.bind_some,fq]
 cases o.dst <;> rfl
def dz(ops:Array Oper)(st:St)(o:Oper):Option Bool :=
 match o.guard with
 | none=>some true
 | some (j,want)=>match ((ops[j]?).bind (·.dst)).bind (st.lookup ·) with
  | some (.bool b)=>some (b == want)
  | some (.tuple _)=>some false
  | _=>none
theorem nE{n:Nat}{ops:Array Oper}{tmps:Array Value}{o:Oper}{b:Bool}(ht:fU n st tmps)(h:dz ops st o=some b):Region.wanted o (yielded ops tmps)=b:=by
 unfold dz at h
 unfold Region.wanted
 split at h
 ·rename_i hg; simp only [hg]; exact Option.some.inj h
 ·rename_i j want hg
  simp only [hg,yielded]
  cases hd:(ops[j]?).bind (·.dst) with
  | none=>simp [hd] at h
  | some d =>
   simp only [hd,Option.bind_some] at h ⊢
   cases hl:st.lookup d with
   | none=>simp [hl] at h
   | some v =>
    rw [hl] at h
    rw [ht.2 d v hl]
    cases v <;> simp at h ⊢ <;> first | (rw [← h]; done) | exact h.symm | (subst h; rfl)
theorem Tz{fr:Frame}{cs:List Frame}{s:Sem Next}{w w':World}{v:Value}(hk:fr.kind ≠ .early)(hr:s.run P w = .ok (.value v) w') :
  stepG.apply P true fr cs none s w = .go (bA (fr.finish v) cs) w' (seen P fr.fn (s.events P w #[])):=by
 have eR:(fr.kind == CallKind.early)=false:=by simpa using hk
 simp [stepG.apply,hr,bA,eR,GStep.after]
theorem Ty{fr:Frame}{cs:List Frame}{s:Sem Next}{w w':World}(hk:fr.kind ≠ .early)(hr:s.run P w = .ok .skip w') :
  stepG.apply P true fr cs none s w = .go (bA (fr.finish undef) cs) w' (seen P fr.fn (s.events P w #[])):=by
 have eR:(fr.kind == CallKind.early)=false:=by simpa using hk
 simp [stepG.apply,hr,bA,eR,GStep.after]
theorem adv{fr:Frame}{cs:List Frame}{s:Sem Next}{w w':World}{f:FuncId}{args:Array Value}{ops:Array Oper}{is:List Nat}{k:List Item}(ht:fr.todo = .inRegion ops is::k)(hk:fr.kind ≠ .early)(hr:s.run P w = .ok (.enter f args) w') :
  stepG.apply P true fr cs none s w = .go (bA (Frame.enter P f args .normal) (fr::cs)) w' (seen P fr.fn (s.events P w #[])):=by
 have eR:(fr.kind == CallKind.early)=false:=by simpa using hk
 simp [stepG.apply,hr,bA,eR,GStep.after,ht]
theorem At.op{ops:Array Oper}{i:Nat}{rest:List Nat}{o:Oper}(ho:ops[i]? = some o)(hw:dz ops st o=some true)(hd:ns o.op=false)(hk:c.kind ≠ .early)
  (h:∀ ρ,Knows st ρ→aK P B R H (execOp ρ o) λ nx R' H'=>∃ v,(nx = .value v∨(nx = .skip∧v=undef))∧cp o.dst c.n∧∃ ab,aH (bR o.dst v st) ab∧At ag c R' H' ab (.inRegion ops rest::k)) :
  At ag c R H st (.inRegion ops (i::rest)::k):=by
 intro tmps ht
 refine ag.step rfl λ w oh=>?_
 obtain ⟨nx,w',R',H',h1,h2,h3,v,hv,mn,ab,hs,Jl⟩:=h _ (ht.knows c _) w oh
 refine ⟨bA (bq c (fq o.dst v tmps) (.inRegion ops rest::k)) c.cs,w',seen P c.fn ((execOp (bq c tmps (.inRegion ops (i::rest)::k)).eval o).events P w #[]),R',H',?_,λ e he=>h2 e (mem_seen he),h3,Jl _ ((ht.put v mn).sub hs)⟩
 rw [xX ho (nE ht hw) hd,← uY (rest:=rest) (k:=k) (c:=c) (tmps:=tmps) (v:=v) ho]
 rcases hv with rfl | ⟨rfl,rfl⟩
 ·exact Tz hk h1
 ·exact Ty hk h1
theorem At.unwanted{ops:Array Oper}{i:Nat}{rest:List Nat}{o:Oper}{ab:St}(ho:ops[i]? = some o)(hw:dz ops st o=some false)(mn:cp o.dst c.n)(hs:aH (bR o.dst undef st) ab)
  (h:At ag c R H ab (.inRegion ops rest::k)):At ag c R H st (.inRegion ops (i::rest)::k) :=
 λ _ ht=>Jd.ctl rfl (λ _=>ahT ho (nE ht hw)) (h _ ((ht.put undef mn).sub hs))
def ax(ag:Jd P B main)(f:FuncId)(args:Array Value)(R:aE)(H:an)(ck:Value→aE→an→Prop):Prop :=
 ∀ fr cs,(∀ v R' H',ck v R' H'→ag.J R' H' (bA (fr.finish v) cs))→ag.J R H (bA (Frame.enter P f args .normal) (fr::cs))
theorem ax.mono{f:FuncId}{args:Array Value}{ck IE:Value→aE→an→Prop}(h:ax ag f args R H ck)(hp:∀ v R' H',ck v R' H'→IE v R' H'):ax ag f args R H IE :=
 λ fr cs hk=>h fr cs λ v R' H' hv=>hk v R' H' (hp v R' H' hv)
theorem At.enters{ops:Array Oper}{i:Nat}{rest:List Nat}{o:Oper}{f:FuncId}{args:Array Value}{ck:Value→aE→an→Prop}(ho:ops[i]? = some o)(hw:dz ops st o=some true)(hd:ns o.op=false)(hk:c.kind ≠ .early)(mn:cp o.dst c.n)
  (he:∀ ρ,Knows st ρ→aq P (execOp ρ o) (.enter f args)) (hf:ax ag f args R H ck)
  (h:∀ v R' H',ck v R' H'→∃ ab,aH (bR o.dst v st) ab∧At ag c R' H' ab (.inRegion ops rest::k)) :
  At ag c R H st (.inRegion ops (i::rest)::k):=by
 intro tmps ht
 refine ag.step rfl λ w oh=>?_
 have hv:=he _ (ht.knows c (.inRegion ops (i::rest)::k)) w
 refine ⟨bA (Frame.enter P f args .normal) (bq c tmps (.inRegion ops (i::rest)::k)::c.cs),w,seen P c.fn ((execOp (bq c tmps (.inRegion ops (i::rest)::k)).eval o).events P w #[]),R,H,?_,?_,dU.refl oh,hf _ _ λ v R' H' hp=>?_⟩
 ·rw [xX ho (nE ht hw) hd]
  exact adv rfl hk hv.1
 ·intro e Jq
  have:=mem_seen Jq
  rw [hv.2] at this
  simp at this
 ·obtain ⟨ab,hs,Jl⟩:=h v R' H' hp
  rw [uY ho]
  exact Jl _ ((ht.put v mn).sub hs)
def nU(ag:Jd P B main)(c:Ctx)(o:Oper)(R:aE)(H:an)(st:St)(C:aE→an→St→Prop):Prop :=
 ns o.op=false∧cp o.dst c.n ∧
  ((∀ ρ,Knows st ρ→aK P B R H (execOp ρ o) λ nx R' H'=>∃ v,(nx = .value v∨(nx = .skip∧v=undef))∧∃ ab,aH (bR o.dst v st) ab∧C R' H' ab) ∨
   (∃ f args,(∀ ρ,Knows st ρ→aq P (execOp ρ o) (.enter f args))∧ax ag f args R H λ v R' H'=>∃ ab,aH (bR o.dst v st) ab∧C R' H' ab))
def aM(P:Program)(B:Base)(c:Ctx)(o:Oper)(R:aE)(H:an)(st:St)(C:aE→an→St→Prop):Prop :=
 ns o.op=false∧cp o.dst c.n∧∀ ρ,Knows st ρ→aK P B R H (execOp ρ o) λ nx R' H'=>∃ v,(nx = .value v∨(nx = .skip∧v=undef))∧∃ ab,aH (bR o.dst v st) ab∧C R' H' ab
theorem aM.to{o:Oper}{C:aE→an→St→Prop}(h:aM P B c o R H st C):nU ag c o R H st C:=⟨h.1,h.2.1,.inl h.2.2⟩
theorem At.step{ops:Array Oper}{i:Nat}{rest:List Nat}{o:Oper}(ho:ops[i]? = some o)(hw:dz ops st o=some true)(hk:(c.kind == CallKind.early)=false)
  (h:nU ag c o R H st λ R' H' ab=>At ag c R' H' ab (.inRegion ops rest::k)):At ag c R H st (.inRegion ops (i::rest)::k):=by
 obtain ⟨hd,mn,h | ⟨f,args,h1,h2⟩⟩:=h
 ·exact At.op ho hw hd (by simpa using hk) λ ρ aX=>(h ρ aX).mono λ nx R' H' ⟨v,hv,hx⟩=>⟨v,hv,mn,hx⟩
 ·exact At.enters ho hw hd (by simpa using hk) mn h1 h2 λ v R' H' hx=>hx
theorem At.cQ{ops:Array Oper}{i:Nat}{rest:List Nat}{o:Oper}(ho:ops[i]? = some o)(hw:dz ops st o=some true)(hk:(c.kind == CallKind.early)=false)
  (h:aM P B c o R H st λ R' H' ab=>At ag c R' H' ab (.inRegion ops rest::k)):At ag c R H st (.inRegion ops (i::rest)::k):=At.step ho hw hk h.to
theorem At.jo{id n:Nat}{is:List Nat}{ops:Array Oper}(hn:ops.size=n)(nq:List.range n=is)(h:At ag c R H st (.inRegion ops is::k)):At ag c R H st (.code (.region id ops false)::k):=by
 subst hn; subst nq; exact At.region h
def Fp:Nat→List Value→St
 | _,[]=>[]
 | i,v::r=>(i,v)::Fp (i+1) r
theorem Nr:∀ (args:List Value) (i t:Nat) (v:Value),(Fp i args).lookup t=some v→i≤t∧args[t - i]? = some v
 | [],_,_,_,h=>by cases h
 | a::r,i,t,v,h=>by
  simp only [Fp,List.lookup_cons] at h
  split at h
  ·rename_i heq
   cases h
   have:t=i:=by simpa using heq
   subst this
   simp
  ·rename_i heq
   have b7:t≠i:=by simpa using heq
   obtain ⟨h1,h2⟩:=Nr r (i+1) t v h
   refine ⟨by omega,?_⟩
   have:t - i=(t - (i+1))+1:=by omega
   rw [this]
   simpa using h2
theorem ax.aY{f:FuncId}{fn:Func}{body:Code}{args:List Value}{n:Nat}{ck:Value→aE→an→Prop}(hf:P.funcs[f]? = some fn)(hb:fn.body=some body)(Jx:fn.ntmps=n)(hn:Nat.ble args.length n=true)
  (h:∀ fr cs,(∀ v R' H',ck v R' H'→ag.J R' H' (bA (fr.finish v) cs))→At ag ⟨f,.normal,none,n,[],fr::cs⟩ R H (Fp 0 args) [.code body]):ax ag f args.toArray R H ck:=by
 subst Jx
 intro fr cs hk
 have hn:args.length≤fn.ntmps:=by simpa [Nat.ble_eq] using hn
 have:=h fr cs hk (args.toArray++Array.replicate (fn.ntmps - args.length) undef) ⟨by simp; omega,λ t v ht=>?_⟩
 ·have e:Frame.enter P f args.toArray .normal=bq ⟨f,.normal,none,fn.ntmps,[],fr::cs⟩ (args.toArray++Array.replicate (fn.ntmps - args.length) undef) [.code body]:=by
   simp [Frame.enter,bq,hf,hb]
  rw [e]
  exact this
 ·obtain ⟨_,h2⟩:=Nr args 0 t v ht
  have br:t < args.length:=by
   have:=(List.getElem?_eq_some_iff.1 h2).1
   simpa using this
  rw [Array.getElem?_append_left (by simpa using br)]
  simpa using h2
def Lf(st:St):List ResultVar→Option (List Value)
 | []=>some []
 | .tmp t::r=>match st.lookup t,Lf st r with
  | some v,some vs=>some (v::vs)
  | _,_=>none
 | .cell _ _::_=>none
def rQ:List Value→Value
 | [v]=>v
 | vs=>.tuple vs.toArray
theorem ah7{st:St}{tmps:Array Value}{n:Nat}(ht:fU n st tmps):∀ (l:List ResultVar) (vs:List Value),Lf st l=some vs →
  aq P (l.mapM (m:=Sem) λ
   | .tmp t=>pure (tmps.getD t undef)
   | .cell a t=>do loadVar t (← asAddr (tmps.getD a undef))) vs
 | [],vs,h=>by cases h; exact aq.pure _
 | .tmp t::r,vs,h=>by
  simp only [Lf] at h
  cases hl:st.lookup t with
  | none=>simp [hl] at h
  | some v =>
   cases hr:Lf st r with
   | none=>simp [hl,hr] at h
   | some us =>
    simp only [hl,hr,Option.some.injEq] at h
    subst h
    rw [List.mapM_cons]
    refine aq.bind (a:=v) ?_ (aq.bind (ah7 ht r us hr) (aq.pure _))
    have:tmps.getD t undef=v:=by simp [Array.getD_eq_getD_getElem?,ht.2 t v hl]
    show aq P (pure (tmps.getD t undef)) v
    rw [this]; exact aq.pure _
 | .cell _ _::_,_,h=>by cases h
theorem aL4{fn:Func}{st:St}{tmps:Array Value}{n:Nat}{vs:List Value}(ht:fU n st tmps)(h:Lf st fn.results.toList=some vs):aq P (results fn tmps) (rQ vs):=by
 unfold results
 rw [← Array.toArray_toList (xs:=fn.results),List.mapM_toArray]
 refine aq.bind (aq.map (ah7 ht _ _ h)) ?_
 cases vs with
 | nil=>exact aq.pure _
 | cons v r=>cases r with
  | nil=>exact aq.pure _
  | cons _ _=>exact aq.pure _
end
end Go.Lg
namespace Go.Lg
open Go.Conc
theorem pZ(b o n:Nat):(⟨b,o,none⟩:Addr).add n=⟨b,o+n,none⟩:=by
 unfold Addr.add; split
 ·subst_vars; rfl
 ·rfl
def gb(P:Program)(s f off:Nat):Prop:=∀ b o:Nat,aq P (Instr.fieldAt s (.pointer (some ⟨b,o,none⟩)) f) (.pointer (some ⟨b,o+off,none⟩))
def lC(P:Program)(t e n:Nat):Prop:=P.underlying t=some (.slice e)∧aq P (sizeOf e) n
def yY(P:Program)(t len e n:Nat):Prop:=P.underlying t=some (.array len e)∧aq P (sizeOf e) n
def al3(z:Int):Prop:=-9223372036854775808≤z∧z≤9223372036854775807
theorem aNc{z:Int}(h:al3 z):IntKind.wrap .i64 z=z:=by
 obtain ⟨h1,h2⟩:=h
 simp only [IntKind.wrap,IntKind.bits,IntKind.signed]
 simp
 omega
section
variable {P:Program} {B:Base} {main:Bool} {ag:Jd P B main} {c:Ctx} {R:aE} {H:an} {st ab:St} {o:Oper} {C:aE→an→St→Prop}
theorem Ox.val{v:Value}(o8:ns o.op=false)(hd:cp o.dst c.n)
  (hv:∀ ρ,Knows st ρ→aq P (execOp ρ o) (.value v)) (hs:aH (bR o.dst v st) ab) (h:C R H ab):aM P B c o R H st C :=
 ⟨o8,hd,λ ρ aX=>(hv ρ aX).ok ⟨v,.inl rfl,ab,hs,h⟩⟩
theorem Ox.iS{s:(Operand→Value)→Sem Value}{v:Value}(o8:ns o.op=false)(hd:cp o.dst c.n)
  (he:∀ ρ,execOp ρ o=(do let x ← s ρ; pure (.value x))) (hv:∀ ρ,Knows st ρ→aq P (s ρ) v) (hs:aH (bR o.dst v st) ab) (h:C R H ab):aM P B c o R H st C :=
 Ox.val o8 hd (λ ρ aX=>by rw [he]; exact aq.bind (hv ρ aX) (aq.pure _)) hs h
theorem Ox.mem{s:(Operand→Value)→Sem Value}(o8:ns o.op=false)(hd:cp o.dst c.n)
  (he:∀ ρ,execOp ρ o=(do let x ← s ρ; pure (.value x)))
  (hv:∀ ρ,Knows st ρ→aK P B R H (s ρ) λ v R' H'=>∃ ab,aH (bR o.dst v st) ab∧C R' H' ab):aM P B c o R H st C :=
 ⟨o8,hd,λ ρ aX=>by
  rw [he]
  exact aK.bind ((hv ρ aX).mono λ v R' H' ⟨ab,hs,h⟩=>aK.pure ⟨v,.inl rfl,ab,hs,h⟩)⟩
theorem Ox.K5{s:(Operand→Value)→Sem Unit}(o8:ns o.op=false)(hd:o.dst=none)
  (he:∀ ρ,execOp ρ o=(do s ρ; pure .skip)) (hs:aH st ab)
  (hv:∀ ρ,Knows st ρ→aK P B R H (s ρ) λ _ R' H'=>C R' H' ab):aM P B c o R H st C :=
 ⟨o8,by rw [hd]; rfl,λ ρ aX=>by
  rw [he]
  exact aK.bind ((hv ρ aX).mono λ v R' H' h=>aK.pure ⟨undef,.inr ⟨rfl,rfl⟩,ab,by rw [hd]; exact hs,h⟩)⟩
theorem Ox.move{x:Operand}{v:Value}(aJ:o.op = .move x)(hx:bg st x=some v)(hd:cp o.dst c.n)
  (hs:aH (bR o.dst v st) ab) (h:C R H ab):aM P B c o R H st C :=
 Ox.val (by rw [aJ]; rfl) hd (λ ρ aX=>by simp only [execOp,aJ,aX x v hx]; exact aq.pure _) hs h
theorem Ox.assign{x:Operand}{v:Value}(aJ:o.op = .assign x)(hx:bg st x=some v)(hd:cp o.dst c.n)
  (hs:aH (bR o.dst v st) ab) (h:C R H ab):aM P B c o R H st C :=
 Ox.val (by rw [aJ]; rfl) hd (λ ρ aX=>by simp only [execOp,aJ,aX x v hx]; exact aq.pure _) hs h
theorem Ox.aKB{x y z:Operand}{v:Value}(aJ:o.op = .pick x y z)(hx:bg st x=some (.bool true))(hy:bg st y=some v)(hd:cp o.dst c.n)
  (hs:aH (bR o.dst v st) ab) (h:C R H ab):aM P B c o R H st C :=
 Ox.val (by rw [aJ]; rfl) hd (λ ρ aX=>by
  simp only [execOp,aJ,aX x _ hx,aX y v hy,asBool]
  exact aq.bind (aq.pure true) (aq.pure _)) hs h
theorem Ox.aKA{x y z:Operand}{v:Value}(aJ:o.op = .pick x y z)(hx:bg st x=some (.bool false))(hz:bg st z=some v)(hd:cp o.dst c.n)
  (hs:aH (bR o.dst v st) ab) (h:C R H ab):aM P B c o R H st C :=
 Ox.val (by rw [aJ]; rfl) hd (λ ρ aX=>by
  simp only [execOp,aJ,aX x _ hx,aX z v hz,asBool]
  exact aq.bind (aq.pure false) (aq.pure _)) hs h
theorem Ox.fieldAddr{x:Operand}{s f off b n:Nat}(aJ:o.op = .fieldAddr s x f)(hx:bg st x=some (.pointer (some ⟨b,n,none⟩)))(hf:gb P s f off)(hd:cp o.dst c.n)
  (hs:aH (bR o.dst (.pointer (some ⟨b,n+off,none⟩)) st) ab) (h:C R H ab):aM P B c o R H st C :=
 Ox.iS (s:=λ ρ=>Instr.fieldAt s (ρ x) f) (by rw [aJ]; rfl) hd (λ ρ=>by simp only [execOp,aJ]) (λ ρ aX=>by rw [aX x _ hx]; exact hf b n) hs h
theorem aaS{t e n b m len cap:Nat}{kd:IntKind}{j:Nat}(ht:lC P t e n)(hj:j < len) :
  aq P (Instr.indexAt t (.slice (some ⟨b,m,none⟩) len cap) (.int kd (j:Int))) (.pointer (some ⟨b,m+j * n,none⟩)):=by
 unfold Instr.indexAt
 refine aq.bind (a:=(kd,(j:Int))) (aq.pure _) (aq.bind (aq.underlying ht.1) (aq.bind (a:=(some (⟨b,m,none⟩:Addr),len,e)) (aq.pure _) (aq.bind (aq.underlying ht.1) ?_)))
 have h1:(0:Int)≤(j:Int)∧(j:Int) < (len:Int):=by omega
 simp only [h1,and_self,if_true,Int.toNat_natCast]
 refine aq.bind ht.2 ?_
 rw [pZ]
 exact aq.pure _
theorem aL3{t e n b m len:Nat}{kd:IntKind}{j:Nat}(ht:yY P t len e n)(hj:j < len) :
  aq P (Instr.indexAt t (.pointer (some ⟨b,m,none⟩)) (.int kd (j:Int))) (.pointer (some ⟨b,m+j * n,none⟩)):=by
 unfold Instr.indexAt
 refine aq.bind (a:=(kd,(j:Int))) (aq.pure _) (aq.bind (aq.underlying ht.1) (aq.bind (a:=(⟨b,m,none⟩:Addr)) (aq.pure _) (aq.bind (a:=(some (⟨b,m,none⟩:Addr),len,e)) (aq.pure _) (aq.bind (aq.underlying ht.1) ?_))))
 have h1:(0:Int)≤(j:Int)∧(j:Int) < (len:Int):=by omega
 simp only [h1,and_self,if_true,Int.toNat_natCast]
 refine aq.bind ht.2 ?_
 rw [pZ]
 exact aq.pure _
theorem Ed(op:BinOp)(t:TypeId)(x y:Operand)(ka kb:IntKind)(a b:Int):aq P (eqGuard op t x y (.int ka a) (.int kb b)) ():=by
 unfold eqGuard
 cases op <;> exact aq.pure _
def TX:BinOp→Int→Int→Option Bool
 | .eql,x,y=>some (x == y)
 | .neq,x,y=>some (x != y)
 | .lss,x,y=>some (decide (x < y))
 | .leq,x,y=>some (decide (x≤y))
 | .gtr,x,y=>some (decide (x > y))
 | .geq,x,y=>some (decide (x ≥ y))
 | _,_,_=>none
theorem Ox.cmp{x y:Operand}{bo:BinOp}{t u:TypeId}{a b:Int}{kd:IntKind}{r:Bool}(aJ:o.op = .binOp bo t x y u)(hx:bg st x=some (.int kd a))(hy:bg st y=some (.int kd b))(hr:TX bo a b=some r)
  (hd:cp o.dst c.n) (hs:aH (bR o.dst (.bool r) st) ab) (h:C R H ab):aM P B c o R H st C :=
 Ox.iS (s:=λ ρ=>do eqGuard bo t x y (ρ x) (ρ y); binOp bo t (ρ x) (ρ y)) (by rw [aJ]; rfl) hd (λ ρ=>by simp only [execOp,aJ]) (λ ρ aX=>by
  rw [aX x _ hx,aX y _ hy]
  refine aq.bind (Ed _ _ _ _ _ _ _ _) ?_
  cases bo <;> simp only [TX,Option.some.injEq,reduceCtorEq] at hr <;> subst hr <;> simp only [binOp,ne_eq,not_true_eq_false,if_false] <;> exact aq.pure _) hs h
def TA:BinOp→Int→Int→Option Int
 | .add,x,y=>some (x+y)
 | .sub,x,y=>some (x - y)
 | .mul,x,y=>some (x * y)
 | _,_,_=>none
theorem Ox.not{x:Operand}{t:TypeId}{a:Bool}(aJ:o.op = .unOp .not t x)(hx:bg st x=some (.bool a))
  (hd:cp o.dst c.n) (hs:aH (bR o.dst (.bool (!a)) st) ab) (h:C R H ab):aM P B c o R H st C :=
 Ox.iS (s:=λ ρ=>Op.unary .not (ρ x)) (by rw [aJ]; rfl) hd (λ ρ=>by simp only [execOp,aJ]) (λ ρ aX=>by rw [aX x _ hx]; exact aq.pure _) hs h
theorem Ox.extract{x:Operand}{j:Nat}{vs:Array Value}{v:Value}(aJ:o.op = .extract x j)(hx:bg st x=some (.tuple vs))(hj:vs[j]? = some v)
  (hd:cp o.dst c.n) (hs:aH (bR o.dst v st) ab) (h:C R H ab):aM P B c o R H st C :=
 Ox.iS (s:=λ ρ=>Instr.extract (ρ x) j) (by rw [aJ]; rfl) hd (λ ρ=>by simp only [execOp,aJ]) (λ ρ aX=>by
  rw [aX x _ hx]
  simp only [Instr.extract,hj]; exact aq.pure _) hs h
theorem Ox.makeFunc{fn:Fn}{first captured:Array Operand}{vs us:Array Value}(aJ:o.op = .makeFunc fn first captured)(h1:first.toList.mapM (bg st)=some vs.toList)(h2:captured.toList.mapM (bg st)=some us.toList)
  (hd:cp o.dst c.n) (hs:aH (bR o.dst (.func fn vs us) st) ab) (h:C R H ab):aM P B c o R H st C :=
 Ox.iS (s:=λ ρ=>Instr.makeFunc fn (first.map ρ) (captured.map ρ)) (by rw [aJ]; rfl) hd (λ ρ=>by simp only [execOp,aJ]) (λ ρ aX=>by
  have key:∀ (l:List Operand) (r:List Value),l.mapM (bg st)=some r→l.map ρ=r:=by
   intro l
   induction l with
   | nil=>intro r hr; simpa using hr
   | cons a l ih =>
    intro r hr
    rw [List.mapM_cons] at hr
    cases ha:bg st a with
    | none=>simp [ha] at hr
    | some u =>
     cases hl:l.mapM (bg st) with
     | none=>simp [ha,hl] at hr
     | some us =>
      simp [ha,hl] at hr
      subst hr
      simp [aX a u ha,ih us hl]
  have e1:first.map ρ=vs:=by apply Array.ext'; simpa using key _ _ h1
  have e2:captured.map ρ=us:=by apply Array.ext'; simpa using key _ _ h2
  rw [e1,e2]
  exact aq.pure _) hs h
theorem Ox.len{x:Operand}{t e:TypeId}{a:Option Addr}{n cap:Nat}(aJ:o.op = .call ⟨.builtin .len,#[x],#[t]⟩)(hx:bg st x=some (.slice a n cap))(ht:P.underlying t=some (.slice e))
  (hd:cp o.dst c.n) (hs:aH (bR o.dst (.int .i64 (n:Int)) st) ab) (h:C R H ab):aM P B c o R H st C :=
 Ox.val (by rw [aJ]; rfl) hd (λ ρ aX=>by
  simp only [execOp,aJ]
  refine aq.bind (a:=⟨.builtin .len #[t] o.type (#[x].map λ | .const _=>true | _=>false),#[x].map ρ⟩) (aq.pure _) ?_
  simp only [invoke,builtin]
  refine aq.bind (a:=.int .i64 (n:Int)) ?_ (aq.pure _)
  have e:(#[x].map ρ)=#[.slice a n cap]:=by simp [aX x _ hx]
  rw [e]
  exact aq.bind (aq.underlying ht) (aq.pure _)) hs h
theorem Ox.KN{x:Operand}{t:TypeId}{s:ByteArray}(aJ:o.op = .call ⟨.builtin .len,#[x],#[t]⟩)(hx:bg st x=some (.string s))(ht:P.underlying t=some .string)
  (hd:cp o.dst c.n) (hs:aH (bR o.dst (.int .i64 (s.size:Int)) st) ab) (h:C R H ab):aM P B c o R H st C :=
 Ox.val (by rw [aJ]; rfl) hd (λ ρ aX=>by
  simp only [execOp,aJ]
  refine aq.bind (a:=⟨.builtin .len #[t] o.type (#[x].map λ | .const _=>true | _=>false),#[x].map ρ⟩) (aq.pure _) ?_
  simp only [invoke,builtin]
  refine aq.bind (a:=.int .i64 (s.size:Int)) ?_ (aq.pure _)
  have e:(#[x].map ρ)=#[.string s]:=by simp [aX x _ hx]
  rw [e]
  exact aq.bind (aq.underlying ht) (aq.pure _)) hs h
theorem aaR{f:FuncId}{fn:Func}{args:Array Value}(hf:P.funcs[f]? = some fn)(hn:(fn.name == "runtime.NumGoroutine")=false)(hb:fn.body.isNone=false):aq P (callFunc f args) (.enter f args):=by
 unfold callFunc
 refine aq.bind aq.program ?_
 simp only [hf,hn,hb]
 exact aq.pure _
structure aV (P:Program) (f:FuncId):Prop where
 ex:∃ fn,P.funcs[f]? = some fn∧(fn.name == "runtime.NumGoroutine")=false∧fn.body.isNone=false
def sB(st:St):List Operand→Option (List Value)
 | []=>some []
 | x::r=>match bg st x,sB st r with
  | some v,some vs=>some (v::vs)
  | _,_=>none
theorem IP{st:St}{ρ:Operand→Value}(aX:Knows st ρ):∀ (l:List Operand) (r:List Value),sB st l=some r→l.map ρ=r
 | [],r,h=>by cases h; rfl
 | x::l,r,h=>by
  simp only [sB] at h
  cases hx:bg st x with
  | none=>simp [hx] at h
  | some v =>
   cases hl:sB st l with
   | none=>simp [hx,hl] at h
   | some vs =>
    simp [hx,hl] at h
    subst h
    simp [aX x v hx,IP aX l vs hl]
theorem Ox.cN{ca:Call}{x:Operand}{f:FuncId}{first captured:Array Value}{vs:List Value}{args:Array Value}
  (aJ:o.op = .call ca) (hc:ca.callee = .value x) (hx:bg st x=some (.func (.func f) first captured)) (ha:sB st ca.args.toList=some vs) (he:aV P f) (H5:first++vs.toArray++captured=args)
  (hd:cp o.dst c.n) (hf:ax ag f args R H λ v R' H'=>∃ ab,aH (bR o.dst v st) ab∧C R' H' ab):nU ag c o R H st C :=
 ⟨by rw [aJ]; rfl,hd,.inr ⟨f,args,λ ρ aX=>by
  obtain ⟨fn,h1,h2,h3⟩:=he.ex
  simp only [execOp,aJ,resolve,hc,aX x _ hx,Deferred.ofValue]
  have e:ca.args.map ρ=vs.toArray:=by apply Array.ext'; simpa using IP aX _ _ ha
  refine aq.bind (a:=⟨.fn (.func f) captured,first++vs.toArray⟩) (by rw [e]; exact aq.pure _) ?_
  simp only [invoke,H5]
  exact aaR h1 h2 h3,hf⟩⟩
end
end Go.Lg
namespace Go.Lg
open Go.Conc
def gH(P:Program)(t:TypeId)(cs:Array Value):Prop:=∃ z,aq P (zeroValue t) z∧z.cells=cs
def gG(P:Program)(t:TypeId):Prop:=aq P (isAgg t) false∧aq P (sizeOf t) 1
def kS(P:Program)(t:TypeId)(n:Nat):Prop:=aq P (isAgg t) true∧aq P (sizeOf t) n
def aR(R:aE)(H:an)(b o:Nat)(vs:List Value):Prop:=∀ j v,vs[j]? = some v→Cell R H ⟨b,o+j,none⟩ v
theorem aR.known{R:aE}{H:an}{b o n:Nat}{cs:Array Value}{e:TypeId}{fz:Nat × Nat}{vs:List Value}(hm:R b=some (Obj.cells cs e fz))(hv:(cs.toList.drop o).take n=vs):aR R H b o vs:=by
 intro j v hj
 refine ⟨rfl,cs,e,fz,.inl hm,?_⟩
 subst hv
 rw [List.getElem?_take] at hj
 split at hj
 ·rw [List.getElem?_drop] at hj
  simpa using hj
 ·cases hj
def fb(cs:Array Value):Nat→List Value→Array Value
 | _,[]=>cs
 | o,v::r=>fb (cs.setIfInBounds o v) (o+1) r
theorem Ld:∀ (vs:List Value) (cs:Array Value) (o:Nat),(fb cs o vs).size=cs.size
 | [],_,_=>rfl
 | v::r,cs,o=>by simp only [fb]; rw [Ld r]; simp
theorem dS.mid{H H1 H':an}{b:Nat}{o o' o'':Obj}(h:dS H b o o' H1)(k:dS H b o o'' H')(hn:(H.map (·.1)).Nodup):dS H1 b o' o'' H':=by
 induction h generalizing H' with
 | @here b o o' H =>
  cases k with
  | here=>exact .here
  | there k =>
   rw [List.map_cons,List.nodup_cons] at hn
   exact absurd (List.mem_map.2 ⟨_,k.mem,rfl⟩) hn.1
 | @there b o o' p H H1 hs ih =>
  cases k with
  | here =>
   rw [List.map_cons,List.nodup_cons] at hn
   exact absurd (List.mem_map.2 ⟨_,hs.mem,rfl⟩) hn.1
  | there k =>
   rw [List.map_cons,List.nodup_cons] at hn
   exact .there (ih k hn.2)
section
variable {P:Program} {B:Base} {main:Bool} {ag:Jd P B main} {c:Ctx} {R:aE} {H H':an} {st ab:St} {o:Oper} {C:aE→an→St→Prop}
theorem aK.Li{b:Nat}{e:TypeId}{K:Unit→aE→an→Prop}:∀ (vs:List Value) (cs:Array Value) (off i:Nat) (H H':an),(∀ v∈vs,v.oneCell'=true)→off+i+vs.length≤cs.size →
  dS H b (.cells cs e (0,0)) (.cells (fb cs (off+i) vs) e (0,0)) H'→(H.map (·.1)).Nodup→K () R H'→aK P B R H (storeCells ⟨b,off,none⟩ vs i) K
 | [],cs,off,i,H,H',_,_,hs,hn,hk=>by
  have e1:H'=H:=by
   have:∀ {H H':an} {o:Obj},dS H b o o H'→H'=H:=by
    intro H H' o h
    induction H generalizing H' with
    | nil=>cases h
    | cons p r ih =>
     cases h with
     | here=>rfl
     | there h=>rw [ih h]
   exact this hs
  subst e1
  simp only [storeCells]
  exact aK.pure hk
 | v::r,cs,off,i,H,H',h1,hl,hs,hn,hk=>by
  simp only [storeCells]
  simp only [List.length_cons] at hl
  have hex:∀ (H:an) (o o':Obj),(b,o)∈H→∃ H1,dS H b o o' H1:=by
   intro H o o' hm
   induction H with
   | nil=>cases hm
   | cons p r ih =>
    rcases List.mem_cons.1 hm with rfl | hm
    ·exact ⟨_,.here⟩
    ·obtain ⟨H1,h1⟩:=ih hm
     exact ⟨_,.there h1⟩
  obtain ⟨H1,vi⟩:=hex H _ (.cells (cs.setIfInBounds (off+i) v) e (0,0)) hs.mem
  have WN:dS H1 b (.cells (cs.setIfInBounds (off+i) v) e (0,0)) (.cells (fb cs (off+i) (v::r)) e (0,0)) H':=dS.mid vi hs hn
  refine aK.bind ?_
  rw [pZ]
  refine aK.store (h1 v (by simp)) rfl (by show off+i < cs.size; omega) vi ?_
  exact aK.Li r (cs.setIfInBounds (off+i) v) off (i+1) H1 H' (λ u hu=>h1 u (by simp [hu])) (by simp; omega) (by simpa [fb,Nat.add_assoc] using WN) (by rw [vi.keys]; exact hn) hk
theorem aK.given{α:Type}{s:Sem α}{K:α→aE→an→Prop}(h:(H.map (·.1)).Nodup→aK P B R H s K):aK P B R H s K:=λ w hw=>h hw.nd w hw
theorem aK.storeVar{t:TypeId}{b off n:Nat}{e:TypeId}{v:Value}{cs:Array Value}{K:Unit→aE→an→Prop}(hn:aq P (sizeOf t) n)(hvn:v.cells.size=n)(h1:∀ u∈v.cells.toList,u.oneCell'=true)(hl:off+n≤cs.size)
  (hs:dS H b (.cells cs e (0,0)) (.cells (fb cs off v.cells.toList) e (0,0)) H') (hk:K () R H'):aK P B R H (storeVar t ⟨b,off,none⟩ v) K:=by
 refine aK.given λ cP=>?_
 unfold Go.storeVar
 refine aq.cG hn ?_
 simp only [hvn,ne_eq,not_true_eq_false,if_false]
 exact aK.Li _ cs off 0 H H' h1 (by simp [hvn]; exact hl) (by simpa using hs) cP hk
theorem aK.loadCellsFrom{b off:Nat}{K:Array Value→aE→an→Prop}:∀ (vs:List Value) (i:Nat) (acc:Array Value),aR R H b (off+i) vs→K (acc++vs.toArray) R H→aK P B R H (loadCellsFrom ⟨b,off,none⟩ i vs.length acc) K
 | [],i,acc,_,hk=>by
  simp only [List.length_nil,Go.loadCellsFrom]
  exact aK.pure (by simpa using hk)
 | v::r,i,acc,hc,hk=>by
  simp only [List.length_cons,Go.loadCellsFrom]
  refine aK.bind ?_
  rw [pZ]
  refine aK.load (v:=v) (by simpa using hc 0 v rfl) ?_
  refine aK.loadCellsFrom r (i+1) (acc.push v) (λ j u hj=>?_) (by simpa using hk)
  have:=hc (j+1) u (by simpa using hj)
  simpa [Nat.add_assoc,Nat.add_comm,Nat.add_left_comm] using this
theorem Ox.bl{x:Operand}{t:TypeId}{b off:Nat}{v:Value}(aJ:o.op = .load t x)(hx:bg st x=some (.pointer (some ⟨b,off,none⟩)))(ht:gG P t)(hc:Cell R H ⟨b,off,none⟩ v)
  (hd:cp o.dst c.n) (hs:aH (bR o.dst v st) ab) (h:C R H ab):aM P B c o R H st C :=
 Ox.mem (s:=λ ρ=>Instr.loadAt t (ρ x)) (by rw [aJ]; rfl) hd (λ ρ=>by simp only [execOp,aJ]) (λ ρ aX=>by
  rw [aX x _ hx]
  simp only [Instr.loadAt,Instr.sureAddr,loadVar]
  refine aq.cG (aq.pure _) (aq.cG ht.1 ?_)
  exact aK.load hc ⟨ab,hs,h⟩)
theorem Ox.bL{x:Operand}{t:TypeId}{b off n:Nat}{vs:List Value}(aJ:o.op = .load t x)(hx:bg st x=some (.pointer (some ⟨b,off,none⟩)))(ht:kS P t n)(hn:vs.length=n)(hc:aR R H b off vs)
  (hd:cp o.dst c.n) (hs:aH (bR o.dst (.agg vs.toArray) st) ab) (h:C R H ab):aM P B c o R H st C :=
 Ox.mem (s:=λ ρ=>Instr.loadAt t (ρ x)) (by rw [aJ]; rfl) hd (λ ρ=>by simp only [execOp,aJ]) (λ ρ aX=>by
  rw [aX x _ hx]
  simp only [Instr.loadAt,Instr.sureAddr,loadVar]
  refine aq.cG (aq.pure _) (aq.cG ht.1 ?_)
  simp only [if_true]
  refine aq.cG ht.2 (aK.bind ?_)
  subst hn
  exact aK.loadCellsFrom vs 0 #[] (by simpa using hc) (aK.pure ⟨ab,by simpa using hs,h⟩))
theorem Ox.dX{x y:Operand}{t e:TypeId}{b off:Nat}{v:Value}{cs cs':Array Value}(aJ:o.op = .store t x y)(hx:bg st x=some (.pointer (some ⟨b,off,none⟩)))(hy:bg st y=some v)(ht:gG P t)(hv:v.oneCell'=true)(hs:dS H b (.cells cs e (0,0)) (.cells cs' e (0,0)) H')(hl:Nat.blt off cs.size=true)(o7:cs.setIfInBounds off v=cs')
  (hd:o.dst=none) (yP:aH st ab) (h:C R H' ab):aM P B c o R H st C :=
 Ox.K5 (s:=λ ρ=>Instr.storeAt t (ρ x) (ρ y)) (by rw [aJ]; rfl) hd (λ ρ=>by simp only [execOp,aJ]) yP (λ ρ aX=>by
  rw [aX x _ hx,aX y _ hy]
  simp only [Instr.storeAt,Instr.sureAddr]
  refine aq.cG (aq.pure _) ?_
  have Yf:v.cells=#[v]:=by cases v <;> first | rfl | (simp [Value.oneCell'] at hv)
  refine aK.storeVar (cs:=cs) (e:=e) ht.2 (by rw [Yf]; rfl) (by rw [Yf]; simpa using hv) (Nat.le_of_ble_eq_true hl) ?_ h
  rw [Yf]
  simpa [fb,o7] using hs)
theorem Ox.da{x y:Operand}{t e:TypeId}{b off n:Nat}{vs:Array Value}{cs cs':Array Value}(aJ:o.op = .store t x y)(hx:bg st x=some (.pointer (some ⟨b,off,none⟩)))(hy:bg st y=some (.agg vs))(ht:kS P t n)(hn:vs.size=n)(h1:∀ u∈vs.toList,u.oneCell'=true)(hs:dS H b (.cells cs e (0,0)) (.cells cs' e (0,0)) H')(hl:Nat.ble (off+n) cs.size=true)(o7:fb cs off vs.toList=cs')
  (hd:o.dst=none) (yP:aH st ab) (h:C R H' ab):aM P B c o R H st C :=
 Ox.K5 (s:=λ ρ=>Instr.storeAt t (ρ x) (ρ y)) (by rw [aJ]; rfl) hd (λ ρ=>by simp only [execOp,aJ]) yP (λ ρ aX=>by
  rw [aX x _ hx,aX y _ hy]
  simp only [Instr.storeAt,Instr.sureAddr]
  refine aq.cG (aq.pure _) ?_
  exact aK.storeVar (cs:=cs) (e:=e) ht.2 hn h1 (Nat.le_of_ble_eq_true hl) (by simpa [Value.cells,o7] using hs) h)
theorem Ox.wT{x:Operand}{t:TypeId}{v:Value}(aJ:o.op = .box t x)(hx:bg st x=some v)(hv:v.cells=#[v])(hd:cp o.dst c.n)
  (h:∀ b,R b=none→(∀ x,(b,x) ∉ H)→∃ ab,aH (bR o.dst (.pointer (some ⟨b,0,none⟩)) st) ab∧C R ((b,.cells #[v] t)::H) ab):aM P B c o R H st C :=
 Ox.mem (s:=λ ρ=>Instr.box t (ρ x)) (by rw [aJ]; rfl) hd (λ ρ=>by simp only [execOp,aJ]) (λ ρ aX=>by
  rw [aX x _ hx]
  simp only [Instr.box,newVar,newRow,hv]
  exact aK.bind (aK.bind (aK.new λ b h1 h2=>aK.pure (aK.pure (h b h1 h2)))))
theorem Ox.adD{x:Operand}{t:TypeId}{vs:Array Value}(aJ:o.op = .box t x)(hx:bg st x=some (.agg vs))(hd:cp o.dst c.n)
  (h:∀ b,R b=none→(∀ x,(b,x) ∉ H)→∃ ab,aH (bR o.dst (.pointer (some ⟨b,0,none⟩)) st) ab∧C R ((b,.cells vs t)::H) ab):aM P B c o R H st C :=
 Ox.mem (s:=λ ρ=>Instr.box t (ρ x)) (by rw [aJ]; rfl) hd (λ ρ=>by simp only [execOp,aJ]) (λ ρ aX=>by
  rw [aX x _ hx]
  simp only [Instr.box,newVar,newRow,Value.cells]
  exact aK.bind (aK.bind (aK.new λ b h1 h2=>aK.pure (aK.pure (h b h1 h2)))))
theorem Ox.alloc{t:TypeId}{cs:Array Value}(aJ:o.op = .alloc t)(ht:gH P t cs)(hd:cp o.dst c.n)
  (h:∀ b,R b=none→(∀ x,(b,x) ∉ H)→∃ ab,aH (bR o.dst (.pointer (some ⟨b,0,none⟩)) st) ab∧C R ((b,.cells cs t)::H) ab):aM P B c o R H st C :=
 Ox.mem (s:=λ _=>Instr.alloc t true (.tuple #[])) (by rw [aJ]; rfl) hd (λ ρ=>by simp only [execOp,aJ]) (λ ρ aX=>by
  obtain ⟨z,hz,rfl⟩:=ht
  simp only [Instr.alloc,newVar,newRow]
  exact aq.cG hz (aK.bind (aK.bind (aK.new λ b h1 h2=>aK.pure (aK.pure (h b h1 h2))))))
def Au(st:St):List (Nat × Operand)→Option (List (Nat × Value))
 | []=>some []
 | (j,x)::r=>match bg st x,Au st r with
  | some v,some vs=>some ((j,v)::vs)
  | _,_=>none
theorem aaf{ρ:Operand→Value}(aX:Knows st ρ):∀ (l:List (Nat × Operand)) (r:List (Nat × Value)),Au st l=some r→l.map (λ (j,x)=>(j,ρ x))=r
 | [],r,h=>by cases h; rfl
 | (j,x)::l,r,h=>by
  simp only [Au] at h
  cases hx:bg st x with
  | none=>simp [hx] at h
  | some v =>
   cases hl:Au st l with
   | none=>simp [hx,hl] at h
   | some vs =>
    simp [hx,hl] at h
    subst h
    simp [aX x v hx,aaf aX l vs hl]
def pY(P:Program)(t:TypeId)(places:List (Nat × Nat))(z:Array Value):Prop :=
 gH P t z∧∃ fs:Array Field,P.underlying t=some (.struct fs)∧aq P (fs.mapM λ f=>do pure (f.offset,← sizeOf f.type)) places.toArray
theorem Ox.build{t:TypeId}{parts:Array (Nat × Operand)}{ps:List (Nat × Value)}{places:List (Nat × Nat)}{z cells:Array Value}(aJ:o.op = .build t parts)(ht:pY P t places z)(hp:Au st parts.toList=some ps)(hf:Instr.fill (places.toArray[·]?) z ps=some cells)
  (hd:cp o.dst c.n) (hs:aH (bR o.dst (.agg cells) st) ab) (h:C R H ab):aM P B c o R H st C :=
 Ox.iS (s:=λ ρ=>Instr.build t (parts.map λ (j,x)=>(j,ρ x))) (by rw [aJ]; rfl) hd (λ ρ=>by simp only [execOp,aJ]) (λ ρ aX=>by
  obtain ⟨⟨z0,hz,rfl⟩,fs,h1,h2⟩:=ht
  have e:(parts.map λ (j,x)=>(j,ρ x))=ps.toArray:=by apply Array.ext'; simpa using aaf aX _ _ hp
  rw [e]
  unfold Instr.build
  refine aq.bind hz (aq.bind (aq.underlying h1) (aq.bind h2 ?_))
  simp only [hf]
  exact aq.pure _) hs h
def y3(P:Program)(t e n:Nat)(z:Array Value):Prop:=P.underlying t=some (.slice e)∧aq P (sizeOf e) n∧gH P e z∧z.size=n∧0 < n
theorem Ox.buildSlice{t e n len:Nat}{parts:Array (Nat × Operand)}{ps:List (Nat × Value)}{z base cells:Array Value}(aJ:o.op = .buildSlice t len parts)(ht:y3 P t e n z)(hp:Au st parts.toList=some ps)(hlen:len * n≤16777216)
  (hb:(Array.range (len * n)).map (z[· % z.size]!)=base) (hf:Instr.fill (λ j=>some (j * n,n)) base ps=some cells) (hd:cp o.dst c.n)
  (h:∀ b,R b=none→(∀ x,(b,x) ∉ H)→∃ ab,aH (bR o.dst (.slice (some ⟨b,0,none⟩) len len) st) ab∧C R ((b,.cells cells e)::H) ab):aM P B c o R H st C :=
 Ox.mem (s:=λ ρ=>Instr.buildSlice t len (parts.map λ (j,x)=>(j,ρ x))) (by rw [aJ]; rfl) hd (λ ρ=>by simp only [execOp,aJ]) (λ ρ aX=>by
  subst hb
  obtain ⟨h1,h2,⟨z0,hz,rfl⟩,h3,h4⟩:=ht
  have ep:(parts.map λ (j,x)=>(j,ρ x))=ps.toArray:=by apply Array.ext'; simpa using aaf aX _ _ hp
  rw [ep]
  unfold Instr.buildSlice
  refine aq.cG (aq.underlying h1) (aq.cG h2 ?_)
  have hl:¬ (len * n > 2 ^ 24):=by omega
  simp only [hl,if_false]
  have last:aK P B R H (do let a ← newRow e cells; pure (.slice (some a) len len)) λ v R' H'=>∃ ab,aH (bR o.dst v st) ab∧C R' H' ab:=by
   simp only [newRow]
   exact aK.bind (aK.bind (aK.new λ b h1 h2=>aK.pure (aK.pure (h b h1 h2))))
  by_cases h0:len * n=0
  ·simp only [h0,if_true]
   refine aq.cG (aq.pure _) ?_
   have hr:∀ f:Nat→Value,(Array.range 0).map f=#[]:=λ f=>by simp [Array.range]
   simp only [h0,hr] at hf ⊢
   simp only [hf]
   exact last
  ·simp only [h0,if_false]
   refine aq.cG hz (aq.cG (aq.pure _) ?_)
   simp only [hf]
   exact last)
end
end Go.Lg
namespace Go.Lg
open Go.Conc
def aN(R R':aE):Prop:=∀ b o,R b=some o→R' b=some o
theorem aN.refl(R:aE):aN R R:=λ _ _ h=>h
theorem aN.trans{R R' bY:aE}(h:aN R R')(k:aN R' bY):aN R bY:=λ b o x=>k b o (h b o x)
section
variable {P:Program} {B:Base} {main:Bool} (ag:Jd P B main)
def BL(c:Ctx)(S:an)(ops:Array Oper)(i:Nat)(tmps:Array Value)(R:aE)(H:an)(K:Array Value→aE→an→Prop):Prop :=
 ∃ o,ops[i]? = some o∧ns o.op=false ∧
  ((Region.wanted o (yielded ops tmps)=false∧K (fq o.dst undef tmps) R H) ∨
   (Region.wanted o (yielded ops tmps)=true ∧
   ((aK P B R H (execOp (bq c tmps []).eval o) λ nx R' H'=>∃ v,(nx = .value v∨(nx = .skip∧v=undef))∧aN R R'∧(∀ p∈S,p∈H→p∈H')∧K (fq o.dst v tmps) R' H') ∨
    (∃ f args,aq P (execOp (bq c tmps []).eval o) (.enter f args)∧ax ag f args R H λ v R' H'=>aN R R'∧(∀ p∈S,p∈H→p∈H')∧K (fq o.dst v tmps) R' H'))))
theorem J.given{R:aE}{H:an}{g:Goroutine}(hs:g.status = .running)(h:(∃ w,Fits B R H w)→ag.J R H g):ag.J R H g:=by
 by_cases hw:∃ w,Fits B R H w
 ·exact h hw
 ·exact ag.step hs λ w hf=>absurd ⟨w,hf⟩ hw
def mG(ops:Array Oper)(rem:List Nat)(i:Nat):Bool:=match ops[i]? with
 | some o=>o.after.all λ e=>!Region.binds .any e || !rem.contains e.on
 | none=>false
def zg(c:Ctx)(S:Nat→an)(ops:Array Oper)(Q:Array Value→aE→an→Prop):Nat→List Nat→Array Value→aE→an→Prop
 | 0,rem,t,R,H=>rem=[]∧Q t R H
 | n+1,rem,t,R,H=>(rem=[]∧Q t R H)∨(rem≠[]∧((∃ w,Fits B R H w)→∀ i∈rem,mG ops rem i=true→BL ag c (S i) ops i t R H λ t' R' H'=>zg c S ops Q n (rem.erase i) t' R' H'))
variable {ag}
def backward(ops:Array Oper):Bool:=(List.range ops.size).all λ i=>match ops[i]? with
 | some o=>o.after.all λ e=>!Region.binds .any e || decide (e.on < i)
 | none=>true
theorem aer(c:Ctx)(tmps:Array Value)(todo:List Item):(bq c tmps todo).eval=(bq c tmps []).eval:=by
 funext x; cases x <;> rfl
theorem am7{c:Ctx}{S:an}{ops:Array Oper}{i:Nat}{rest:List Nat}{k:List Item}{tmps:Array Value}{R:aE}{H:an}{K:Array Value→aE→an→Prop}(hk:(c.kind == CallKind.early)=false)(h:BL ag c S ops i tmps R H K)
  (hK:∀ t R' H',K t R' H'→ag.J R' H' (bA (bq c t (.inRegion ops rest::k)) c.cs)):ag.J R H (bA (bq c tmps (.inRegion ops (i::rest)::k)) c.cs):=by
 obtain ⟨o,ho,hd,h⟩:=h
 have Ju:(bq c tmps (.inRegion ops (i::rest)::k)).kind ≠ .early:=by show c.kind≠_; simpa using hk
 rcases h with ⟨h1,h2⟩ | ⟨h1,h2 | ⟨f,args,h2,h3⟩⟩
 ·exact Jd.ctl rfl (λ w=>ahT ho h1) (hK _ _ _ h2)
 ·refine ag.step rfl λ w oh=>?_
  obtain ⟨nx,w',R',H',e1,e2,e3,v,hv,_,_,hKK⟩:=h2 w oh
  refine ⟨bA (bq c (fq o.dst v tmps) (.inRegion ops rest::k)) c.cs,w',seen P c.fn ((execOp (bq c tmps []).eval o).events P w #[]),R',H',?_,λ e he=>e2 e (mem_seen he),e3,hK _ _ _ hKK⟩
  rw [xX ho h1 hd,← uY (rest:=rest) (k:=k) (c:=c) (tmps:=tmps) (v:=v) ho,aer]
  rcases hv with rfl | ⟨rfl,rfl⟩
  ·exact Tz Ju e1
  ·exact Ty Ju e1
 ·refine ag.step rfl λ w oh=>?_
  have hv:=h2 w
  refine ⟨bA (Frame.enter P f args .normal) (bq c tmps (.inRegion ops (i::rest)::k)::c.cs),w,seen P c.fn ((execOp (bq c tmps []).eval o).events P w #[]),R,H,?_,?_,dU.refl oh,h3 _ _ λ v R' H' hp=>?_⟩
  ·rw [xX ho h1 hd,aer]
   exact adv rfl Ju hv.1
  ·intro e Jq
   have:=mem_seen Jq
   rw [hv.2] at this
   simp at this
  ·rw [uY ho]
   exact hK _ _ _ hp.2.2
def Ih(ops:Array Oper)(listed:Array Bool)(rem:List Nat):Prop:=listed.size=ops.size∧rem.Nodup∧(∀ i,i∈rem↔(i < ops.size∧listed.getD i true=false))
theorem arE{listed:Array Bool}{i j:Nat}{d:Bool}(hi:i < listed.size):(listed.setIfInBounds i true).getD j d=if i=j then true else listed.getD j d:=by
 simp only [Array.getD_eq_getD_getElem?]
 by_cases h:i=j
 ·subst h; simp [hi]
 ·rw [if_neg h,Array.getElem?_setIfInBounds_ne h]
theorem Ih.erase{ops:Array Oper}{listed:Array Bool}{rem:List Nat}(h:Ih ops listed rem){i:Nat}(hi:i∈rem):Ih ops (listed.setIfInBounds i true) (rem.erase i):=by
 obtain ⟨h1,h2,h3⟩:=h
 have br:i < listed.size:=by rw [h1]; exact ((h3 i).1 hi).1
 refine ⟨by simp [h1],h2.erase _,λ j=>?_⟩
 rw [h2.mem_erase_iff,h3 j,arE br]
 by_cases e:i=j
 ·subst e; simp
 ·simp [e,Ne.symm e]
theorem agw:∀ (l:List Nat),l≠[]→∃ m∈l,∀ x∈l,m≤x
 | [],h=>absurd rfl h
 | [a],_=>⟨a,by simp,by simp⟩
 | a::b::r,_=>by
  obtain ⟨m,hm,hl⟩:=agw (b::r) (by simp)
  by_cases h:a≤m
  ·exact ⟨a,by simp,λ x hx=>by
    rcases List.mem_cons.1 hx with rfl | hx
    ·exact Nat.le_refl _
    ·exact Nat.le_trans h (hl x hx)⟩
  ·exact ⟨m,List.mem_cons_of_mem _ hm,λ x hx=>by
    rcases List.mem_cons.1 hx with rfl | hx
    ·omega
    ·exact hl x hx⟩
theorem acS{c:Ctx}{S:Nat→an}{ops:Array Oper}{k:List Item}{Q:Array Value→aE→an→Prop}(hk:(c.kind == CallKind.early)=false)(hb:backward ops=true)
  (hQ:∀ t R H,Q t R H→ag.J R H (bA (bq c t k) c.cs)):∀ (fuel t:Nat) (listed:Array Bool) (acc:List Nat) (rem:List Nat) (tmps:Array Value) (R:aE) (H:an),Ih ops listed rem→rem.length≤fuel →
   zg ag c S ops Q fuel rem tmps R H→∃ is,Region.linearise.go .any ops fuel t listed acc=acc.reverse++is∧ag.J R H (bA (bq c tmps (.inRegion ops is::k)) c.cs)
 | 0,t,listed,acc,rem,tmps,R,H,_,_,h=>⟨[],by simp [Region.linearise.go],Jd.ctl rfl (λ w=>by simp [stepG,stepG.exec,bA,bq]) (hQ _ _ _ h.2)⟩
 | fuel+1,t,listed,acc,rem,tmps,R,H,hA,hl,h=>by
  generalize OT:((List.range ops.size).filter λ i=>!listed.getD i true && ((ops[i]?).map (·.after.all λ e=>!Region.binds .any e || listed.getD e.on false)).getD false)=rs
  have nO:∀ i,i∈rs→i∈rem∧mG ops rem i=true:=by
   intro i hi
   rw [← OT] at hi
   simp only [List.mem_filter,List.mem_range,Bool.and_eq_true,Bool.not_eq_true'] at hi
   obtain ⟨h1,h2,h3⟩:=hi
   refine ⟨(hA.2.2 i).2 ⟨h1,h2⟩,?_⟩
   unfold mG
   cases ho:ops[i]? with
   | none=>simp [ho] at h3
   | some o =>
    simp only [ho,Option.map_some,Option.getD_some,Array.all_eq_true_iff_forall_mem] at h3 ⊢
    intro e he
    have:=h3 e he
    rcases Bool.or_eq_true_iff.1 this with x | x
    ·simp [x]
    ·have hn:e.on ∉ rem:=λ hm=>by
      have:=((hA.2.2 e.on).1 hm).2
      have br:e.on < listed.size:=by rw [hA.1]; exact ((hA.2.2 e.on).1 hm).1
      simp only [Array.getD_eq_getD_getElem?,Array.getElem?_eq_getElem br,Option.getD_some] at this x
      rw [x] at this; cases this
     simp [hn]
  rcases h with ⟨rfl,hq⟩ | ⟨b7,uC⟩
  ·have azi:rs=[]:=by
    cases rs with
    | nil=>rfl
    | cons a r=>exact absurd (nO a (by simp)).1 (by simp)
   refine ⟨[],?_,Jd.ctl rfl (λ w=>by simp [stepG,stepG.exec,bA,bq]) (hQ _ _ _ hq)⟩
   unfold Region.linearise.go
   simp only [OT,azi]
   simp
  ·
   have azj:rs≠[]:=by
    obtain ⟨m,hm,axB⟩:=agw rem b7
    have Wi:=((hA.2.2 m).1 hm).1
    have:m∈rs:=by
     rw [← OT]
     simp only [List.mem_filter,List.mem_range,Bool.and_eq_true,Bool.not_eq_true']
     refine ⟨Wi,((hA.2.2 m).1 hm).2,?_⟩
     have ho:ops[m]? = some ops[m]:=Array.getElem?_eq_getElem Wi
     simp only [ho,Option.map_some,Option.getD_some,Array.all_eq_true_iff_forall_mem]
     intro e he
     unfold backward at hb
     rw [List.all_eq_true] at hb
     have lP:=hb m (List.mem_range.2 Wi)
     simp only [ho,Array.all_eq_true_iff_forall_mem] at lP
     rcases Bool.or_eq_true_iff.1 (lP e he) with x | x
     ·simp [x]
     ·have br:e.on < m:=by simpa using x
      have hn:e.on ∉ rem:=λ mU=>by have:=axB _ mU; omega
      have lx:e.on < listed.size:=by rw [hA.1]; omega
      have h1:listed.getD e.on true=true:=by
       cases hh:listed.getD e.on true with
       | true=>rfl
       | false=>exact absurd ((hA.2.2 e.on).2 ⟨by omega,hh⟩) hn
      simp only [Array.getD_eq_getD_getElem?,Array.getElem?_eq_getElem lx,Option.getD_some] at h1 ⊢
      simp [h1]
    intro e; rw [e] at this; cases this
   have hlen:t % rs.length < rs.length:=Nat.mod_lt _ (by
    cases rs with
    | nil=>exact absurd rfl azj
    | cons _ _=>simp)
   have hi:rs[t % rs.length]? = some rs[t % rs.length]:=List.getElem?_eq_getElem hlen
   generalize rs[t % rs.length]=i at hi
   obtain ⟨VT,k8⟩:=nO i (List.mem_of_getElem? hi)
   have W8:=λ hw=>uC hw i VT k8
   have br:(rem.erase i).length≤fuel:=by rw [List.length_erase_of_mem VT]; omega
   have hgo:∀ Nm,∃ is,Region.linearise.go .any ops fuel (t / rs.length) (listed.setIfInBounds i true) Nm=Nm.reverse++is:=λ Nm=>⟨_,linearise_go_acc .any ops fuel (t / rs.length) (listed.setIfInBounds i true) Nm⟩
   obtain ⟨is,nq⟩:=hgo (i::acc)
   refine ⟨i::is,?_,?_⟩
   ·rw [Region.linearise.go]
    simp only [OT,hi]
    rw [nq]; simp
   ·refine J.given ag rfl λ hw=>?_
    refine am7 hk (W8 hw) λ t' R' H' hK=>?_
    obtain ⟨Dr,h1,h2⟩:=acS hk hb hQ fuel (t / rs.length) (listed.setIfInBounds i true) (i::acc) (rem.erase i) t' R' H' (hA.erase VT) br hK
    rw [nq] at h1
    have:is=Dr:=by simpa using h1
    rw [this]; exact h2
end
section
variable {P:Program} {B:Base} {main:Bool} {ag:Jd P B main}
def noSelect(o:Oper):Bool:=match o.op with | .select _ _=>false | _=>true
def looks(ops:Array Oper)(o:Oper):List Nat :=
 (o.op.operands.toList.filterMap λ | .tmp t=>some t | _=>none)++(match o.guard with | some (j,_)=>((ops[j]?).bind (·.dst)).toList | none=>[])
def IN(ops:Array Oper)(a b:Oper):Bool :=
 (match a.dst with | some d=>!(looks ops b).contains d && b.dst != some d | none=>true) && (match b.dst with | some d=>!(looks ops a).contains d | none=>true)
theorem aKE{a b:Option Tmp}{v u:Value}{t:Array Value}(h:∀ d,a=some d→b≠some d):fq a v (fq b u t)=fq b u (fq a v t):=by
 cases a with
 | none=>rfl
 | some x=>cases b with
  | none=>rfl
  | some y =>
   have b7:x≠y:=λ e=>h x rfl (by rw [e])
   simp only [fq]
   exact Array.setIfInBounds_comm u v (Ne.symm b7)
theorem aqt{c:Ctx}{t:Array Value}{dst:Option Tmp}{v:Value}{x:Operand}(h:∀ d,dst=some d→x ≠ .tmp d):(bq c (fq dst v t) []).eval x=(bq c t []).eval x:=by
 cases dst with
 | none=>rfl
 | some d=>cases x with
  | tmp y =>
   have b7:d≠y:=λ e=>h d rfl (by rw [e])
   simp only [bq,Frame.eval,fq,Array.getD_eq_getD_getElem?]
   rw [Array.getElem?_setIfInBounds_ne b7]
  | _=>rfl
theorem aeO{c:Ctx}{ops:Array Oper}{t:Array Value}{dst:Option Tmp}{v:Value}{o:Oper}(hs:noSelect o=true)(h:∀ d,dst=some d→d ∉ looks ops o):execOp (bq c (fq dst v t) []).eval o=execOp (bq c t []).eval o:=by
 refine execOp_congr o (λ cs b e=>by rw [noSelect,e] at hs; cases hs) λ x hx=>aqt λ d hd e=>h d hd ?_
 subst e
 unfold looks
 exact List.mem_append_left _ (List.mem_filterMap.2 ⟨_,Array.mem_toList_iff.2 hx,rfl⟩)
theorem aiF{ops:Array Oper}{t:Array Value}{dst:Option Tmp}{v:Value}{o:Oper}(h:∀ d,dst=some d→d ∉ looks ops o):Region.wanted o (yielded ops (fq dst v t))=Region.wanted o (yielded ops t):=by
 unfold Region.wanted
 cases hg:o.guard with
 | none=>rfl
 | some g =>
  obtain ⟨j,want⟩:=g
  simp only [yielded]
  cases hd:(ops[j]?).bind (·.dst) with
  | none=>rfl
  | some d =>
   simp only [Option.bind_some]
   cases dst with
   | none=>rfl
   | some d' =>
    have b7:d'≠d:=λ e=>h d' rfl (by
     subst e
     unfold looks
     rw [hg]
     exact List.mem_append_right _ (by simp [hd]))
    simp only [fq]
    rw [Array.getElem?_setIfInBounds_ne b7]
theorem ads{ops:Array Oper}{a b:Oper}(h:IN ops a b=true):(∀ d,a.dst=some d→d ∉ looks ops b∧b.dst≠some d)∧(∀ d,b.dst=some d→d ∉ looks ops a):=by
 unfold IN at h
 rw [Bool.and_eq_true] at h
 refine ⟨λ d hd=>?_,λ d hd=>?_⟩
 ·rw [hd] at h; simpa using h.1
 ·rw [hd] at h; simpa using h.2
theorem BL.fq{c:Ctx}{S:an}{ops:Array Oper}{j:Nat}{oi oj:Oper}{t:Array Value}{v:Value}{R:aE}{H:an}{K1 K:Array Value→aE→an→Prop}(hj:ops[j]? = some oj)(hs:noSelect oj=true)(ml:IN ops oi oj=true){F:an}(hS:∀ p∈F,p∈H)(hFS:∀ p∈F,p∈S)
  (h:BL ag c S ops j (fq oi.dst v t) R H K1) (hK:∀ u R' H',aN R R'→(∀ p∈F,p∈H')→K1 (Go.Lg.fq oj.dst u (Go.Lg.fq oi.dst v t)) R' H'→K (Go.Lg.fq oj.dst u t) R' H'):BL ag c S ops j t R H K:=by
 obtain ⟨h1,h2⟩:=ads ml
 obtain ⟨o,ho,hd,h⟩:=h
 obtain rfl:o=oj:=Option.some.inj (ho.symm.trans hj)
 rw [aiF (λ d hd=>(h1 d hd).1),aeO hs (λ d hd=>(h1 d hd).1)] at h
 refine ⟨o,ho,hd,?_⟩
 rcases h with ⟨a,b⟩ | ⟨a,b | ⟨f,args,b,b'⟩⟩
 ·exact .inl ⟨a,hK _ _ _ (aN.refl _) hS b⟩
 ·exact .inr ⟨a,.inl (b.mono λ nx R' H' ⟨u,x,y,z,hk⟩=>⟨u,x,y,z,hK _ _ _ y (λ p hp=>z p (hFS p hp) (hS p hp)) hk⟩)⟩
 ·exact .inr ⟨a,.inr ⟨f,args,b,b'.mono λ u R' H' ⟨y,z,hk⟩=>⟨y,z,hK _ _ _ y (λ p hp=>z p (hFS p hp) (hS p hp)) hk⟩⟩⟩
def acA(P:Program)(B:Base)(S:an)(R:aE)(ρ:Operand→Value)(o:Oper)(v:Value):Prop :=
 ∀ R' H',aN R R'→(∀ p∈S,p∈H')→aK P B R' H' (execOp ρ o) λ nx bY cD=>(nx = .value v∨(nx = .skip∧v=undef))∧bY=R'∧cD=H'
def pz(ops:Array Oper)(rem:List Nat)(i:Nat)(D:List Nat):Bool :=
 rem.contains i && mG ops rem i && !D.contains i && D.all (λ j=>rem.contains j && match ops[j]? with | some o=>o.after.any λ e=>Region.binds .any e && (e.on == i || D.contains e.on) | none=>false) &&
 (match ops[i]? with | some oi=>noSelect oi && rem.all (λ j=>j == i || D.contains j || match ops[j]? with | some oj=>noSelect oj && IN ops oi oj | none=>false) | none=>false)
theorem aLQ{ops:Array Oper}{rem:List Nat}{i j:Nat}{D:List Nat}(h:pz ops rem i D=true)(dA:j≠i)(qi:j ∉ D):pz ops (rem.erase j) i D=true:=by
 unfold pz at h ⊢
 simp only [Bool.and_eq_true,Bool.not_eq_true',List.all_eq_true,List.contains_iff_mem] at h ⊢
 obtain ⟨⟨⟨⟨h1,h2⟩,h3⟩,h4⟩,h5⟩:=h
 refine ⟨⟨⟨⟨(List.mem_erase_of_ne (Ne.symm dA)).2 h1,?_⟩,h3⟩,λ x hx=>⟨(List.mem_erase_of_ne (λ e=>qi (by rw [← e]; exact hx))).2 (h4 x hx).1,(h4 x hx).2⟩⟩,?_⟩
 ·unfold mG at h2 ⊢
  cases ho:ops[i]? with
  | none=>simp [ho] at h2
  | some o =>
   simp only [ho,Array.all_eq_true_iff_forall_mem] at h2 ⊢
   intro e he
   have:=h2 e he
   rcases Bool.or_eq_true_iff.1 this with x | x
   ·simp [x]
   ·have hn:e.on ∉ rem:=by simpa using x
    have:e.on ∉ rem.erase j:=λ hm=>hn (List.mem_of_mem_erase hm)
    simp [this]
 ·cases ho:ops[i]? with
  | none=>simp [ho] at h5
  | some oi =>
   simp only [ho,Bool.and_eq_true,List.all_eq_true] at h5 ⊢
   exact ⟨h5.1,λ x hx=>h5.2 x (List.mem_of_mem_erase hx)⟩
theorem adr{c:Ctx}{S:Nat→an}{ops:Array Oper}{Q:Array Value→aE→an→Prop}{i:Nat}{oi:Oper}{D:List Nat}{N:an}{v:Value}(hi:ops[i]? = some oi)(hd:ns oi.op=false):∀ (n:Nat) (rem:List Nat) (t:Array Value) (R:aE) (H:an),
  pz ops rem i D=true→rem.Nodup→(∀ p∈N,p∈H)→(∀ j∈rem,j≠i→j ∉ D→∀ p∈N,p∈S j)→((Region.wanted oi (yielded ops t)=true∧acA P B N R (bq c t []).eval oi v)∨(Region.wanted oi (yielded ops t)=false∧v=undef))→zg ag c S ops Q n (rem.erase i) (fq oi.dst v t) R H→zg ag c S ops Q (n+1) rem t R H:=by
 intro n
 induction n with
 | zero =>
  intro rem t R H iq cP hS w8 oh h
  unfold pz at iq
  simp only [Bool.and_eq_true,List.contains_iff_mem] at iq
  have nO:i∈rem:=iq.1.1.1.1
  refine .inr ⟨(λ e=>by rw [e] at nO; cases nO),λ _ j hj _=>?_⟩
  have dA:j=i:=by
   by_cases e:j=i
   ·exact e
   ·exact absurd ((List.mem_erase_of_ne e).2 hj) (by rw [h.1]; simp)
  subst dA
  rcases oh with ⟨hw,hf⟩ | ⟨hw,rfl⟩
  ·exact ⟨oi,hi,hd,.inr ⟨hw,.inl ((hf R H (aN.refl _) hS).mono λ nx R' H' ⟨e1,e2,e3⟩=>by subst e2 e3; exact ⟨v,e1,aN.refl _,(λ _ _ h=>h),h⟩)⟩⟩
  ·exact ⟨oi,hi,hd,.inl ⟨hw,h⟩⟩
 | succ n ih =>
  intro rem t R H iq cP hS w8 oh h
  have aCF:=iq
  unfold pz at iq
  simp only [Bool.and_eq_true,List.contains_iff_mem,Bool.not_eq_true',List.all_eq_true] at iq
  obtain ⟨⟨⟨⟨nO,aZy⟩,hiD⟩,hD⟩,uC⟩:=iq
  rw [hi] at uC
  simp only [Bool.and_eq_true,List.all_eq_true] at uC
  obtain ⟨axK,uC⟩:=uC
  refine .inr ⟨(λ e=>by rw [e] at nO; cases nO),λ hww j hj zH=>?_⟩
  by_cases dA:j=i
  ·subst dA
   rcases oh with ⟨hw,hf⟩ | ⟨hw,rfl⟩
   ·exact ⟨oi,hi,hd,.inr ⟨hw,.inl ((hf R H (aN.refl _) hS).mono λ nx R' H' ⟨e1,e2,e3⟩=>by subst e2 e3; exact ⟨v,e1,aN.refl _,(λ _ _ h=>h),h⟩)⟩⟩
   ·exact ⟨oi,hi,hd,.inl ⟨hw,h⟩⟩
  ·
   have qi:j ∉ D:=λ qi=>by
    obtain ⟨_,hx⟩:=hD j qi
    unfold mG at zH
    cases ho:ops[j]? with
    | none=>simp [ho] at hx
    | some o =>
     simp only [ho,Array.all_eq_true_iff_forall_mem] at zH hx
     rw [Array.any_eq_true'] at hx
     obtain ⟨e,he,hx⟩:=hx
     have hr:=zH e he
     rw [Bool.and_eq_true] at hx
     have v9:e.on∈rem:=by
      rcases Bool.or_eq_true_iff.1 hx.2 with x | x
      ·have:e.on=i:=by simpa using x
       rw [this]; exact nO
      ·have hxD:e.on∈D:=by simpa using x
       exact (hD _ hxD).1
     simp [hx.1,v9] at hr
   have xd:=uC j hj
   have Wb:∃ oj,ops[j]? = some oj∧noSelect oj=true∧IN ops oi oj=true:=by
    cases ho:ops[j]? with
    | none=>simp [dA,qi,ho] at xd
    | some oj=>simp [dA,qi,ho] at xd; exact ⟨oj,rfl,xd.1,xd.2⟩
   obtain ⟨oj,hoj,azk,ml⟩:=Wb
   rcases h with ⟨he,_⟩ | ⟨_,aBC⟩
   ·exact absurd ((List.mem_erase_of_ne dA).2 hj) (by rw [he]; simp)
   have axk:mG ops (rem.erase i) j=true:=by
    unfold mG at zH ⊢
    simp only [hoj,Array.all_eq_true_iff_forall_mem] at zH ⊢
    intro e he
    have:=zH e he
    rcases Bool.or_eq_true_iff.1 this with x | x
    ·simp [x]
    ·have hn:e.on ∉ rem:=by simpa using x
     have:e.on ∉ rem.erase i:=λ hm=>hn (List.mem_of_mem_erase hm)
     simp [this]
   have W8:=aBC hww j ((List.mem_erase_of_ne dA).2 hj) axk
   obtain ⟨ha1,ha2⟩:=ads ml
   refine BL.fq (oi:=oi) (v:=v) hoj azk ml hS (w8 j hj dA qi) W8 λ u R' H' hR Vh hA=>?_
   refine ih (rem.erase j) (fq oj.dst u t) R' H' (aLQ aCF dA qi) (cP.erase _) Vh (λ x hx=>w8 x (List.mem_of_mem_erase hx)) ?_ ?_
   ·rw [aiF (λ d hd=>ha2 d hd)]
    refine oh.imp (λ ⟨hw,hf⟩=>⟨hw,λ bY cD B7 asr=>?_⟩) id
    rw [aeO (ops:=ops) axK (λ d hd=>ha2 d hd)]
    exact hf bY cD (hR.trans B7) asr
   ·rw [List.erase_comm,aKE (a:=oi.dst) (b:=oj.dst) (λ d hd=>(ha1 d hd).2)]
    exact hA
variable {c:Ctx} {S:Nat→an} {ops:Array Oper} {k:List Item} {R:aE} {H:an} {st ab:St} {rem:List Nat} {n:Nat}
def Any(ag:Jd P B main)(c:Ctx)(S:Nat→an)(ops:Array Oper)(k:List Item)(n:Nat)(rem:List Nat)(R:aE)(H:an)(st:St):Prop :=
 rem.Nodup∧∀ tmps,fU c.n st tmps→zg ag c S ops (λ t R H=>ag.J R H (bA (bq c t k) c.cs)) n rem tmps R H
theorem At.draw{id:Nat}{is:List Nat}{n:Nat}(S:Nat→an)(hm:P.follows .mixedOrders=true)(hk:(c.kind == CallKind.early)=false)(hb:backward ops=true)(hn:ops.size=n)(nq:List.range n=is)(h:Any ag c S ops k n is R H st):At ag c R H st (.code (.region id ops true)::k):=by
 intro tmps ht
 subst hn; subst nq
 refine ag.step rfl λ w hw=>?_
 have hA:Ih ops (Array.replicate ops.size false) (List.range ops.size):=⟨by simp,List.nodup_range,λ i=>by
  simp only [List.mem_range,Array.getD_eq_getD_getElem?]
  constructor
  ·intro hi; exact ⟨hi,by simp [hi]⟩
  ·exact λ x=>x.1⟩
 have key:=λ t=>acS (ag:=ag) (k:=k) hk hb (λ _ _ _ hq=>hq) ops.size t _ [] _ tmps R H hA (by simp) (h.2 tmps ht)
 obtain ⟨is,h1,h2⟩:=key (if (Question.order c.fn id).forced then 0 else (Question.order c.fn id).cut (w.tape w.drawn (.order c.fn id)))
 refine ⟨bA (bq c tmps (.inRegion ops is::k)) c.cs,{ w with drawn:=w.drawn+1 },#[],R,H,?_,by simp,⟨⟨hw.r,hw.h,hw.nd,hw.dj,hw.os,hw.tape,hw.out⟩,λ _ _ x=>x,Nat.le_refl _,λ _ _ _=>rfl,λ _ _ x=>.inl x,λ _ o x=>.inl ⟨o,x⟩⟩,h2⟩
 simp only [Question.forced,Bool.false_eq_true,if_false,List.reverse_nil,List.nil_append] at h1
 simp [stepG,stepG.exec,bA,bq,choose,Sem.run,Question.forced,Region.schedule,hm,Region.linearise,h1]
theorem At.aph{id:Nat}{is:List Nat}{n:Nat}(hm:P.follows .mixedOrders=true)(hk:(c.kind == CallKind.early)=false)(hb:backward ops=true)(hn:ops.size=n)(nq:List.range n=is)(h:Any ag c (λ _=>H) ops k n is R H st):At ag c R H st (.code (.region id ops true)::k):=At.draw (λ _=>H) hm hk hb hn nq h
theorem nU.Gx{o:Oper}{i:Nat}{tmps:Array Value}(h:nU ag c o R H st λ R' H' ab=>aN R R'∧(∀ p∈S i,p∈H→p∈H')∧Any ag c S ops k n rem R' H' ab)(ho:ops[i]? = some o)(hw:Region.wanted o (yielded ops tmps)=true)(ht:fU c.n st tmps) :
  BL ag c (S i) ops i tmps R H λ t' R' H'=>zg ag c S ops (λ t R H=>ag.J R H (bA (bq c t k) c.cs)) n rem t' R' H':=by
 obtain ⟨hd,mn,h | ⟨f,args,h1,h2⟩⟩:=h
 ·exact ⟨o,ho,hd,.inr ⟨hw,.inl ((h _ (ht.knows c [])).mono λ nx R' H' ⟨v,hv,ab,hs,hR,hS,hA⟩=>⟨v,hv,hR,hS,hA.2 _ ((ht.put v mn).sub hs)⟩)⟩⟩
 ·exact ⟨o,ho,hd,.inr ⟨hw,.inr ⟨f,args,h1 _ (ht.knows c []),h2.mono λ v R' H' ⟨ab,hs,hR,hS,hA⟩=>⟨hR,hS,hA.2 _ ((ht.put v mn).sub hs)⟩⟩⟩⟩
theorem Any.done(h:At ag c R H st k):Any ag c S ops k n [] R H st:=⟨List.nodup_nil,λ tmps ht=>by
 cases n with
 | zero=>exact ⟨rfl,h tmps ht⟩
 | succ n=>exact .inl ⟨rfl,h tmps ht⟩⟩
theorem Any.take{i:Nat}{o:Oper}{v:Value}{N:an}(D:List Nat)(ho:ops[i]? = some o)(iq:pz ops rem i D=true)(hd:ns o.op=false)(mn:cp o.dst c.n)(hw:dz ops st o=some true)(w8:∀ j∈rem,j≠i→j ∉ D→∀ p∈N,p∈S j)(hS:∀ p∈N,p∈H)(hf:∀ ρ,Knows st ρ→acA P B N R ρ o v)(hs:aH (bR o.dst v st) ab)(cP:rem.Nodup)
  {ox:List Nat} (hr:rem.erase i=ox) (h:Any ag c S ops k n ox R H ab):Any ag c S ops k (n+1) rem R H st:=by
 subst hr
 exact ⟨cP,λ tmps ht=>adr ho hd n rem tmps R H iq cP hS w8 (.inl ⟨nE ht hw,hf _ (ht.knows c [])⟩) (h.2 _ ((ht.put v mn).sub hs))⟩
theorem Any.aaH{i d:Nat}{o:Oper}{v:Value}{N:an}(D:List Nat)(ho:ops[i]? = some o)(o9:o.dst=some d)(hw:dz ops st o=some true)(iq:pz ops rem i D=true)(w8:∀ j∈rem,j≠i→j ∉ D→∀ p∈N,p∈S j)(hS:∀ p∈N,p∈H)
  (hf:∀ R' H',aN R R'→(∀ p∈N,p∈H')→aM P B c o R' H' st λ R1 H1 AG=>R1=R'∧H1=H'∧AG=[(d,v)]) (hs:aH ((d,v)::st) ab) (cP:rem.Nodup)
  {ox:List Nat} (hr:rem.erase i=ox) (h:Any ag c S ops k n ox R H ab):Any ag c S ops k (n+1) rem R H st:=by
 have h0:=hf R H (aN.refl _) hS
 refine Any.take (v:=v) D ho iq h0.1 h0.2.1 hw w8 hS (λ ρ aX R' H' hR Vh=>?_) (by rw [o9]; exact hs) cP hr h
 refine ((hf R' H' hR Vh).2.2 ρ aX).mono λ nx bY cD ⟨u,hu,AG,vi,e1,e2,e3⟩=>?_
 subst e3
 rw [o9] at vi
 have huv:u=v:=by
  have:=vi d v (by simp)
  simp only [bR,List.lookup_cons,beq_self_eq_true] at this
  exact Option.some.inj this
 subst huv
 exact ⟨hu,e1,e2⟩
theorem Any.aLP{i:Nat}{o:Oper}(D:List Nat)(ho:ops[i]? = some o)(iq:pz ops rem i D=true)(hd:ns o.op=false)(mn:cp o.dst c.n)(hw:dz ops st o=some false)(hs:aH (bR o.dst undef st) ab)(cP:rem.Nodup)
  {ox:List Nat} (hr:rem.erase i=ox) (h:Any ag c S ops k n ox R H ab):Any ag c S ops k (n+1) rem R H st:=by
 subst hr
 exact ⟨cP,λ tmps ht=>adr (v:=undef) (N:=[]) ho hd n rem tmps R H iq cP (by simp) (by simp) (.inr ⟨nE ht hw,rfl⟩) (h.2 _ ((ht.put undef mn).sub hs))⟩
theorem Any.one{i:Nat}{o:Oper}(ho:ops[i]? = some o)(k8:rem.filter (mG ops rem)=[i])(hw:dz ops st o=some true)(cP:rem.Nodup){ox:List Nat}(hr:rem.erase i=ox)
  (h:nU ag c o R H st λ R' H' ab=>aN R R'∧(∀ p∈S i,p∈H→p∈H')∧Any ag c S ops k n ox R' H' ab):Any ag c S ops k (n+1) rem R H st:=by
 subst hr
 refine ⟨cP,λ tmps ht=>.inr ⟨(λ e=>by rw [e] at k8; cases k8),λ _ j hj zH=>?_⟩⟩
 have:j∈rem.filter (mG ops rem):=List.mem_filter.2 ⟨hj,zH⟩
 rw [k8] at this
 obtain rfl:j=i:=by simpa using this
 exact h.Gx ho (nE ht hw) ht
theorem aZY{H H':an}(h:∀ p∈H,p∈H'){X:an}:∀ p∈H,p∈X→p∈H':=λ p hp _=>h p hp
end
end Go.Lg
namespace Go.Lg
open Go.Conc
section
variable {P:Program} {B:Base} {main:Bool} {ag:Jd P B main} {c:Ctx} {R:aE} {H H':an} {st ab:St} {k:List Item}
theorem Qd{w:World}(hs:List.Sublist H' H)(hw:Fits B R H w):dU B R H w R H' w :=
 ⟨⟨hw.r,λ b o h=>hw.h b o (hs.subset h),(hs.map _).nodup hw.nd,λ b o h=>hw.dj b o (hs.subset h),hw.os,hw.tape,hw.out⟩,λ _ _ x=>x,Nat.le_refl _,λ _ _ _=>rfl,λ _ _ x=>.inl x,λ _ o x=>.inl ⟨o,hs.subset x⟩⟩
theorem At.drop{todo:List Item}(hs:List.Sublist H' H)(h:At ag c R H' st todo):At ag c R H st todo:=At.ghost (λ _ hw=>Qd hs hw) h
theorem J.drop{g:Goroutine}(hs:List.Sublist H' H)(h:ag.J R H' g):ag.J R H g:=ag.ghost (λ _ hw=>Qd hs hw) h
theorem Ll{w:World}(hs:List.Perm H' H)(hw:Fits B R H w):dU B R H w R H' w :=
 ⟨⟨hw.r,λ b o h=>hw.h b o (hs.subset h),(hs.map _).nodup_iff.2 hw.nd,λ b o h=>hw.dj b o (hs.subset h),hw.os,hw.tape,hw.out⟩,λ _ _ x=>x,Nat.le_refl _,λ _ _ _=>rfl,λ _ _ x=>.inl x,λ _ o x=>.inl ⟨o,hs.subset x⟩⟩
theorem At.perm{todo:List Item}(hs:List.Perm H' H)(h:At ag c R H' st todo):At ag c R H st todo:=At.ghost (λ _ hw=>Ll hs hw) h
theorem J.perm{g:Goroutine}(hs:List.Perm H' H)(h:ag.J R H' g):ag.J R H g:=ag.ghost (λ _ hw=>Ll hs hw) h
def aE.ins(R:aE)(b:Nat)(o:Obj):aE:=λ x=>if x=b then some o else R x
theorem aE.agm(R:aE)(b:Nat)(o:Obj):R.ins b o b=some o:=by simp [aE.ins]
theorem aE.O9{R:aE}{b:Nat}{o:Obj}(h:R b=none):aN R (R.ins b o):=λ x u hx=>by
 unfold aE.ins
 split
 ·subst_vars; rw [h] at hx; cases hx
 ·exact hx
theorem ah0{w:World}{b:Nat}{o:Obj}(hw:Fits B R ((b,o)::H) w):dU B R ((b,o)::H) w (R.ins b o) H w:=by
 have hb:R b=none:=hw.dj b o (by simp)
 have cP:=hw.nd
 rw [List.map_cons,List.nodup_cons] at cP
 refine ⟨⟨λ x u hx=>?_,λ x u hx=>hw.h x u (by simp [hx]),cP.2,λ x u hx=>?_,hw.os,hw.tape,hw.out⟩,aE.O9 hb,Nat.le_refl _,λ _ _ _=>rfl,λ x u hx=>?_,λ x u hx=>.inl ⟨u,by simp [hx]⟩⟩
 ·unfold aE.ins at hx
  split at hx
  ·subst_vars; cases hx; exact hw.h _ _ (by simp)
  ·exact hw.r x u hx
 ·have b7:x≠b:=λ e=>cP.1 (List.mem_map.2 ⟨(x,u),hx,e⟩)
  unfold aE.ins
  rw [if_neg b7]
  exact hw.dj x u (by simp [hx])
 ·unfold aE.ins at hx
  split at hx
  ·subst_vars; exact .inr (.inl ⟨o,by simp⟩)
  ·exact .inl hx
theorem J.freeze{g:Goroutine}{b:Nat}{o:Obj}(h:∀ R',aN R R'→R' b=some o→ag.J R' H g)(hb:R b=none):ag.J R ((b,o)::H) g :=
 ag.ghost (λ _ hw=>ah0 hw) (h _ (aE.O9 hb) (aE.agm R b o))
theorem J.arB{fr:Frame}{cs:List Frame}{b:Nat}{o:Obj}(h:∀ R',aN R R'→R' b=some o→ag.J R' H (bA fr cs)):ag.J R ((b,o)::H) (bA fr cs):=by
 cases hb:R b with
 | none=>exact J.freeze h hb
 | some x =>
  refine ag.step rfl λ w hw=>?_
  have:=hw.dj b o (by simp)
  rw [hb] at this
  cases this
theorem At.freeze{todo:List Item}{b:Nat}{o:Obj}(h:∀ R',aN R R'→R' b=some o→At ag c R' H st todo):At ag c R ((b,o)::H) st todo :=
 λ tmps ht=>J.arB λ R' h1 h2=>h R' h1 h2 tmps ht
theorem fU.ahH{n t:Nat}{x:Value}{tmps:Array Value}(hx:st.lookup t=some x)(h:fU n st tmps):fU n ((t,x)::st) tmps:=by
 refine ⟨h.1,λ u v hu=>?_⟩
 rw [List.lookup_cons] at hu
 split at hu
 ·rename_i heq
  have:u=t:=by simpa using heq
  subst this
  cases hu
  exact h.2 _ _ hx
 ·exact h.2 u v hu
end
theorem Cell.mono{R R':aE}{H:an}{a:Addr}{v:Value}(h:Cell R [] a v)(hR:aN R R'):Cell R' H a v:=by
 obtain ⟨h1,cs,e,fz,h2,h3⟩:=h
 exact ⟨h1,cs,e,fz,.inl (h2.elim (hR _ _) (λ x=>by cases x)),h3⟩
theorem aR.up{R R':aE}{H:an}{b o:Nat}{vs:List Value}(h:aR R [] b o vs)(hR:aN R R'):aR R' H b o vs:=λ j v hj=>(h j v hj).mono hR
theorem aR.any{R:aE}{H:an}{b o:Nat}{vs:List Value}(h:aR R [] b o vs):aR R H b o vs:=h.up (aN.refl R)
theorem aR.one{R:aE}{H:an}{b o j:Nat}{v:Value}{vs:List Value}(h:aR R H b o vs)(hj:vs[j]? = some v):Cell R H ⟨b,o+j,none⟩ v:=h j v hj
end Go.Lg
