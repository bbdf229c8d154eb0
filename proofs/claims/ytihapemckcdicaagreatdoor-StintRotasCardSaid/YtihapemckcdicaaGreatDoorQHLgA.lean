/- The base of a logic of goroutines in company. Conditions: none. -/
import Derived.Conc.Beside
import Derived.Conc.Events
import Derived.Conc.Listed
import Derived.Orders
namespace Go.Lg
theorem aX{α β:Type}(a:α)(f:α→Option β):(some a).bind f=f a:=rfl
theorem n9(n:Nat):((n:Int)).toNat=n:=rfl
theorem lT{α:Type}{a:α}{as:List α}(bs:List α)(h:a∈as):a∈as++bs:=List.mem_append_left bs h
theorem fO{α:Type}{b:α}(as:List α){bs:List α}(h:b∈bs):b∈as++bs:=List.mem_append_right as h
theorem iC{α:Type}{i:Nat}{a:α}{l:List α}:l[i]? = some a↔∃ h:i < l.length,l[i]=a:=List.getElem?_eq_some_iff
theorem mW{α:Type}{xs:Array α}{i j:Nat}(h:i≠j){a:α}:(xs.setIfInBounds i a)[j]? = xs[j]? := Array.getElem?_setIfInBounds_ne h
theorem oa{α:Type}{l:List α}{i:Nat}(h:i < l.length):l[i]? = some l[i]:=List.getElem?_eq_getElem h
theorem wE{p:Prop}[Decidable p](h:p):decide p=true:=decide_eq_true h
theorem Cf{p:Prop}[Decidable p](h:¬p):decide p=false:=decide_eq_false h
theorem uE{α:Type}{xs:Array α}{i:Nat}{a:α}(h:i < xs.size):(xs.setIfInBounds i a)[i]? = some a:=Array.getElem?_setIfInBounds_self_of_lt h
theorem pI{α:Type}{l₁ vA:List α}{i:Nat}(h:l₁.length≤i):(l₁++vA)[i]? = vA[i - l₁.length]? := List.getElem?_append_right h
theorem iS{α:Type}(a b:α):(some a=some b)=(a=b):=Option.some.injEq a b
theorem lU{α:Type}{as bs:List α}:(as++bs).length=as.length+bs.length:=List.length_append
theorem fy(a b:Bool):((a && b)=true)=(a=true∧b=true):=Bool.and_eq_true a b
theorem kT{α:Type}{i:Nat}{l:List α}:(List.take i l).length=min i l.length:=List.length_take
theorem eR(n:Nat):n≤n:=Nat.le_refl n
theorem kV:(¬True)=False:=not_true_eq_false
theorem lV{α:Type}{a b:α}(h:some a=some b):a=b:=Option.some.inj h
theorem uF{α:Type}{l₁ vA:List α}{i:Nat}(h:i < l₁.length):(l₁++vA)[i]? = l₁[i]? := List.getElem?_append_left h
theorem uG{α:Type}{i:Nat}{l:List α}{a:α}:l.getD i a=(l[i]?).getD a:=List.getD_eq_getElem?_getD
theorem qG{α:Type}{xs:Array α}{i:Nat}(h:i < xs.size):xs[i]? = some xs[i]:=Array.getElem?_eq_getElem h
theorem fa{α:Type}{a b:α}{l:List α}:a∈b::l↔a=b∨a∈l:=List.mem_cons
theorem rA:(true=false)=False:=Bool.true_eq_false
theorem nF:(false=true)=False:=Bool.false_eq_true
theorem oT{α:Type}{a b:α}:(some a).getD b=a:=rfl
open Go.Conc
abbrev az:=Nat→Option Obj
abbrev ah:=List (Nat × Obj)
structure Base where
 os:Os→Prop
 tape:Nat→Question→Nat
 out:Array (Nat × ByteArray)
structure Fits (B:Base) (R:az) (H:ah) (w:World):Prop where
 r:∀ b o,R b=some o→w.heap[b]? = some o
 h:∀ b o,(b,o)∈H→w.heap[b]? = some o
 nd:(H.map (·.1)).Nodup
 dj:∀ b o,(b,o)∈H→R b=none
 os:B.os w.os
 tape:w.tape=B.tape
 out:w.output=B.out
theorem lP{w:World}{b:Nat}{o:Obj}(h:w.heap[b]? = some o):b < w.heap.size:=(Array.getElem?_eq_some_iff.1 h).1
structure gf (B:Base) (R:az) (H:ah) (w:World) (R':az) (H':ah) (w':World):Prop where
 fits:Fits B R' H' w'
 rle:∀ b o,R b=some o→R' b=some o
 size:w.heap.size≤w'.heap.size
 same:∀ b,b < w.heap.size→(∀ o,(b,o) ∉ H)→w'.heap[b]? = w.heap[b]?
 Hh:∀ b o,R' b=some o→R b=some o∨(∃ o',(b,o')∈H)∨w.heap.size≤b
 zu:∀ b o,(b,o)∈H'→(∃ o',(b,o')∈H)∨w.heap.size≤b
theorem gf.refl{B:Base}{R:az}{H:ah}{w:World}(h:Fits B R H w):gf B R H w R H w :=
 ⟨h,λ _ _ x=>x,eR _,λ _ _ _=>rfl,λ _ _ x=>.inl x,λ _ o x=>.inl ⟨o,x⟩⟩
theorem gf.trans{B:Base}{R R' cN:az}{H H' dY:ah}{w w' SH:World}(h:gf B R H w R' H' w')(k:gf B R' H' w' cN dY SH):gf B R H w cN dY SH:=by
 refine ⟨k.fits,λ b o x=>k.rle b o (h.rle b o x),Nat.le_trans h.size k.size,λ b hb hn=>?_,λ b o x=>?_,λ b o x=>?_⟩
 ·rw [k.same b (Nat.lt_of_lt_of_le hb h.size) (λ o ho=>?_),h.same b hb hn]
  rcases h.zu b o ho with ⟨o',eX⟩ | u9
  ·exact hn o' eX
  ·omega
 ·rcases k.Hh b o x with x | ⟨o',x⟩ | x
  ·exact h.Hh b o x
  ·exact .inr (h.zu b o' x)
  ·exact .inr (.inr (Nat.le_trans h.size x))
 ·rcases k.zu b o x with ⟨o',x⟩ | x
  ·exact h.zu b o' x
  ·exact .inr (Nat.le_trans h.size x)
def Cq(R:az)(H:ah)(n:Nat)(write:Bool)(b:Nat):Prop:=(write=false∧(R b).isSome=true)∨(∃ o,(b,o)∈H)∨n≤b
def iD(R:az)(H:ah)(n m:Nat)(e:Event):Prop :=
 match e.loc with
 | .cell a=>e.sync=false∧a.block < m∧Cq R H n e.write a.block
 | .obj b=>e.sync=false∧b < m∧Cq R H n e.write b
 | .mark .noRoom=>True
 | _=>False
theorem Cq.up{B:Base}{R R':az}{H H':ah}{w w':World}(h:gf B R H w R' H' w'){wr:Bool}{b:Nat}(k:Cq R' H' w'.heap.size wr b):Cq R H w.heap.size wr b:=by
 rcases k with ⟨k1,k2⟩ | ⟨o,k⟩ | k
 ·obtain ⟨o,ho⟩:=Option.isSome_iff_exists.1 k2
  rcases h.Hh b o ho with x | x | x
  ·exact .inl ⟨k1,by simp [x]⟩
  ·exact .inr (.inl x)
  ·exact .inr (.inr x)
 ·exact .inr (h.zu b o k)
 ·exact .inr (.inr (Nat.le_trans h.size k))
theorem iD.up{B:Base}{R R':az}{H H':ah}{w w':World}(h:gf B R H w R' H' w'){m:Nat}{e:Event}(k:iD R' H' w'.heap.size m e):iD R H w.heap.size m e:=by
 unfold iD at k ⊢
 split at k
 ·exact ⟨k.1,k.2.1,k.2.2.up h⟩
 ·exact ⟨k.1,k.2.1,k.2.2.up h⟩
 ·trivial
 ·exact k.elim
theorem iD.more{R:az}{H:ah}{n m m':Nat}{e:Event}(hm:m≤m')(k:iD R H n m e):iD R H n m' e:=by
 unfold iD at k ⊢
 split at k
 ·exact ⟨k.1,by omega,k.2.2⟩
 ·exact ⟨k.1,by omega,k.2.2⟩
 ·trivial
 ·exact k.elim
def aQ{α:Type}(P:Program)(B:Base)(R:az)(H:ah)(s:Sem α)(K:α→az→ah→Prop):Prop :=
 ∀ w,Fits B R H w→∃ a w' R' H',s.run P w = .ok a w'∧(∀ e∈s.events P w #[],iD R H w.heap.size w'.heap.size e)∧gf B R H w R' H' w'∧K a R' H'
section
variable {P:Program} {B:Base} {R:az} {H:ah}
theorem aQ.mono{α:Type}{s:Sem α}{K K':α→az→ah→Prop}(h:aQ P B R H s K)(hk:∀ a R' H',K a R' H'→K' a R' H'):aQ P B R H s K':=by
 intro w hw
 obtain ⟨a,w',R',H',h1,h2,h3,h4⟩:=h w hw
 exact ⟨a,w',R',H',h1,h2,h3,hk _ _ _ h4⟩
theorem aQ.dT{α:Type}{a:α}{K:α→az→ah→Prop}(h:K a R H):aQ P B R H (Pure.pure a:Sem α) K :=
 λ w hw=>⟨a,w,R,H,rfl,by simp,gf.refl hw,h⟩
theorem aQ.du{α β:Type}{s:Sem α}{f:α→Sem β}{K:β→az→ah→Prop}(h:aQ P B R H s λ a R' H'=>aQ P B R' H' (f a) K):aQ P B R H (s >>= f) K:=by
 intro w hw
 obtain ⟨a,w',R',H',h1,h2,h3,h4⟩:=h w hw
 obtain ⟨b,SH,cN,dY,k1,k2,k3,k4⟩:=h4 w' h3.fits
 refine ⟨b,SH,cN,dY,by simp [h1,k1],λ e he=>?_,h3.trans k3,k4⟩
 rw [Sem.events_bind,h1,Result.evThen_ok,Sem.events_acc] at he
 rcases Array.mem_append.1 he with he | he
 ·exact (h2 e he).more k3.size
 ·exact (k2 e he).up h3
theorem aQ.map{α β:Type}{s:Sem α}{f:α→β}{K:β→az→ah→Prop}(h:aQ P B R H s λ a R' H'=>K (f a) R' H'):aQ P B R H (f <$> s) K:=by
 intro w hw
 obtain ⟨a,w',R',H',h1,h2,h3,h4⟩:=h w hw
 exact ⟨f a,w',R',H',by simp [h1],by simpa using h2,h3,h4⟩
def ai{α:Type}(P:Program)(s:Sem α)(a:α):Prop:=∀ w,s.run P w = .ok a w∧s.events P w #[]=#[]
theorem ai.ok{α:Type}{s:Sem α}{a:α}{K:α→az→ah→Prop}(h:ai P s a)(hk:K a R H):aQ P B R H s K :=
 λ w hw=>⟨a,w,R,H,(h w).1,by rw [(h w).2]; simp,gf.refl hw,hk⟩
theorem ai.bD{α:Type}(a:α):ai P (Pure.pure a:Sem α) a:=λ _=>⟨rfl,rfl⟩
theorem ai.bH{α β:Type}{s:Sem α}{f:α→Sem β}{a:α}{b:β}(h:ai P s a)(k:ai P (f a) b):ai P (s >>= f) b :=
 λ w=>⟨by simp [(h w).1,(k w).1],by rw [Sem.events_bind,(h w).1,(h w).2]; exact (k w).2⟩
theorem ai.map{α β:Type}{s:Sem α}{f:α→β}{a:α}(h:ai P s a):ai P (f <$> s) (f a) :=
 λ w=>⟨by simp [(h w).1],by simpa using (h w).2⟩
theorem ai.program:ai P program P:=λ _=>⟨rfl,rfl⟩
theorem ai.underlying{t:TypeId}{d:TypeDesc}(h:P.underlying t=some d):ai P (underlying t) d:=λ w=>⟨by simp [Go.underlying,h],by simp⟩
theorem ai.typeInfo{t:TypeId}{i:TypeInfo}(h:P.info? t=some i):ai P (typeInfo t) i:=λ w=>⟨by simp [Go.typeInfo,h],by simp⟩
theorem ai.fe{α β:Type}{s:Sem α}{f:α→Sem β}{a:α}{K:β→az→ah→Prop}(h:ai P s a)(hk:aQ P B R H (f a) K):aQ P B R H (s >>= f) K :=
 aQ.du (h.ok hk)
def Cell(R:az)(H:ah)(a:Addr)(v:Value):Prop :=
 a.spot=none∧∃ cs e fz,(R a.block=some (.cells cs e fz)∨(a.block,Obj.cells cs e fz)∈H)∧cs[a.off]? = some v
theorem Cell.at_{w:World}{a:Addr}{v:Value}(h:Cell R H a v)(hw:Fits B R H w):w.cell? a=some v:=by
 obtain ⟨hs,cs,e,fz,h1,h2⟩:=h
 have hh:w.heap[a.block]? = some (.cells cs e fz):=h1.elim (hw.r _ _) (hw.h _ _)
 simp [World.cell?,hh,hs,h2]
theorem Cell.touch{a:Addr}{v:Value}(h:Cell R H a v)(n:Nat):Cq R H n false a.block:=by
 obtain ⟨_,cs,e,fz,h1,_⟩:=h
 rcases h1 with h1 | h1
 ·exact .inl ⟨rfl,by simp [h1]⟩
 ·exact .inr (.inl ⟨_,h1⟩)
theorem aEh{w:World}{a:Addr}{v:Value}(h:w.cell? a=some v):a.block < w.heap.size:=by
 unfold World.cell? at h
 split at h
 ·exact lP ‹_›
 ·cases h
theorem aQ.load{a:Addr}{v:Value}{K:Value→az→ah→Prop}(h:Cell R H a v)(hk:K v R H):aQ P B R H (load a) K:=by
 intro w hw
 have hc:=h.at_ hw
 refine ⟨v,w,R,H,by simp [hc],?_,gf.refl hw,hk⟩
 intro e he
 simp only [events_load,hc] at he
 simp at he
 subst he
 exact ⟨rfl,aEh hc,h.touch _⟩
theorem aQ.new{o:Obj}{K:Nat→az→ah→Prop}(hk:∀ r,R r=none→(∀ x,(r,x) ∉ H)→K r R ((r,o)::H)):aQ P B R H (newObj o) K:=by
 intro w hw
 have hR:R w.heap.size=none:=by
  cases h:R w.heap.size with
  | none=>rfl
  | some x=>exact absurd (lP (hw.r _ _ h)) (Nat.lt_irrefl _)
 have hH:∀ x,(w.heap.size,x) ∉ H:=λ x hx=>absurd (lP (hw.h _ _ hx)) (Nat.lt_irrefl _)
 have vb:∀ b (x:Obj),w.heap[b]? = some x→(w.heap.push o)[b]? = some x:=λ b x hx=>by
  have:=lP hx
  rw [Array.getElem?_push]
  rw [if_neg (by omega)]; exact hx
 refine ⟨w.heap.size,{ w with heap:=w.heap.push o },R,(w.heap.size,o)::H,by simp,by simp,⟨⟨?_,?_,?_,?_,hw.os,hw.tape,hw.out⟩,λ _ _ x=>x,by simp,?_,λ _ _ x=>.inl x,?_⟩,hk _ hR hH⟩
 ·exact λ b x hx=>vb b x (hw.r b x hx)
 ·intro b x hx
  rcases fa.1 hx with hx | hx
  ·cases hx; simp
  ·exact vb b x (hw.h b x hx)
 ·rw [List.map_cons,List.nodup_cons]
  refine ⟨λ hm=>?_,hw.nd⟩
  obtain ⟨p,hp,he⟩:=List.mem_map.1 hm
  have Pd:p.1=w.heap.size:=he
  exact hH p.2 (by rw [← Pd]; exact hp)
 ·intro b x hx
  rcases fa.1 hx with hx | hx
  ·cases hx; exact hR
  ·exact hw.dj b x hx
 ·intro b hb _
  show (w.heap.push o)[b]? = _
  rw [Array.getElem?_push,if_neg (by omega)]
 ·intro b x hx
  rcases fa.1 hx with hx | hx
  ·cases hx; exact .inr (eR _)
  ·exact .inl ⟨x,hx⟩
inductive fl:ah→Nat→Obj→Obj→ah→Prop
 | here {b:Nat} {o o':Obj} {H:ah}:fl ((b,o)::H) b o o' ((b,o')::H)
 | there {b:Nat} {o o':Obj} {p:Nat × Obj} {H H':ah}:fl H b o o' H'→fl (p::H) b o o' (p::H')
theorem fl.keys{H H':ah}{b:Nat}{o o':Obj}(h:fl H b o o' H'):H'.map (·.1)=H.map (·.1):=by
 induction h with
 | here=>rfl
 | there _ ih=>simp [ih]
theorem fl.mem{H H':ah}{b:Nat}{o o':Obj}(h:fl H b o o' H'):(b,o)∈H:=by
 induction h with
 | here=>simp
 | there _ ih=>exact List.mem_cons_of_mem _ ih
theorem fl.old{H H':ah}{b:Nat}{o o':Obj}(h:fl H b o o' H')(hn:(H.map (·.1)).Nodup):∀ c x,(c,x)∈H'→(c=b∧x=o')∨(c≠b∧(c,x)∈H):=by
 induction h with
 | @here b o o' H =>
  intro c x hx
  rw [List.map_cons,List.nodup_cons] at hn
  rcases fa.1 hx with iy | iy
  ·cases iy; exact .inl ⟨rfl,rfl⟩
  ·refine .inr ⟨λ e=>hn.1 ?_,List.mem_cons_of_mem _ iy⟩
   rw [← e]
   exact List.mem_map.2 ⟨(c,x),iy,rfl⟩
 | @there b o o' p H H' hs ih =>
  intro c x hx
  rw [List.map_cons,List.nodup_cons] at hn
  rcases fa.1 hx with hx | hx
  ·subst hx
   refine .inr ⟨λ e=>hn.1 ?_,by simp⟩
   simp only at e ⊢
   subst e
   exact List.mem_map.2 ⟨_,hs.mem,rfl⟩
  ·exact (ih hn.2 c x hx).imp id λ y=>⟨y.1,List.mem_cons_of_mem _ y.2⟩
theorem Fits.Pv{H':ah}{b:Nat}{o o':Obj}{w:World}(hw:Fits B R H w)(h:fl H b o o' H') :
  gf B R H w R H' { w with heap:=w.heap.setIfInBounds b o' }:=by
 have hb:w.heap[b]? = some o:=hw.h _ _ h.mem
 have bK:=lP hb
 have eP:∀ c,c≠b→(w.heap.setIfInBounds b o')[c]? = w.heap[c]? := λ c hc=>mW (by omega)
 refine ⟨⟨?_,?_,by rw [h.keys]; exact hw.nd,?_,hw.os,hw.tape,hw.out⟩,λ _ _ x=>x,by simp,?_,λ _ _ x=>.inl x,?_⟩
 ·intro c x hx
  show (w.heap.setIfInBounds b o')[c]? = _
  rw [eP c (λ e=>by subst e; have:=hw.dj _ _ h.mem; rw [hx] at this; cases this)]
  exact hw.r c x hx
 ·intro c x hx
  show (w.heap.setIfInBounds b o')[c]? = _
  rcases h.old hw.nd c x hx with ⟨rfl,rfl⟩ | ⟨hc,hx⟩
  ·rw [uE bK]
  ·rw [eP c hc]; exact hw.h c x hx
 ·intro c x hx
  rcases h.old hw.nd c x hx with ⟨rfl,_⟩ | ⟨_,hx⟩
  ·exact hw.dj _ _ h.mem
  ·exact hw.dj c x hx
 ·intro c _ hn
  exact eP c (λ e=>by subst e; exact hn _ h.mem)
 ·intro c x hx
  rcases h.old hw.nd c x hx with ⟨rfl,_⟩ | ⟨_,hx⟩
  ·exact .inl ⟨_,h.mem⟩
  ·exact .inl ⟨_,hx⟩
theorem aQ.store{a:Addr}{v:Value}{cs:Array Value}{e:TypeId}{H':ah}{K:Unit→az→ah→Prop}(h1:v.oneCell'=true)(ha:a.spot=none)(bK:a.off < cs.size)
  (hs:fl H a.block (.cells cs e (0,0)) (.cells (cs.setIfInBounds a.off v) e (0,0)) H') (hk:K () R H'):aQ P B R H (store a v) K:=by
 intro w hw
 have hb:w.heap[a.block]? = some (.cells cs e (0,0)):=hw.h _ _ hs.mem
 have hc:w.cell? a=some cs[a.off]:=by simp [World.cell?,hb,ha,bK]
 have hf:w.frozen? a=false:=by simp [World.frozen?,hb]
 have Pv:w.setCell a v={ w with heap:=w.heap.setIfInBounds a.block (.cells (cs.setIfInBounds a.off v) e (0,0)) }:=by
  simp only [World.setCell]
  congr 1
  apply Array.ext_getElem?
  intro i
  rw [Array.getElem?_modify]
  by_cases hi:a.block=i
  ·subst hi
   rw [uE (lP hb),hb]
   simp [ha]
  ·simp [hi,mW hi]
 refine ⟨(),w.setCell a v,R,H',by rw [run_store P w a v _ h1]; simp [hc,hf],?_,?_,hk⟩
 ·intro e he
  rw [events_store P w #[] a v _ h1] at he
  simp [hc,hf] at he
  subst he
  refine ⟨rfl,?_,.inr (.inl ⟨_,hs.mem⟩)⟩
  simpa [World.setCell] using lP hb
 ·rw [Pv]; exact hw.Pv hs
def Obj.plain:Obj→Bool
 | .cells .. => false
 | .chan .. => false
 | _=>true
theorem aQ.getObj{r:Nat}{o:Obj}{K:Obj→az→ah→Prop}(ho:Obj.plain o=true)(h:R r=some o∨(r,o)∈H)(hk:K o R H):aQ P B R H (getObj r) K:=by
 intro w hw
 have hh:w.heap[r]? = some o:=h.elim (hw.r _ _) (hw.h _ _)
 have kJ:(Go.getObj r).run P w = .ok o w:=by
  cases o <;> simp_all [Obj.plain,Go.getObj,Sem.run]
 have j7:(Go.getObj r).events P w #[]=#[⟨.obj r,false,false⟩]:=by
  cases o <;> simp_all [Obj.plain,Go.getObj,Sem.events,Sem.runT,Obj.isChan,-Sem.runT_eq]
 refine ⟨o,w,R,H,kJ,?_,gf.refl hw,hk⟩
 intro e he
 rw [j7] at he
 simp at he
 subst he
 exact ⟨rfl,lP hh,h.elim (λ x=>.inl ⟨rfl,by simp [x]⟩) (λ x=>.inr (.inl ⟨_,x⟩))⟩
theorem aQ.setObj{r:Nat}{o o':Obj}{H':ah}{K:Unit→az→ah→Prop}(ho:Obj.plain o=true)(eX:Obj.plain o'=true)(hs:fl H r o o' H')(hk:K () R H'):aQ P B R H (setObj r o') K:=by
 intro w hw
 have hh:w.heap[r]? = some o:=hw.h _ _ hs.mem
 have kJ:(Go.setObj r o').run P w = .ok () { w with heap:=w.heap.setIfInBounds r o' }:=by
  cases o <;> simp_all [Obj.plain,Go.setObj,Sem.run]
 have j7:(Go.setObj r o').events P w #[]=#[⟨.obj r,true,false⟩]:=by
  cases o <;> simp_all [Obj.plain,Go.setObj,Sem.events,Sem.runT,-Sem.runT_eq] <;> (cases o' <;> simp_all [Obj.isChan])
 refine ⟨(),_,R,H',kJ,?_,hw.Pv hs,hk⟩
 intro e he
 rw [j7] at he
 simp at he
 subst he
 exact ⟨rfl,by simpa using lP hh,.inr (.inl ⟨_,hs.mem⟩)⟩
theorem aQ.choose{q:Question}{K:Nat→az→ah→Prop}(hk:∀ t,K (if q.forced then 0 else q.cut t) R H):aQ P B R H (choose q) K:=by
 intro w hw
 cases hf:q.forced with
 | true =>
  have:=hk 0
  rw [hf] at this
  exact ⟨0,w,R,H,by simp [Go.choose,Sem.run,hf],by simp,gf.refl hw,by simpa using this⟩
 | false =>
  have:=hk (w.tape w.drawn q)
  rw [hf] at this
  exact ⟨q.cut (w.tape w.drawn q),{ w with drawn:=w.drawn+1 },R,H,by simp [Go.choose,Sem.run,hf],by simp,⟨⟨hw.r,hw.h,hw.nd,hw.dj,hw.os,hw.tape,hw.out⟩,λ _ _ x=>x,eR _,λ _ _ _=>rfl,λ _ _ x=>.inl x,λ _ o x=>.inl ⟨o,x⟩⟩,by simpa using this⟩
theorem aQ.aGL{K:Unit→az→ah→Prop}(hk:K () R H):aQ P B R H (mark .noRoom) K :=
 λ w hw=>⟨(),w,R,H,rfl,by simp [iD],gf.refl hw,hk⟩
end
structure Jd (P:Program) (B:Base) (main:Bool) where
 J:az→ah→Goroutine→Prop
 step:∀ {R H g},g.status = .running→(∀ w,Fits B R H w→∃ g' w' es R' H',stepG P main g w = .go g' w' es∧(∀ e∈es,iD R H w.heap.size w'.heap.size e)∧gf B R H w R' H' w'∧J R' H' g')→J R H g
 ghost:∀ {R H R' H' g},(∀ w,Fits B R H w→gf B R H w R' H' w)→J R' H' g→J R H g
abbrev St:=List (Nat × Value)
structure Ctx where
 fn:FuncId
 kind:CallKind
 ro:Option Nat
 n:Nat
 defers:List Deferred
 cs:List Frame
def aV(fr:Frame)(cs:List Frame):Goroutine:={ frame:=fr,callers:=cs,status:=.running,dying:=none }
def aU(c:Ctx)(tmps:Array Value)(todo:List Item):Frame:={ fn:=c.fn,tmps,todo,defers:=c.defers,mode:=.run,kind:=c.kind,roundOf:=c.ro }
def cX(n:Nat)(st:St)(tmps:Array Value):Prop:=tmps.size=n∧∀ t v,st.lookup t=some v→tmps[t]? = some v
def cc(st:St):St→Prop
 | []=>True
 | p::r=>st.lookup p.1=some p.2∧cc st r
def aI(st st':St):Prop:=∀ t v,st'.lookup t=some v→st.lookup t=some v
theorem cc.sub{st:St}:∀ {st':St},cc st st'→aI st st'
 | [],_,_,_,h=>by cases h
 | p::r,hs,t,v,h=>by
  rw [List.lookup_cons] at h
  split at h
  ·rename_i heq
   cases h
   have:t=p.1:=by simpa using heq
   subst this
   exact hs.1
  ·exact cc.sub hs.2 t v h
theorem aI.refl(st:St):aI st st:=λ _ _ h=>h
theorem cX.sub{n:Nat}{st st':St}{tmps:Array Value}(h:cX n st tmps)(hs:aI st st'):cX n st' tmps:=⟨h.1,λ t v x=>h.2 t v (hs t v x)⟩
def cx(dst:Option Tmp)(v:Value)(st:St):St:=match dst with | some d=>(d,v)::st | none=>st
theorem aI.put{dst:Option Tmp}{d:Tmp}{v:Value}{st:St}(h:dst=some d):aI (cx dst v st) ((d,v)::st):=by subst h; exact aI.refl _
theorem aI.QT{dst:Option Tmp}{v:Value}{st:St}(h:dst=none):aI (cx dst v st) st:=by subst h; exact aI.refl _
def fJ(dst:Option Tmp)(v:Value)(tmps:Array Value):Array Value:=match dst with | some d=>tmps.setIfInBounds d v | none=>tmps
def aoK(dst:Option Tmp)(n:Nat):Bool:=match dst with | some d=>Nat.blt d n | none=>true
def cj(dst:Option Tmp)(n:Nat):Prop:=aoK dst n=true
theorem cj.lt{d n:Nat}(h:cj (some d) n):d < n:=by
 have:Nat.blt d n=true:=h
 simpa [Nat.blt_eq] using this
theorem cX.put{n:Nat}{st:St}{tmps:Array Value}(h:cX n st tmps){dst:Option Tmp}(v:Value)(hd:cj dst n):cX n (cx dst v st) (fJ dst v tmps):=by
 cases dst with
 | none=>exact h
 | some d =>
  refine ⟨by simp [fJ,h.1],λ t u hu=>?_⟩
  have hd':d < tmps.size:=by rw [h.1]; exact hd.lt
  simp only [cx,List.lookup_cons] at hu
  split at hu
  ·rename_i heq
   cases hu
   have:t=d:=by simpa using heq
   subst this
   simp [fJ,hd']
  ·rename_i heq
   have eP:t≠d:=by simpa using heq
   simp only [fJ]
   rw [mW (Ne.symm eP)]
   exact h.2 t u hu
def bj(st:St):Operand→Option Value
 | .tmp t=>st.lookup t
 | .const v=>some v
 | .global g=>some (.pointer (some ⟨g,0,none⟩))
 | .func f=>some (.func (.func f) #[] #[])
def Knows(st:St)(ρ:Operand→Value):Prop:=∀ x v,bj st x=some v→ρ x=v
theorem cX.knows{n:Nat}{st:St}{tmps:Array Value}(h:cX n st tmps)(c:Ctx)(todo:List Item):Knows st (aU c tmps todo).eval:=by
 intro x v hx
 cases x with
 | tmp t =>
  have:=h.2 t v hx
  simp [aU,Frame.eval,Array.getD_eq_getD_getElem?,this]
 | const u=>cases hx; rfl
 | global g=>cases hx; rfl
 | func f=>cases hx; rfl
section
variable {P:Program} {B:Base} {main:Bool} (ab:Jd P B main)
def U(c:Ctx)(R:az)(H:ah)(st:St)(todo:List Item):Prop:=∀ tmps,cX c.n st tmps→ab.J R H (aV (aU c tmps todo) c.cs)
variable {ab} {c:Ctx} {R:az} {H:ah} {st:St} {k:List Item}
theorem U.sub{st':St}{todo:List Item}(hs:aI st st')(h:U ab c R H st' todo):U ab c R H st todo:=λ tmps ht=>h tmps (ht.sub hs)
theorem U.ghost{R':az}{H':ah}{todo:List Item}(hg:∀ w,Fits B R H w→gf B R H w R' H' w)(h:U ab c R' H' st todo):U ab c R H st todo:=λ tmps ht=>ab.ghost hg (h tmps ht)
theorem Jd.ctl{R:az}{H:ah}{g g':Goroutine}(hs:g.status = .running)(h:∀ w,stepG P main g w = .go g' w)(hj:ab.J R H g'):ab.J R H g :=
 ab.step hs λ w hw=>⟨g',w,#[],R,H,h w,by simp,gf.refl hw,hj⟩
theorem U.skip(h:U ab c R H st k):U ab c R H st (.code .skip::k):=λ tmps ht=>Jd.ctl rfl (λ w=>by simp [stepG,stepG.exec,aV,aU]) (h tmps ht)
theorem U.label{l:Nat}(h:U ab c R H st k):U ab c R H st (.code (.label l)::k):=λ tmps ht=>Jd.ctl rfl (λ w=>by simp [stepG,stepG.exec,aV,aU]) (h tmps ht)
theorem U.bC{id:Nat}(h:U ab c R H st k):U ab c R H st (.inBlock id::k):=λ tmps ht=>Jd.ctl rfl (λ w=>by simp [stepG,stepG.exec,aV,aU]) (h tmps ht)
theorem U.seq{x y:Code}(h:U ab c R H st (.code x :: .code y::k)):U ab c R H st (.code (.seq x y)::k):=λ tmps ht=>Jd.ctl rfl (λ w=>by simp [stepG,stepG.exec,aV,aU]) (h tmps ht)
theorem U.aY{id:Nat}{x:Code}(h:U ab c R H st (.code x :: .inBlock id::k)):U ab c R H st (.code (.block id x)::k):=λ tmps ht=>Jd.ctl rfl (λ w=>by simp [stepG,stepG.exec,aV,aU]) (h tmps ht)
theorem U.scope{x:Code}(h:U ab c R H st (.code x :: .inScope x::k)):U ab c R H st (.code (.scope x)::k):=λ tmps ht=>Jd.ctl rfl (λ w=>by simp [stepG,stepG.exec,aV,aU]) (h tmps ht)
theorem U.enterLoop{x:Code}(h:U ab c R H st (.code x :: .inLoop x::k)):U ab c R H st (.code (.loop x)::k):=λ tmps ht=>Jd.ctl rfl (λ w=>by simp [stepG,stepG.exec,aV,aU]) (h tmps ht)
theorem U.inLoop{x:Code}(h:U ab c R H st (.code x :: .inLoop x::k)):U ab c R H st (.inLoop x::k):=λ tmps ht=>Jd.ctl rfl (λ w=>by simp [stepG,stepG.exec,aV,aU]) (h tmps ht)
theorem U.cE{id:Nat}{k':List Item}(he:exitTo id k=some k')(h:U ab c R H st k'):U ab c R H st (.code (.exit id)::k):=λ tmps ht=>Jd.ctl rfl (λ w=>by simp [stepG,stepG.exec,aV,aU,he]) (h tmps ht)
theorem U.region{id:Nat}{ops:Array Oper}(h:U ab c R H st (.inRegion ops (List.range ops.size)::k)):U ab c R H st (.code (.region id ops false)::k):=λ tmps ht=>Jd.ctl rfl (λ w=>by simp [stepG,stepG.exec,aV,aU]) (h tmps ht)
theorem U.aT{ops:Array Oper}(h:U ab c R H st k):U ab c R H st (.inRegion ops []::k):=λ tmps ht=>Jd.ctl rfl (λ w=>by simp [stepG,stepG.exec,aV,aU]) (h tmps ht)
theorem U.cond{x:Operand}{th el:Code}{t:Bool}(hx:bj st x=some (.bool t))(h1:t=true→U ab c R H st (.code th::k))(h2:t=false→U ab c R H st (.code el::k)):U ab c R H st (.code (.cond x th el)::k):=by
 intro tmps ht
 have he:=ht.knows c (.code (.cond x th el)::k) x _ hx
 cases t with
 | true=>exact Jd.ctl rfl (λ w=>by simp only [aU] at he; simp [stepG,stepG.exec,aV,aU,he]) (h1 rfl tmps ht)
 | false=>exact Jd.ctl rfl (λ w=>by simp only [aU] at he; simp [stepG,stepG.exec,aV,aU,he]) (h2 rfl tmps ht)
theorem U.cond_true{x:Operand}{th el:Code}(hx:bj st x=some (.bool true))(h:U ab c R H st (.code th::k)):U ab c R H st (.code (.cond x th el)::k):=U.cond hx (λ _=>h) (λ e=>by cases e)
theorem U.cond_false{x:Operand}{th el:Code}(hx:bj st x=some (.bool false))(h:U ab c R H st (.code el::k)):U ab c R H st (.code (.cond x th el)::k):=U.cond hx (λ e=>by cases e) (λ _=>h)
def ni:Op→Bool
 | .defer _=>true
 | _=>false
theorem qz{tmps:Array Value}{ops:Array Oper}{i:Nat}{rest:List Nat}{o:Oper}{w:World}(ho:ops[i]? = some o)(hw:Region.wanted o (yielded ops tmps)=true)(hd:ni o.op=false) :
  stepG P main (aV (aU c tmps (.inRegion ops (i::rest)::k)) c.cs) w=stepG.apply P true (aU c tmps (.inRegion ops (i::rest)::k)) c.cs none (execOp (aU c tmps (.inRegion ops (i::rest)::k)).eval o) w:=by
 cases hr:c.ro with
 | none=>simp [aV,stepG,stepG.exec,stepG.oper,Frame.oper?,aU,ho,hw,hr]
 | some l =>
  simp only [aV,stepG,stepG.exec,stepG.oper,Frame.oper?,aU,ho,hw,hr,Option.map_some,oT,if_true]
  split
  ·rename_i h1 h2; rw [h2] at hd; cases hd
  ·rfl
theorem abt{tmps:Array Value}{ops:Array Oper}{i:Nat}{rest:List Nat}{o:Oper}{w:World}(ho:ops[i]? = some o)(hw:Region.wanted o (yielded ops tmps)=false) :
  stepG P main (aV (aU c tmps (.inRegion ops (i::rest)::k)) c.cs) w = .go (aV (aU c (fJ o.dst undef tmps) (.inRegion ops rest::k)) c.cs) w:=by
 simp only [aV,stepG,stepG.exec,aU,ho,hw,Option.map_some,oT,Frame.finish,aX,fJ]
 cases o.dst <;> rfl
theorem qT{tmps:Array Value}{ops:Array Oper}{i:Nat}{rest:List Nat}{o:Oper}{v:Value}(ho:ops[i]? = some o) :
  (aU c tmps (.inRegion ops (i::rest)::k)).finish v=aU c (fJ o.dst v tmps) (.inRegion ops rest::k):=by
 simp only [Frame.finish,aU,ho,aX,fJ]
 cases o.dst <;> rfl
def cM(ops:Array Oper)(st:St)(o:Oper):Option Bool :=
 match o.guard with
 | none=>some true
 | some (j,want)=>match ((ops[j]?).bind (·.dst)).bind (st.lookup ·) with
  | some (.bool b)=>some (b == want)
  | some (.tuple _)=>some false
  | _=>none
theorem kQ{n:Nat}{ops:Array Oper}{tmps:Array Value}{o:Oper}{b:Bool}(ht:cX n st tmps)(h:cM ops st o=some b):Region.wanted o (yielded ops tmps)=b:=by
 unfold cM at h
 unfold Region.wanted
 split at h
 ·rename_i hg; simp only [hg]; exact lV h
 ·rename_i j want hg
  simp only [hg,yielded]
  cases hd:(ops[j]?).bind (·.dst) with
  | none=>simp [hd] at h
  | some d =>
   simp only [hd,aX] at h ⊢
   cases hl:st.lookup d with
   | none=>simp [hl] at h
   | some v =>
    rw [hl] at h
    rw [ht.2 d v hl]
    cases v <;> simp at h ⊢ <;> first | (rw [← h]; done) | exact h.symm | (subst h; rfl)
theorem Cv{fr:Frame}{cs:List Frame}{s:Sem Next}{w w':World}{v:Value}(hk:fr.kind ≠ .early)(hr:s.run P w = .ok (.value v) w') :
  stepG.apply P true fr cs none s w = .go (aV (fr.finish v) cs) w' (seen P fr.fn (s.events P w #[])):=by
 have dI:(fr.kind == CallKind.early)=false:=by simpa using hk
 simp [stepG.apply,hr,aV,dI,GStep.after]
theorem TR{fr:Frame}{cs:List Frame}{s:Sem Next}{w w':World}(hk:fr.kind ≠ .early)(hr:s.run P w = .ok .skip w') :
  stepG.apply P true fr cs none s w = .go (aV (fr.finish undef) cs) w' (seen P fr.fn (s.events P w #[])):=by
 have dI:(fr.kind == CallKind.early)=false:=by simpa using hk
 simp [stepG.apply,hr,aV,dI,GStep.after]
theorem IT{fr:Frame}{cs:List Frame}{s:Sem Next}{w w':World}{f:FuncId}{args:Array Value}{ops:Array Oper}{is:List Nat}{k:List Item}(ht:fr.todo = .inRegion ops is::k)(hk:fr.kind ≠ .early)(hr:s.run P w = .ok (.enter f args) w') :
  stepG.apply P true fr cs none s w = .go (aV (Frame.enter P f args .normal) (fr::cs)) w' (seen P fr.fn (s.events P w #[])):=by
 have dI:(fr.kind == CallKind.early)=false:=by simpa using hk
 simp [stepG.apply,hr,aV,dI,GStep.after,ht]
theorem U.op{ops:Array Oper}{i:Nat}{rest:List Nat}{o:Oper}(ho:ops[i]? = some o)(hw:cM ops st o=some true)(hd:ni o.op=false)(hk:c.kind ≠ .early)
  (h:∀ ρ,Knows st ρ→aQ P B R H (execOp ρ o) λ nx R' H'=>∃ v,(nx = .value v∨(nx = .skip∧v=undef))∧cj o.dst c.n∧∃ st',aI (cx o.dst v st) st'∧U ab c R' H' st' (.inRegion ops rest::k)) :
  U ab c R H st (.inRegion ops (i::rest)::k):=by
 intro tmps ht
 refine ab.step rfl λ w q8=>?_
 obtain ⟨nx,w',R',H',h1,h2,h3,v,hv,l5,st',hs,j4⟩:=h _ (ht.knows c _) w q8
 refine ⟨aV (aU c (fJ o.dst v tmps) (.inRegion ops rest::k)) c.cs,w',seen P c.fn ((execOp (aU c tmps (.inRegion ops (i::rest)::k)).eval o).events P w #[]),R',H',?_,λ e he=>h2 e (mem_seen he),h3,j4 _ ((ht.put v l5).sub hs)⟩
 rw [qz ho (kQ ht hw) hd,← qT (rest:=rest) (k:=k) (c:=c) (tmps:=tmps) (v:=v) ho]
 rcases hv with rfl | ⟨rfl,rfl⟩
 ·exact Cv hk h1
 ·exact TR hk h1
theorem U.unwanted{ops:Array Oper}{i:Nat}{rest:List Nat}{o:Oper}{st':St}(ho:ops[i]? = some o)(hw:cM ops st o=some false)(l5:cj o.dst c.n)(hs:aI (cx o.dst undef st) st')
  (h:U ab c R H st' (.inRegion ops rest::k)):U ab c R H st (.inRegion ops (i::rest)::k) :=
 λ _ ht=>Jd.ctl rfl (λ _=>abt ho (kQ ht hw)) (h _ ((ht.put undef l5).sub hs))
def bg(ab:Jd P B main)(f:FuncId)(args:Array Value)(R:az)(H:ah)(Post:Value→az→ah→Prop):Prop :=
 ∀ fr cs,(∀ v R' H',Post v R' H'→ab.J R' H' (aV (fr.finish v) cs))→ab.J R H (aV (Frame.enter P f args .normal) (fr::cs))
theorem bg.mono{f:FuncId}{args:Array Value}{Post IH:Value→az→ah→Prop}(h:bg ab f args R H Post)(hp:∀ v R' H',Post v R' H'→IH v R' H'):bg ab f args R H IH :=
 λ fr cs hk=>h fr cs λ v R' H' hv=>hk v R' H' (hp v R' H' hv)
theorem U.enters{ops:Array Oper}{i:Nat}{rest:List Nat}{o:Oper}{f:FuncId}{args:Array Value}{Post:Value→az→ah→Prop}(ho:ops[i]? = some o)(hw:cM ops st o=some true)(hd:ni o.op=false)(hk:c.kind ≠ .early)(l5:cj o.dst c.n)
  (he:∀ ρ,Knows st ρ→ai P (execOp ρ o) (.enter f args)) (hf:bg ab f args R H Post)
  (h:∀ v R' H',Post v R' H'→∃ st',aI (cx o.dst v st) st'∧U ab c R' H' st' (.inRegion ops rest::k)) :
  U ab c R H st (.inRegion ops (i::rest)::k):=by
 intro tmps ht
 refine ab.step rfl λ w q8=>?_
 have hv:=he _ (ht.knows c (.inRegion ops (i::rest)::k)) w
 refine ⟨aV (Frame.enter P f args .normal) (aU c tmps (.inRegion ops (i::rest)::k)::c.cs),w,seen P c.fn ((execOp (aU c tmps (.inRegion ops (i::rest)::k)).eval o).events P w #[]),R,H,?_,?_,gf.refl q8,hf _ _ λ v R' H' hp=>?_⟩
 ·rw [qz ho (kQ ht hw) hd]
  exact IT rfl hk hv.1
 ·intro e J5
  have:=mem_seen J5
  rw [hv.2] at this
  simp at this
 ·obtain ⟨st',hs,j4⟩:=h v R' H' hp
  rw [qT ho]
  exact j4 _ ((ht.put v l5).sub hs)
def pO(ab:Jd P B main)(c:Ctx)(o:Oper)(R:az)(H:ah)(st:St)(C:az→ah→St→Prop):Prop :=
 ni o.op=false∧cj o.dst c.n ∧
  ((∀ ρ,Knows st ρ→aQ P B R H (execOp ρ o) λ nx R' H'=>∃ v,(nx = .value v∨(nx = .skip∧v=undef))∧∃ st',aI (cx o.dst v st) st'∧C R' H' st') ∨
   (∃ f args,(∀ ρ,Knows st ρ→ai P (execOp ρ o) (.enter f args))∧bg ab f args R H λ v R' H'=>∃ st',aI (cx o.dst v st) st'∧C R' H' st'))
def aZ(P:Program)(B:Base)(c:Ctx)(o:Oper)(R:az)(H:ah)(st:St)(C:az→ah→St→Prop):Prop :=
 ni o.op=false∧cj o.dst c.n∧∀ ρ,Knows st ρ→aQ P B R H (execOp ρ o) λ nx R' H'=>∃ v,(nx = .value v∨(nx = .skip∧v=undef))∧∃ st',aI (cx o.dst v st) st'∧C R' H' st'
theorem aZ.to{o:Oper}{C:az→ah→St→Prop}(h:aZ P B c o R H st C):pO ab c o R H st C:=⟨h.1,h.2.1,.inl h.2.2⟩
theorem U.step{ops:Array Oper}{i:Nat}{rest:List Nat}{o:Oper}(ho:ops[i]? = some o)(hw:cM ops st o=some true)(hk:(c.kind == CallKind.early)=false)
  (h:pO ab c o R H st λ R' H' st'=>U ab c R' H' st' (.inRegion ops rest::k)):U ab c R H st (.inRegion ops (i::rest)::k):=by
 obtain ⟨hd,l5,h | ⟨f,args,h1,h2⟩⟩:=h
 ·exact U.op ho hw hd (by simpa using hk) λ ρ bl=>(h ρ bl).mono λ nx R' H' ⟨v,hv,hx⟩=>⟨v,hv,l5,hx⟩
 ·exact U.enters ho hw hd (by simpa using hk) l5 h1 h2 λ v R' H' hx=>hx
theorem U.iY{ops:Array Oper}{i:Nat}{rest:List Nat}{o:Oper}(ho:ops[i]? = some o)(hw:cM ops st o=some true)(hk:(c.kind == CallKind.early)=false)
  (h:aZ P B c o R H st λ R' H' st'=>U ab c R' H' st' (.inRegion ops rest::k)):U ab c R H st (.inRegion ops (i::rest)::k):=U.step ho hw hk h.to
theorem U.aIv{id n:Nat}{is:List Nat}{ops:Array Oper}(hn:ops.size=n)(mC:List.range n=is)(h:U ab c R H st (.inRegion ops is::k)):U ab c R H st (.code (.region id ops false)::k):=by
 subst hn; subst mC; exact U.region h
def uL:Nat→List Value→St
 | _,[]=>[]
 | i,v::r=>(i,v)::uL (i+1) r
theorem IU:∀ (args:List Value) (i t:Nat) (v:Value),(uL i args).lookup t=some v→i≤t∧args[t - i]? = some v
 | [],_,_,_,h=>by cases h
 | a::r,i,t,v,h=>by
  simp only [uL,List.lookup_cons] at h
  split at h
  ·rename_i heq
   cases h
   have:t=i:=by simpa using heq
   subst this
   simp
  ·rename_i heq
   have eP:t≠i:=by simpa using heq
   obtain ⟨h1,h2⟩:=IU r (i+1) t v h
   refine ⟨by omega,?_⟩
   have:t - i=(t - (i+1))+1:=by omega
   rw [this]
   simpa using h2
theorem bg.oC{f:FuncId}{fn:Func}{body:Code}{args:List Value}{n:Nat}{Post:Value→az→ah→Prop}(hf:P.funcs[f]? = some fn)(hb:fn.body=some body)(qd:fn.ntmps=n)(hn:Nat.ble args.length n=true)
  (h:∀ fr cs,(∀ v R' H',Post v R' H'→ab.J R' H' (aV (fr.finish v) cs))→U ab ⟨f,.normal,none,n,[],fr::cs⟩ R H (uL 0 args) [.code body]):bg ab f args.toArray R H Post:=by
 subst qd
 intro fr cs hk
 have hn:args.length≤fn.ntmps:=by simpa [Nat.ble_eq] using hn
 have:=h fr cs hk (args.toArray++Array.replicate (fn.ntmps - args.length) undef) ⟨by simp; omega,λ t v ht=>?_⟩
 ·have e:Frame.enter P f args.toArray .normal=aU ⟨f,.normal,none,fn.ntmps,[],fr::cs⟩ (args.toArray++Array.replicate (fn.ntmps - args.length) undef) [.code body]:=by
   simp [Frame.enter,aU,hf,hb]
  rw [e]
  exact this
 ·obtain ⟨_,h2⟩:=IU args 0 t v ht
  have bK:t < args.length:=by
   have:=(iC.1 h2).1
   simpa using this
  rw [Array.getElem?_append_left (by simpa using bK)]
  simpa using h2
def zC(st:St):List ResultVar→Option (List Value)
 | []=>some []
 | .tmp t::r=>match st.lookup t,zC st r with
  | some v,some vs=>some (v::vs)
  | _,_=>none
 | .cell _ _::_=>none
def iM:List Value→Value
 | [v]=>v
 | vs=>.tuple vs.toArray
theorem ajE{st:St}{tmps:Array Value}{n:Nat}(ht:cX n st tmps):∀ (l:List ResultVar) (vs:List Value),zC st l=some vs →
  ai P (l.mapM (m:=Sem) λ
   | .tmp t=>pure (tmps.getD t undef)
   | .cell a t=>do loadVar t (← asAddr (tmps.getD a undef))) vs
 | [],vs,h=>by cases h; exact ai.bD _
 | .tmp t::r,vs,h=>by
  simp only [zC] at h
  cases hl:st.lookup t with
  | none=>simp [hl] at h
  | some v =>
   cases hr:zC st r with
   | none=>simp [hl,hr] at h
   | some us =>
    simp only [hl,hr,iS] at h
    subst h
    rw [List.mapM_cons]
    refine ai.bH (a:=v) ?_ (ai.bH (ajE ht r us hr) (ai.bD _))
    have:tmps.getD t undef=v:=by simp [Array.getD_eq_getD_getElem?,ht.2 t v hl]
    show ai P (pure (tmps.getD t undef)) v
    rw [this]; exact ai.bD _
 | .cell _ _::_,_,h=>by cases h
theorem abN{fn:Func}{st:St}{tmps:Array Value}{n:Nat}{vs:List Value}(ht:cX n st tmps)(h:zC st fn.results.toList=some vs):ai P (results fn tmps) (iM vs):=by
 unfold results
 rw [← Array.toArray_toList (xs:=fn.results),List.mapM_toArray]
 refine ai.bH (ai.map (ajE ht _ _ h)) ?_
 cases vs with
 | nil=>exact ai.bD _
 | cons v r=>cases r with
  | nil=>exact ai.bD _
  | cons _ _=>exact ai.bD _
end
theorem s7(b o n:Nat):(⟨b,o,none⟩:Addr).add n=⟨b,o+n,none⟩:=by
 unfold Addr.add; split
 ·subst_vars; rfl
 ·rfl
def gN(P:Program)(s f off:Nat):Prop:=∀ b o:Nat,ai P (Instr.fieldAt s (.pointer (some ⟨b,o,none⟩)) f) (.pointer (some ⟨b,o+off,none⟩))
def mZ(P:Program)(t e n:Nat):Prop:=P.underlying t=some (.slice e)∧ai P (sizeOf e) n
def wG(P:Program)(t len e n:Nat):Prop:=P.underlying t=some (.array len e)∧ai P (sizeOf e) n
def aln(z:Int):Prop:=-9223372036854775808≤z∧z≤9223372036854775807
theorem akp{z:Int}(h:aln z):IntKind.wrap .i64 z=z:=by
 obtain ⟨h1,h2⟩:=h
 simp only [IntKind.wrap,IntKind.bits,IntKind.signed]
 simp
 omega
section
variable {P:Program} {B:Base} {main:Bool} {ab:Jd P B main} {c:Ctx} {R:az} {H:ah} {st st':St} {o:Oper} {C:az→ah→St→Prop}
theorem Ox.val{v:Value}(mB:ni o.op=false)(hd:cj o.dst c.n)
  (hv:∀ ρ,Knows st ρ→ai P (execOp ρ o) (.value v)) (hs:aI (cx o.dst v st) st') (h:C R H st'):aZ P B c o R H st C :=
 ⟨mB,hd,λ ρ bl=>(hv ρ bl).ok ⟨v,.inl rfl,st',hs,h⟩⟩
theorem Ox.mP{s:(Operand→Value)→Sem Value}{v:Value}(mB:ni o.op=false)(hd:cj o.dst c.n)
  (he:∀ ρ,execOp ρ o=(do let x ← s ρ; pure (.value x))) (hv:∀ ρ,Knows st ρ→ai P (s ρ) v) (hs:aI (cx o.dst v st) st') (h:C R H st'):aZ P B c o R H st C :=
 Ox.val mB hd (λ ρ bl=>by rw [he]; exact ai.bH (hv ρ bl) (ai.bD _)) hs h
theorem Ox.mem{s:(Operand→Value)→Sem Value}(mB:ni o.op=false)(hd:cj o.dst c.n)
  (he:∀ ρ,execOp ρ o=(do let x ← s ρ; pure (.value x)))
  (hv:∀ ρ,Knows st ρ→aQ P B R H (s ρ) λ v R' H'=>∃ st',aI (cx o.dst v st) st'∧C R' H' st'):aZ P B c o R H st C :=
 ⟨mB,hd,λ ρ bl=>by
  rw [he]
  exact aQ.du ((hv ρ bl).mono λ v R' H' ⟨st',hs,h⟩=>aQ.dT ⟨v,.inl rfl,st',hs,h⟩)⟩
theorem Ox.QK{s:(Operand→Value)→Sem Unit}(mB:ni o.op=false)(hd:o.dst=none)
  (he:∀ ρ,execOp ρ o=(do s ρ; pure .skip)) (hs:aI st st')
  (hv:∀ ρ,Knows st ρ→aQ P B R H (s ρ) λ _ R' H'=>C R' H' st'):aZ P B c o R H st C :=
 ⟨mB,by rw [hd]; rfl,λ ρ bl=>by
  rw [he]
  exact aQ.du ((hv ρ bl).mono λ v R' H' h=>aQ.dT ⟨undef,.inr ⟨rfl,rfl⟩,st',by rw [hd]; exact hs,h⟩)⟩
theorem Ox.move{x:Operand}{v:Value}(au:o.op = .move x)(hx:bj st x=some v)(hd:cj o.dst c.n)
  (hs:aI (cx o.dst v st) st') (h:C R H st'):aZ P B c o R H st C :=
 Ox.val (by rw [au]; rfl) hd (λ ρ bl=>by simp only [execOp,au,bl x v hx]; exact ai.bD _) hs h
theorem Ox.assign{x:Operand}{v:Value}(au:o.op = .assign x)(hx:bj st x=some v)(hd:cj o.dst c.n)
  (hs:aI (cx o.dst v st) st') (h:C R H st'):aZ P B c o R H st C :=
 Ox.val (by rw [au]; rfl) hd (λ ρ bl=>by simp only [execOp,au,bl x v hx]; exact ai.bD _) hs h
theorem Ox.aH3{x y z:Operand}{v:Value}(au:o.op = .pick x y z)(hx:bj st x=some (.bool true))(hy:bj st y=some v)(hd:cj o.dst c.n)
  (hs:aI (cx o.dst v st) st') (h:C R H st'):aZ P B c o R H st C :=
 Ox.val (by rw [au]; rfl) hd (λ ρ bl=>by
  simp only [execOp,au,bl x _ hx,bl y v hy,asBool]
  exact ai.bH (ai.bD true) (ai.bD _)) hs h
theorem Ox.aH2{x y z:Operand}{v:Value}(au:o.op = .pick x y z)(hx:bj st x=some (.bool false))(hz:bj st z=some v)(hd:cj o.dst c.n)
  (hs:aI (cx o.dst v st) st') (h:C R H st'):aZ P B c o R H st C :=
 Ox.val (by rw [au]; rfl) hd (λ ρ bl=>by
  simp only [execOp,au,bl x _ hx,bl z v hz,asBool]
  exact ai.bH (ai.bD false) (ai.bD _)) hs h
theorem Ox.fieldAddr{x:Operand}{s f off b n:Nat}(au:o.op = .fieldAddr s x f)(hx:bj st x=some (.pointer (some ⟨b,n,none⟩)))(hf:gN P s f off)(hd:cj o.dst c.n)
  (hs:aI (cx o.dst (.pointer (some ⟨b,n+off,none⟩)) st) st') (h:C R H st'):aZ P B c o R H st C :=
 Ox.mP (s:=λ ρ=>Instr.fieldAt s (ρ x) f) (by rw [au]; rfl) hd (λ ρ=>by simp only [execOp,au]) (λ ρ bl=>by rw [bl x _ hx]; exact hf b n) hs h
theorem abM{t e n b m len cap:Nat}{kd:IntKind}{j:Nat}(ht:mZ P t e n)(hj:j < len) :
  ai P (Instr.indexAt t (.slice (some ⟨b,m,none⟩) len cap) (.int kd (j:Int))) (.pointer (some ⟨b,m+j * n,none⟩)):=by
 unfold Instr.indexAt
 refine ai.bH (a:=(kd,(j:Int))) (ai.bD _) (ai.bH (ai.underlying ht.1) (ai.bH (a:=(some (⟨b,m,none⟩:Addr),len,e)) (ai.bD _) (ai.bH (ai.underlying ht.1) ?_)))
 have h1:(0:Int)≤(j:Int)∧(j:Int) < (len:Int):=by omega
 simp only [h1,and_self,if_true,n9]
 refine ai.bH ht.2 ?_
 rw [s7]
 exact ai.bD _
theorem aKc{t e n b m len:Nat}{kd:IntKind}{j:Nat}(ht:wG P t len e n)(hj:j < len) :
  ai P (Instr.indexAt t (.pointer (some ⟨b,m,none⟩)) (.int kd (j:Int))) (.pointer (some ⟨b,m+j * n,none⟩)):=by
 unfold Instr.indexAt
 refine ai.bH (a:=(kd,(j:Int))) (ai.bD _) (ai.bH (ai.underlying ht.1) (ai.bH (a:=(⟨b,m,none⟩:Addr)) (ai.bD _) (ai.bH (a:=(some (⟨b,m,none⟩:Addr),len,e)) (ai.bD _) (ai.bH (ai.underlying ht.1) ?_))))
 have h1:(0:Int)≤(j:Int)∧(j:Int) < (len:Int):=by omega
 simp only [h1,and_self,if_true,n9]
 refine ai.bH ht.2 ?_
 rw [s7]
 exact ai.bD _
theorem H3(op:BinOp)(t:TypeId)(x y:Operand)(ka kb:IntKind)(a b:Int):ai P (eqGuard op t x y (.int ka a) (.int kb b)) ():=by
 unfold eqGuard
 cases op <;> exact ai.bD _
def Uy:BinOp→Int→Int→Option Bool
 | .eql,x,y=>some (x == y)
 | .neq,x,y=>some (x != y)
 | .lss,x,y=>some (decide (x < y))
 | .leq,x,y=>some (decide (x≤y))
 | .gtr,x,y=>some (decide (x > y))
 | .geq,x,y=>some (decide (x ≥ y))
 | _,_,_=>none
theorem Ox.cmp{x y:Operand}{bo:BinOp}{t u:TypeId}{a b:Int}{kd:IntKind}{r:Bool}(au:o.op = .binOp bo t x y u)(hx:bj st x=some (.int kd a))(hy:bj st y=some (.int kd b))(hr:Uy bo a b=some r)
  (hd:cj o.dst c.n) (hs:aI (cx o.dst (.bool r) st) st') (h:C R H st'):aZ P B c o R H st C :=
 Ox.mP (s:=λ ρ=>do eqGuard bo t x y (ρ x) (ρ y); binOp bo t (ρ x) (ρ y)) (by rw [au]; rfl) hd (λ ρ=>by simp only [execOp,au]) (λ ρ bl=>by
  rw [bl x _ hx,bl y _ hy]
  refine ai.bH (H3 _ _ _ _ _ _ _ _) ?_
  cases bo <;> simp only [Uy,iS,reduceCtorEq] at hr <;> subst hr <;> simp only [binOp,ne_eq,kV,if_false] <;> exact ai.bD _) hs h
def TS:BinOp→Int→Int→Option Int
 | .add,x,y=>some (x+y)
 | .sub,x,y=>some (x - y)
 | .mul,x,y=>some (x * y)
 | _,_,_=>none
theorem Ox.not{x:Operand}{t:TypeId}{a:Bool}(au:o.op = .unOp .not t x)(hx:bj st x=some (.bool a))
  (hd:cj o.dst c.n) (hs:aI (cx o.dst (.bool (!a)) st) st') (h:C R H st'):aZ P B c o R H st C :=
 Ox.mP (s:=λ ρ=>Op.unary .not (ρ x)) (by rw [au]; rfl) hd (λ ρ=>by simp only [execOp,au]) (λ ρ bl=>by rw [bl x _ hx]; exact ai.bD _) hs h
theorem Ox.extract{x:Operand}{j:Nat}{vs:Array Value}{v:Value}(au:o.op = .extract x j)(hx:bj st x=some (.tuple vs))(hj:vs[j]? = some v)
  (hd:cj o.dst c.n) (hs:aI (cx o.dst v st) st') (h:C R H st'):aZ P B c o R H st C :=
 Ox.mP (s:=λ ρ=>Instr.extract (ρ x) j) (by rw [au]; rfl) hd (λ ρ=>by simp only [execOp,au]) (λ ρ bl=>by
  rw [bl x _ hx]
  simp only [Instr.extract,hj]; exact ai.bD _) hs h
theorem Ox.makeFunc{fn:Fn}{first captured:Array Operand}{vs us:Array Value}(au:o.op = .makeFunc fn first captured)(h1:first.toList.mapM (bj st)=some vs.toList)(h2:captured.toList.mapM (bj st)=some us.toList)
  (hd:cj o.dst c.n) (hs:aI (cx o.dst (.func fn vs us) st) st') (h:C R H st'):aZ P B c o R H st C :=
 Ox.mP (s:=λ ρ=>Instr.makeFunc fn (first.map ρ) (captured.map ρ)) (by rw [au]; rfl) hd (λ ρ=>by simp only [execOp,au]) (λ ρ bl=>by
  have key:∀ (l:List Operand) (r:List Value),l.mapM (bj st)=some r→l.map ρ=r:=by
   intro l
   induction l with
   | nil=>intro r hr; simpa using hr
   | cons a l ih =>
    intro r hr
    rw [List.mapM_cons] at hr
    cases ha:bj st a with
    | none=>simp [ha] at hr
    | some u =>
     cases hl:l.mapM (bj st) with
     | none=>simp [ha,hl] at hr
     | some us =>
      simp [ha,hl] at hr
      subst hr
      simp [bl a u ha,ih us hl]
  have e1:first.map ρ=vs:=by apply Array.ext'; simpa using key _ _ h1
  have e2:captured.map ρ=us:=by apply Array.ext'; simpa using key _ _ h2
  rw [e1,e2]
  exact ai.bD _) hs h
theorem Ox.len{x:Operand}{t e:TypeId}{a:Option Addr}{n cap:Nat}(au:o.op = .call ⟨.builtin .len,#[x],#[t]⟩)(hx:bj st x=some (.slice a n cap))(ht:P.underlying t=some (.slice e))
  (hd:cj o.dst c.n) (hs:aI (cx o.dst (.int .i64 (n:Int)) st) st') (h:C R H st'):aZ P B c o R H st C :=
 Ox.val (by rw [au]; rfl) hd (λ ρ bl=>by
  simp only [execOp,au]
  refine ai.bH (a:=⟨.builtin .len #[t] o.type (#[x].map λ | .const _=>true | _=>false),#[x].map ρ⟩) (ai.bD _) ?_
  simp only [invoke,builtin]
  refine ai.bH (a:=.int .i64 (n:Int)) ?_ (ai.bD _)
  have e:(#[x].map ρ)=#[.slice a n cap]:=by simp [bl x _ hx]
  rw [e]
  exact ai.bH (ai.underlying ht) (ai.bD _)) hs h
theorem Ox.Ql{x:Operand}{t:TypeId}{s:ByteArray}(au:o.op = .call ⟨.builtin .len,#[x],#[t]⟩)(hx:bj st x=some (.string s))(ht:P.underlying t=some .string)
  (hd:cj o.dst c.n) (hs:aI (cx o.dst (.int .i64 (s.size:Int)) st) st') (h:C R H st'):aZ P B c o R H st C :=
 Ox.val (by rw [au]; rfl) hd (λ ρ bl=>by
  simp only [execOp,au]
  refine ai.bH (a:=⟨.builtin .len #[t] o.type (#[x].map λ | .const _=>true | _=>false),#[x].map ρ⟩) (ai.bD _) ?_
  simp only [invoke,builtin]
  refine ai.bH (a:=.int .i64 (s.size:Int)) ?_ (ai.bD _)
  have e:(#[x].map ρ)=#[.string s]:=by simp [bl x _ hx]
  rw [e]
  exact ai.bH (ai.underlying ht) (ai.bD _)) hs h
theorem ET{f:FuncId}{fn:Func}{args:Array Value}(hf:P.funcs[f]? = some fn)(hn:(fn.name == "runtime.NumGoroutine")=false)(hb:fn.body.isNone=false):ai P (callFunc f args) (.enter f args):=by
 unfold callFunc
 refine ai.bH ai.program ?_
 simp only [hf,hn,hb]
 exact ai.bD _
structure bn (P:Program) (f:FuncId):Prop where
 ex:∃ fn,P.funcs[f]? = some fn∧(fn.name == "runtime.NumGoroutine")=false∧fn.body.isNone=false
def ji(st:St):List Operand→Option (List Value)
 | []=>some []
 | x::r=>match bj st x,ji st r with
  | some v,some vs=>some (v::vs)
  | _,_=>none
theorem Cw{st:St}{ρ:Operand→Value}(bl:Knows st ρ):∀ (l:List Operand) (r:List Value),ji st l=some r→l.map ρ=r
 | [],r,h=>by cases h; rfl
 | x::l,r,h=>by
  simp only [ji] at h
  cases hx:bj st x with
  | none=>simp [hx] at h
  | some v =>
   cases hl:ji st l with
   | none=>simp [hx,hl] at h
   | some vs =>
    simp [hx,hl] at h
    subst h
    simp [bl x v hx,Cw bl l vs hl]
theorem Ox.gg{ca:Call}{x:Operand}{f:FuncId}{first captured:Array Value}{vs:List Value}{args:Array Value}
  (au:o.op = .call ca) (hc:ca.callee = .value x) (hx:bj st x=some (.func (.func f) first captured)) (ha:ji st ca.args.toList=some vs) (he:bn P f) (JS:first++vs.toArray++captured=args)
  (hd:cj o.dst c.n) (hf:bg ab f args R H λ v R' H'=>∃ st',aI (cx o.dst v st) st'∧C R' H' st'):pO ab c o R H st C :=
 ⟨by rw [au]; rfl,hd,.inr ⟨f,args,λ ρ bl=>by
  obtain ⟨fn,h1,h2,h3⟩:=he.ex
  simp only [execOp,au,resolve,hc,bl x _ hx,Deferred.ofValue]
  have e:ca.args.map ρ=vs.toArray:=by apply Array.ext'; simpa using Cw bl _ _ ha
  refine ai.bH (a:=⟨.fn (.func f) captured,first++vs.toArray⟩) (by rw [e]; exact ai.bD _) ?_
  simp only [invoke,JS]
  exact ET h1 h2 h3,hf⟩⟩
end
def jF(P:Program)(t:TypeId)(cs:Array Value):Prop:=∃ z,ai P (zeroValue t) z∧z.cells=cs
def gP(P:Program)(t:TypeId):Prop:=ai P (isAgg t) false∧ai P (sizeOf t) 1
def mX(P:Program)(t:TypeId)(n:Nat):Prop:=ai P (isAgg t) true∧ai P (sizeOf t) n
def aS(R:az)(H:ah)(b o:Nat)(vs:List Value):Prop:=∀ j v,vs[j]? = some v→Cell R H ⟨b,o+j,none⟩ v
theorem aS.known{R:az}{H:ah}{b o n:Nat}{cs:Array Value}{e:TypeId}{fz:Nat × Nat}{vs:List Value}(hm:R b=some (Obj.cells cs e fz))(hv:(cs.toList.drop o).take n=vs):aS R H b o vs:=by
 intro j v hj
 refine ⟨rfl,cs,e,fz,.inl hm,?_⟩
 subst hv
 rw [List.getElem?_take] at hj
 split at hj
 ·rw [List.getElem?_drop] at hj
  simpa using hj
 ·cases hj
def gl(cs:Array Value):Nat→List Value→Array Value
 | _,[]=>cs
 | o,v::r=>gl (cs.setIfInBounds o v) (o+1) r
theorem MF:∀ (vs:List Value) (cs:Array Value) (o:Nat),(gl cs o vs).size=cs.size
 | [],_,_=>rfl
 | v::r,cs,o=>by simp only [gl]; rw [MF r]; simp
theorem fl.mid{H H1 H':ah}{b:Nat}{o o' o'':Obj}(h:fl H b o o' H1)(k:fl H b o o'' H')(hn:(H.map (·.1)).Nodup):fl H1 b o' o'' H':=by
 induction h generalizing H' with
 | @here b o o' H =>
  cases k with
  | here=>exact .here
  | there k =>
   rw [List.map_cons,List.nodup_cons] at hn
   exact absurd (List.mem_map.2 ⟨_,k.mem,rfl⟩) hn.1
 | @there b o o' p H H1 hs ih =>
  cases k with
  | here =>
   rw [List.map_cons,List.nodup_cons] at hn
   exact absurd (List.mem_map.2 ⟨_,hs.mem,rfl⟩) hn.1
  | there k =>
   rw [List.map_cons,List.nodup_cons] at hn
   exact .there (ih k hn.2)
section
variable {P:Program} {B:Base} {main:Bool} {ab:Jd P B main} {c:Ctx} {R:az} {H H':ah} {st st':St} {o:Oper} {C:az→ah→St→Prop}
theorem aQ.RF{b:Nat}{e:TypeId}{K:Unit→az→ah→Prop}:∀ (vs:List Value) (cs:Array Value) (off i:Nat) (H H':ah),(∀ v∈vs,v.oneCell'=true)→off+i+vs.length≤cs.size →
  fl H b (.cells cs e (0,0)) (.cells (gl cs (off+i) vs) e (0,0)) H'→(H.map (·.1)).Nodup→K () R H'→aQ P B R H (storeCells ⟨b,off,none⟩ vs i) K
 | [],cs,off,i,H,H',_,_,hs,hn,hk=>by
  have e1:H'=H:=by
   have:∀ {H H':ah} {o:Obj},fl H b o o H'→H'=H:=by
    intro H H' o h
    induction H generalizing H' with
    | nil=>cases h
    | cons p r ih =>
     cases h with
     | here=>rfl
     | there h=>rw [ih h]
   exact this hs
  subst e1
  simp only [storeCells]
  exact aQ.dT hk
 | v::r,cs,off,i,H,H',h1,hl,hs,hn,hk=>by
  simp only [storeCells]
  simp only [List.length_cons] at hl
  have hex:∀ (H:ah) (o o':Obj),(b,o)∈H→∃ H1,fl H b o o' H1:=by
   intro H o o' hm
   induction H with
   | nil=>cases hm
   | cons p r ih =>
    rcases fa.1 hm with rfl | hm
    ·exact ⟨_,.here⟩
    ·obtain ⟨H1,h1⟩:=ih hm
     exact ⟨_,.there h1⟩
  obtain ⟨H1,r6⟩:=hex H _ (.cells (cs.setIfInBounds (off+i) v) e (0,0)) hs.mem
  have Kx:fl H1 b (.cells (cs.setIfInBounds (off+i) v) e (0,0)) (.cells (gl cs (off+i) (v::r)) e (0,0)) H':=fl.mid r6 hs hn
  refine aQ.du ?_
  rw [s7]
  refine aQ.store (h1 v (by simp)) rfl (by show off+i < cs.size; omega) r6 ?_
  exact aQ.RF r (cs.setIfInBounds (off+i) v) off (i+1) H1 H' (λ u hu=>h1 u (by simp [hu])) (by simp; omega) (by simpa [gl,Nat.add_assoc] using Kx) (by rw [r6.keys]; exact hn) hk
theorem aQ.given{α:Type}{s:Sem α}{K:α→az→ah→Prop}(h:(H.map (·.1)).Nodup→aQ P B R H s K):aQ P B R H s K:=λ w hw=>h hw.nd w hw
theorem aQ.storeVar{t:TypeId}{b off n:Nat}{e:TypeId}{v:Value}{cs:Array Value}{K:Unit→az→ah→Prop}(hn:ai P (sizeOf t) n)(hvn:v.cells.size=n)(h1:∀ u∈v.cells.toList,u.oneCell'=true)(hl:off+n≤cs.size)
  (hs:fl H b (.cells cs e (0,0)) (.cells (gl cs off v.cells.toList) e (0,0)) H') (hk:K () R H'):aQ P B R H (storeVar t ⟨b,off,none⟩ v) K:=by
 refine aQ.given λ di=>?_
 unfold Go.storeVar
 refine ai.fe hn ?_
 simp only [hvn,ne_eq,kV,if_false]
 exact aQ.RF _ cs off 0 H H' h1 (by simp [hvn]; exact hl) (by simpa using hs) di hk
theorem aQ.loadCellsFrom{b off:Nat}{K:Array Value→az→ah→Prop}:∀ (vs:List Value) (i:Nat) (acc:Array Value),aS R H b (off+i) vs→K (acc++vs.toArray) R H→aQ P B R H (loadCellsFrom ⟨b,off,none⟩ i vs.length acc) K
 | [],i,acc,_,hk=>by
  simp only [List.length_nil,Go.loadCellsFrom]
  exact aQ.dT (by simpa using hk)
 | v::r,i,acc,hc,hk=>by
  simp only [List.length_cons,Go.loadCellsFrom]
  refine aQ.du ?_
  rw [s7]
  refine aQ.load (v:=v) (by simpa using hc 0 v rfl) ?_
  refine aQ.loadCellsFrom r (i+1) (acc.push v) (λ j u hj=>?_) (by simpa using hk)
  have:=hc (j+1) u (by simpa using hj)
  simpa [Nat.add_assoc,Nat.add_comm,Nat.add_left_comm] using this
theorem Ox.sf{x:Operand}{t:TypeId}{b off:Nat}{v:Value}(au:o.op = .load t x)(hx:bj st x=some (.pointer (some ⟨b,off,none⟩)))(ht:gP P t)(hc:Cell R H ⟨b,off,none⟩ v)
  (hd:cj o.dst c.n) (hs:aI (cx o.dst v st) st') (h:C R H st'):aZ P B c o R H st C :=
 Ox.mem (s:=λ ρ=>Instr.loadAt t (ρ x)) (by rw [au]; rfl) hd (λ ρ=>by simp only [execOp,au]) (λ ρ bl=>by
  rw [bl x _ hx]
  simp only [Instr.loadAt,Instr.sureAddr,loadVar]
  refine ai.fe (ai.bD _) (ai.fe ht.1 ?_)
  exact aQ.load hc ⟨st',hs,h⟩)
theorem Ox.cu{x:Operand}{t:TypeId}{b off n:Nat}{vs:List Value}(au:o.op = .load t x)(hx:bj st x=some (.pointer (some ⟨b,off,none⟩)))(ht:mX P t n)(hn:vs.length=n)(hc:aS R H b off vs)
  (hd:cj o.dst c.n) (hs:aI (cx o.dst (.agg vs.toArray) st) st') (h:C R H st'):aZ P B c o R H st C :=
 Ox.mem (s:=λ ρ=>Instr.loadAt t (ρ x)) (by rw [au]; rfl) hd (λ ρ=>by simp only [execOp,au]) (λ ρ bl=>by
  rw [bl x _ hx]
  simp only [Instr.loadAt,Instr.sureAddr,loadVar]
  refine ai.fe (ai.bD _) (ai.fe ht.1 ?_)
  simp only [if_true]
  refine ai.fe ht.2 (aQ.du ?_)
  subst hn
  exact aQ.loadCellsFrom vs 0 #[] (by simpa using hc) (aQ.dT ⟨st',by simpa using hs,h⟩))
theorem Ox.kD{x y:Operand}{t e:TypeId}{b off:Nat}{v:Value}{cs cs':Array Value}(au:o.op = .store t x y)(hx:bj st x=some (.pointer (some ⟨b,off,none⟩)))(hy:bj st y=some v)(ht:gP P t)(hv:v.oneCell'=true)(hs:fl H b (.cells cs e (0,0)) (.cells cs' e (0,0)) H')(hl:Nat.blt off cs.size=true)(pb:cs.setIfInBounds off v=cs')
  (hd:o.dst=none) (KD:aI st st') (h:C R H' st'):aZ P B c o R H st C :=
 Ox.QK (s:=λ ρ=>Instr.storeAt t (ρ x) (ρ y)) (by rw [au]; rfl) hd (λ ρ=>by simp only [execOp,au]) KD (λ ρ bl=>by
  rw [bl x _ hx,bl y _ hy]
  simp only [Instr.storeAt,Instr.sureAddr]
  refine ai.fe (ai.bD _) ?_
  have YK:v.cells=#[v]:=by cases v <;> first | rfl | (simp [Value.oneCell'] at hv)
  refine aQ.storeVar (cs:=cs) (e:=e) ht.2 (by rw [YK]; rfl) (by rw [YK]; simpa using hv) (Nat.le_of_ble_eq_true hl) ?_ h
  rw [YK]
  simpa [gl,pb] using hs)
theorem Ox.fT{x y:Operand}{t e:TypeId}{b off n:Nat}{vs:Array Value}{cs cs':Array Value}(au:o.op = .store t x y)(hx:bj st x=some (.pointer (some ⟨b,off,none⟩)))(hy:bj st y=some (.agg vs))(ht:mX P t n)(hn:vs.size=n)(h1:∀ u∈vs.toList,u.oneCell'=true)(hs:fl H b (.cells cs e (0,0)) (.cells cs' e (0,0)) H')(hl:Nat.ble (off+n) cs.size=true)(pb:gl cs off vs.toList=cs')
  (hd:o.dst=none) (KD:aI st st') (h:C R H' st'):aZ P B c o R H st C :=
 Ox.QK (s:=λ ρ=>Instr.storeAt t (ρ x) (ρ y)) (by rw [au]; rfl) hd (λ ρ=>by simp only [execOp,au]) KD (λ ρ bl=>by
  rw [bl x _ hx,bl y _ hy]
  simp only [Instr.storeAt,Instr.sureAddr]
  refine ai.fe (ai.bD _) ?_
  exact aQ.storeVar (cs:=cs) (e:=e) ht.2 hn h1 (Nat.le_of_ble_eq_true hl) (by simpa [Value.cells,pb] using hs) h)
theorem Ox.uP{x:Operand}{t:TypeId}{v:Value}(au:o.op = .box t x)(hx:bj st x=some v)(hv:v.cells=#[v])(hd:cj o.dst c.n)
  (h:∀ b,R b=none→(∀ x,(b,x) ∉ H)→∃ st',aI (cx o.dst (.pointer (some ⟨b,0,none⟩)) st) st'∧C R ((b,.cells #[v] t)::H) st'):aZ P B c o R H st C :=
 Ox.mem (s:=λ ρ=>Instr.box t (ρ x)) (by rw [au]; rfl) hd (λ ρ=>by simp only [execOp,au]) (λ ρ bl=>by
  rw [bl x _ hx]
  simp only [Instr.box,newVar,newRow,hv]
  exact aQ.du (aQ.du (aQ.new λ b h1 h2=>aQ.dT (aQ.dT (h b h1 h2)))))
theorem Ox.adN{x:Operand}{t:TypeId}{vs:Array Value}(au:o.op = .box t x)(hx:bj st x=some (.agg vs))(hd:cj o.dst c.n)
  (h:∀ b,R b=none→(∀ x,(b,x) ∉ H)→∃ st',aI (cx o.dst (.pointer (some ⟨b,0,none⟩)) st) st'∧C R ((b,.cells vs t)::H) st'):aZ P B c o R H st C :=
 Ox.mem (s:=λ ρ=>Instr.box t (ρ x)) (by rw [au]; rfl) hd (λ ρ=>by simp only [execOp,au]) (λ ρ bl=>by
  rw [bl x _ hx]
  simp only [Instr.box,newVar,newRow,Value.cells]
  exact aQ.du (aQ.du (aQ.new λ b h1 h2=>aQ.dT (aQ.dT (h b h1 h2)))))
theorem Ox.alloc{t:TypeId}{cs:Array Value}(au:o.op = .alloc t)(ht:jF P t cs)(hd:cj o.dst c.n)
  (h:∀ b,R b=none→(∀ x,(b,x) ∉ H)→∃ st',aI (cx o.dst (.pointer (some ⟨b,0,none⟩)) st) st'∧C R ((b,.cells cs t)::H) st'):aZ P B c o R H st C :=
 Ox.mem (s:=λ _=>Instr.alloc t true (.tuple #[])) (by rw [au]; rfl) hd (λ ρ=>by simp only [execOp,au]) (λ ρ bl=>by
  obtain ⟨z,hz,rfl⟩:=ht
  simp only [Instr.alloc,newVar,newRow]
  exact ai.fe hz (aQ.du (aQ.du (aQ.new λ b h1 h2=>aQ.dT (aQ.dT (h b h1 h2))))))
def BN(st:St):List (Nat × Operand)→Option (List (Nat × Value))
 | []=>some []
 | (j,x)::r=>match bj st x,BN st r with
  | some v,some vs=>some ((j,v)::vs)
  | _,_=>none
theorem aa4{ρ:Operand→Value}(bl:Knows st ρ):∀ (l:List (Nat × Operand)) (r:List (Nat × Value)),BN st l=some r→l.map (λ (j,x)=>(j,ρ x))=r
 | [],r,h=>by cases h; rfl
 | (j,x)::l,r,h=>by
  simp only [BN] at h
  cases hx:bj st x with
  | none=>simp [hx] at h
  | some v =>
   cases hl:BN st l with
   | none=>simp [hx,hl] at h
   | some vs =>
    simp [hx,hl] at h
    subst h
    simp [bl x v hx,aa4 bl l vs hl]
def wJ(P:Program)(t:TypeId)(places:List (Nat × Nat))(z:Array Value):Prop :=
 jF P t z∧∃ fs:Array Field,P.underlying t=some (.struct fs)∧ai P (fs.mapM λ f=>do pure (f.offset,← sizeOf f.type)) places.toArray
theorem Ox.build{t:TypeId}{parts:Array (Nat × Operand)}{ps:List (Nat × Value)}{places:List (Nat × Nat)}{z cells:Array Value}(au:o.op = .build t parts)(ht:wJ P t places z)(hp:BN st parts.toList=some ps)(hf:Instr.fill (places.toArray[·]?) z ps=some cells)
  (hd:cj o.dst c.n) (hs:aI (cx o.dst (.agg cells) st) st') (h:C R H st'):aZ P B c o R H st C :=
 Ox.mP (s:=λ ρ=>Instr.build t (parts.map λ (j,x)=>(j,ρ x))) (by rw [au]; rfl) hd (λ ρ=>by simp only [execOp,au]) (λ ρ bl=>by
  obtain ⟨⟨z0,hz,rfl⟩,fs,h1,h2⟩:=ht
  have e:(parts.map λ (j,x)=>(j,ρ x))=ps.toArray:=by apply Array.ext'; simpa using aa4 bl _ _ hp
  rw [e]
  unfold Instr.build
  refine ai.bH hz (ai.bH (ai.underlying h1) (ai.bH h2 ?_))
  simp only [hf]
  exact ai.bD _) hs h
def s5(P:Program)(t e n:Nat)(z:Array Value):Prop:=P.underlying t=some (.slice e)∧ai P (sizeOf e) n∧jF P e z∧z.size=n∧0 < n
theorem Ox.buildSlice{t e n len:Nat}{parts:Array (Nat × Operand)}{ps:List (Nat × Value)}{z base cells:Array Value}(au:o.op = .buildSlice t len parts)(ht:s5 P t e n z)(hp:BN st parts.toList=some ps)(hlen:len * n≤16777216)
  (hb:(Array.range (len * n)).map (z[· % z.size]!)=base) (hf:Instr.fill (λ j=>some (j * n,n)) base ps=some cells) (hd:cj o.dst c.n)
  (h:∀ b,R b=none→(∀ x,(b,x) ∉ H)→∃ st',aI (cx o.dst (.slice (some ⟨b,0,none⟩) len len) st) st'∧C R ((b,.cells cells e)::H) st'):aZ P B c o R H st C :=
 Ox.mem (s:=λ ρ=>Instr.buildSlice t len (parts.map λ (j,x)=>(j,ρ x))) (by rw [au]; rfl) hd (λ ρ=>by simp only [execOp,au]) (λ ρ bl=>by
  subst hb
  obtain ⟨h1,h2,⟨z0,hz,rfl⟩,h3,h4⟩:=ht
  have ep:(parts.map λ (j,x)=>(j,ρ x))=ps.toArray:=by apply Array.ext'; simpa using aa4 bl _ _ hp
  rw [ep]
  unfold Instr.buildSlice
  refine ai.fe (ai.underlying h1) (ai.fe h2 ?_)
  have hl:¬ (len * n > 2 ^ 24):=by omega
  simp only [hl,if_false]
  have last:aQ P B R H (do let a ← newRow e cells; pure (.slice (some a) len len)) λ v R' H'=>∃ st',aI (cx o.dst v st) st'∧C R' H' st':=by
   simp only [newRow]
   exact aQ.du (aQ.du (aQ.new λ b h1 h2=>aQ.dT (aQ.dT (h b h1 h2))))
  by_cases h0:len * n=0
  ·simp only [h0,if_true]
   refine ai.fe (ai.bD _) ?_
   have hr:∀ f:Nat→Value,(Array.range 0).map f=#[]:=λ f=>by simp [Array.range]
   simp only [h0,hr] at hf ⊢
   simp only [hf]
   exact last
  ·simp only [h0,if_false]
   refine ai.fe hz (ai.fe (ai.bD _) ?_)
   simp only [hf]
   exact last)
end
def aO(R R':az):Prop:=∀ b o,R b=some o→R' b=some o
theorem aO.refl(R:az):aO R R:=λ _ _ h=>h
theorem aO.trans{R R' cN:az}(h:aO R R')(k:aO R' cN):aO R cN:=λ b o x=>k b o (h b o x)
section
variable {P:Program} {B:Base} {main:Bool} (ab:Jd P B main)
def Ci(c:Ctx)(S:ah)(ops:Array Oper)(i:Nat)(tmps:Array Value)(R:az)(H:ah)(K:Array Value→az→ah→Prop):Prop :=
 ∃ o,ops[i]? = some o∧ni o.op=false ∧
  ((Region.wanted o (yielded ops tmps)=false∧K (fJ o.dst undef tmps) R H) ∨
   (Region.wanted o (yielded ops tmps)=true ∧
   ((aQ P B R H (execOp (aU c tmps []).eval o) λ nx R' H'=>∃ v,(nx = .value v∨(nx = .skip∧v=undef))∧aO R R'∧(∀ p∈S,p∈H→p∈H')∧K (fJ o.dst v tmps) R' H') ∨
    (∃ f args,ai P (execOp (aU c tmps []).eval o) (.enter f args)∧bg ab f args R H λ v R' H'=>aO R R'∧(∀ p∈S,p∈H→p∈H')∧K (fJ o.dst v tmps) R' H'))))
theorem J.given{R:az}{H:ah}{g:Goroutine}(hs:g.status = .running)(h:(∃ w,Fits B R H w)→ab.J R H g):ab.J R H g:=by
 by_cases hw:∃ w,Fits B R H w
 ·exact h hw
 ·exact ab.step hs λ w hf=>absurd ⟨w,hf⟩ hw
def nz(ops:Array Oper)(rem:List Nat)(i:Nat):Bool:=match ops[i]? with
 | some o=>o.after.all λ e=>!Region.binds .any e || !rem.contains e.on
 | none=>false
def Fy(c:Ctx)(S:Nat→ah)(ops:Array Oper)(Q:Array Value→az→ah→Prop):Nat→List Nat→Array Value→az→ah→Prop
 | 0,rem,t,R,H=>rem=[]∧Q t R H
 | n+1,rem,t,R,H=>(rem=[]∧Q t R H)∨(rem≠[]∧((∃ w,Fits B R H w)→∀ i∈rem,nz ops rem i=true→Ci ab c (S i) ops i t R H λ t' R' H'=>Fy c S ops Q n (rem.erase i) t' R' H'))
variable {ab}
def backward(ops:Array Oper):Bool:=(List.range ops.size).all λ i=>match ops[i]? with
 | some o=>o.after.all λ e=>!Region.binds .any e || decide (e.on < i)
 | none=>true
theorem ae4(c:Ctx)(tmps:Array Value)(todo:List Item):(aU c tmps todo).eval=(aU c tmps []).eval:=by
 funext x; cases x <;> rfl
theorem al5{c:Ctx}{S:ah}{ops:Array Oper}{i:Nat}{rest:List Nat}{k:List Item}{tmps:Array Value}{R:az}{H:ah}{K:Array Value→az→ah→Prop}(hk:(c.kind == CallKind.early)=false)(h:Ci ab c S ops i tmps R H K)
  (hK:∀ t R' H',K t R' H'→ab.J R' H' (aV (aU c t (.inRegion ops rest::k)) c.cs)):ab.J R H (aV (aU c tmps (.inRegion ops (i::rest)::k)) c.cs):=by
 obtain ⟨o,ho,hd,h⟩:=h
 have gj:(aU c tmps (.inRegion ops (i::rest)::k)).kind ≠ .early:=by show c.kind≠_; simpa using hk
 rcases h with ⟨h1,h2⟩ | ⟨h1,h2 | ⟨f,args,h2,h3⟩⟩
 ·exact Jd.ctl rfl (λ w=>abt ho h1) (hK _ _ _ h2)
 ·refine ab.step rfl λ w q8=>?_
  obtain ⟨nx,w',R',H',e1,e2,e3,v,hv,_,_,hKK⟩:=h2 w q8
  refine ⟨aV (aU c (fJ o.dst v tmps) (.inRegion ops rest::k)) c.cs,w',seen P c.fn ((execOp (aU c tmps []).eval o).events P w #[]),R',H',?_,λ e he=>e2 e (mem_seen he),e3,hK _ _ _ hKK⟩
  rw [qz ho h1 hd,← qT (rest:=rest) (k:=k) (c:=c) (tmps:=tmps) (v:=v) ho,ae4]
  rcases hv with rfl | ⟨rfl,rfl⟩
  ·exact Cv gj e1
  ·exact TR gj e1
 ·refine ab.step rfl λ w q8=>?_
  have hv:=h2 w
  refine ⟨aV (Frame.enter P f args .normal) (aU c tmps (.inRegion ops (i::rest)::k)::c.cs),w,seen P c.fn ((execOp (aU c tmps []).eval o).events P w #[]),R,H,?_,?_,gf.refl q8,h3 _ _ λ v R' H' hp=>?_⟩
  ·rw [qz ho h1 hd,ae4]
   exact IT rfl gj hv.1
  ·intro e J5
   have:=mem_seen J5
   rw [hv.2] at this
   simp at this
  ·rw [qT ho]
   exact hK _ _ _ hp.2.2
def Ir(ops:Array Oper)(listed:Array Bool)(rem:List Nat):Prop:=listed.size=ops.size∧rem.Nodup∧(∀ i,i∈rem↔(i < ops.size∧listed.getD i true=false))
theorem asc{listed:Array Bool}{i j:Nat}{d:Bool}(hi:i < listed.size):(listed.setIfInBounds i true).getD j d=if i=j then true else listed.getD j d:=by
 simp only [Array.getD_eq_getD_getElem?]
 by_cases h:i=j
 ·subst h; simp [hi]
 ·rw [if_neg h,mW h]
theorem Ir.erase{ops:Array Oper}{listed:Array Bool}{rem:List Nat}(h:Ir ops listed rem){i:Nat}(hi:i∈rem):Ir ops (listed.setIfInBounds i true) (rem.erase i):=by
 obtain ⟨h1,h2,h3⟩:=h
 have bK:i < listed.size:=by rw [h1]; exact ((h3 i).1 hi).1
 refine ⟨by simp [h1],h2.erase _,λ j=>?_⟩
 rw [h2.mem_erase_iff,h3 j,asc bK]
 by_cases e:i=j
 ·subst e; simp
 ·simp [e,Ne.symm e]
theorem ag0:∀ (l:List Nat),l≠[]→∃ m∈l,∀ x∈l,m≤x
 | [],h=>absurd rfl h
 | [a],_=>⟨a,by simp,by simp⟩
 | a::b::r,_=>by
  obtain ⟨m,hm,hl⟩:=ag0 (b::r) (by simp)
  by_cases h:a≤m
  ·exact ⟨a,by simp,λ x hx=>by
    rcases fa.1 hx with rfl | hx
    ·exact eR _
    ·exact Nat.le_trans h (hl x hx)⟩
  ·exact ⟨m,List.mem_cons_of_mem _ hm,λ x hx=>by
    rcases fa.1 hx with rfl | hx
    ·omega
    ·exact hl x hx⟩
theorem acG{c:Ctx}{S:Nat→ah}{ops:Array Oper}{k:List Item}{Q:Array Value→az→ah→Prop}(hk:(c.kind == CallKind.early)=false)(hb:backward ops=true)
  (hQ:∀ t R H,Q t R H→ab.J R H (aV (aU c t k) c.cs)):∀ (fuel t:Nat) (listed:Array Bool) (acc:List Nat) (rem:List Nat) (tmps:Array Value) (R:az) (H:ah),Ir ops listed rem→rem.length≤fuel →
   Fy ab c S ops Q fuel rem tmps R H→∃ is,Region.linearise.go .any ops fuel t listed acc=acc.reverse++is∧ab.J R H (aV (aU c tmps (.inRegion ops is::k)) c.cs)
 | 0,t,listed,acc,rem,tmps,R,H,_,_,h=>⟨[],by simp [Region.linearise.go],Jd.ctl rfl (λ w=>by simp [stepG,stepG.exec,aV,aU]) (hQ _ _ _ h.2)⟩
 | fuel+1,t,listed,acc,rem,tmps,R,H,hA,hl,h=>by
  generalize Pu:((List.range ops.size).filter λ i=>!listed.getD i true && ((ops[i]?).map (·.after.all λ e=>!Region.binds .any e || listed.getD e.on false)).getD false)=rs
  have ix:∀ i,i∈rs→i∈rem∧nz ops rem i=true:=by
   intro i hi
   rw [← Pu] at hi
   simp only [List.mem_filter,List.mem_range,fy,Bool.not_eq_true'] at hi
   obtain ⟨h1,h2,h3⟩:=hi
   refine ⟨(hA.2.2 i).2 ⟨h1,h2⟩,?_⟩
   unfold nz
   cases ho:ops[i]? with
   | none=>simp [ho] at h3
   | some o =>
    simp only [ho,Option.map_some,oT,Array.all_eq_true_iff_forall_mem] at h3 ⊢
    intro e he
    have:=h3 e he
    rcases Bool.or_eq_true_iff.1 this with x | x
    ·simp [x]
    ·have hn:e.on ∉ rem:=λ hm=>by
      have:=((hA.2.2 e.on).1 hm).2
      have bK:e.on < listed.size:=by rw [hA.1]; exact ((hA.2.2 e.on).1 hm).1
      simp only [Array.getD_eq_getD_getElem?,qG bK,oT] at this x
      rw [x] at this; cases this
     simp [hn]
  rcases h with ⟨rfl,hq⟩ | ⟨eP,p8⟩
  ·have awX:rs=[]:=by
    cases rs with
    | nil=>rfl
    | cons a r=>exact absurd (ix a (by simp)).1 (by simp)
   refine ⟨[],?_,Jd.ctl rfl (λ w=>by simp [stepG,stepG.exec,aV,aU]) (hQ _ _ _ hq)⟩
   unfold Region.linearise.go
   simp only [Pu,awX]
   simp
  ·
   have awY:rs≠[]:=by
    obtain ⟨m,hm,awb⟩:=ag0 rem eP
    have W3:=((hA.2.2 m).1 hm).1
    have:m∈rs:=by
     rw [← Pu]
     simp only [List.mem_filter,List.mem_range,fy,Bool.not_eq_true']
     refine ⟨W3,((hA.2.2 m).1 hm).2,?_⟩
     have ho:ops[m]? = some ops[m]:=qG W3
     simp only [ho,Option.map_some,oT,Array.all_eq_true_iff_forall_mem]
     intro e he
     unfold backward at hb
     rw [List.all_eq_true] at hb
     have gE:=hb m (List.mem_range.2 W3)
     simp only [ho,Array.all_eq_true_iff_forall_mem] at gE
     rcases Bool.or_eq_true_iff.1 (gE e he) with x | x
     ·simp [x]
     ·have bK:e.on < m:=by simpa using x
      have hn:e.on ∉ rem:=λ Kk=>by have:=awb _ Kk; omega
      have hl':e.on < listed.size:=by rw [hA.1]; omega
      have h1:listed.getD e.on true=true:=by
       cases hh:listed.getD e.on true with
       | true=>rfl
       | false=>exact absurd ((hA.2.2 e.on).2 ⟨by omega,hh⟩) hn
      simp only [Array.getD_eq_getD_getElem?,qG hl',oT] at h1 ⊢
      simp [h1]
    intro e; rw [e] at this; cases this
   have hlen:t % rs.length < rs.length:=Nat.mod_lt _ (by
    cases rs with
    | nil=>exact absurd rfl awY
    | cons _ _=>simp)
   have hi:rs[t % rs.length]? = some rs[t % rs.length]:=oa hlen
   generalize rs[t % rs.length]=i at hi
   obtain ⟨WC,ln⟩:=ix i (List.mem_of_getElem? hi)
   have XG:=λ hw=>p8 hw i WC ln
   have bK:(rem.erase i).length≤fuel:=by rw [List.length_erase_of_mem WC]; omega
   have hgo:∀ NK,∃ is,Region.linearise.go .any ops fuel (t / rs.length) (listed.setIfInBounds i true) NK=NK.reverse++is:=λ NK=>⟨_,linearise_go_acc .any ops fuel (t / rs.length) (listed.setIfInBounds i true) NK⟩
   obtain ⟨is,mC⟩:=hgo (i::acc)
   refine ⟨i::is,?_,?_⟩
   ·rw [Region.linearise.go]
    simp only [Pu,hi]
    rw [mC]; simp
   ·refine J.given ab rfl λ hw=>?_
    refine al5 hk (XG hw) λ t' R' H' hK=>?_
    obtain ⟨sa,h1,h2⟩:=acG hk hb hQ fuel (t / rs.length) (listed.setIfInBounds i true) (i::acc) (rem.erase i) t' R' H' (hA.erase WC) bK hK
    rw [mC] at h1
    have:is=sa:=by simpa using h1
    rw [this]; exact h2
end
section
variable {P:Program} {B:Base} {main:Bool} {ab:Jd P B main}
def noSelect(o:Oper):Bool:=match o.op with | .select _ _=>false | _=>true
def looks(ops:Array Oper)(o:Oper):List Nat :=
 (o.op.operands.toList.filterMap λ | .tmp t=>some t | _=>none)++(match o.guard with | some (j,_)=>((ops[j]?).bind (·.dst)).toList | none=>[])
def IS(ops:Array Oper)(a b:Oper):Bool :=
 (match a.dst with | some d=>!(looks ops b).contains d && b.dst != some d | none=>true) && (match b.dst with | some d=>!(looks ops a).contains d | none=>true)
theorem aIa{a b:Option Tmp}{v u:Value}{t:Array Value}(h:∀ d,a=some d→b≠some d):fJ a v (fJ b u t)=fJ b u (fJ a v t):=by
 cases a with
 | none=>rfl
 | some x=>cases b with
  | none=>rfl
  | some y =>
   have eP:x≠y:=λ e=>h x rfl (by rw [e])
   simp only [fJ]
   exact Array.setIfInBounds_comm u v (Ne.symm eP)
theorem aqs{c:Ctx}{t:Array Value}{dst:Option Tmp}{v:Value}{x:Operand}(h:∀ d,dst=some d→x ≠ .tmp d):(aU c (fJ dst v t) []).eval x=(aU c t []).eval x:=by
 cases dst with
 | none=>rfl
 | some d=>cases x with
  | tmp y =>
   have eP:d≠y:=λ e=>h d rfl (by rw [e])
   simp only [aU,Frame.eval,fJ,Array.getD_eq_getD_getElem?]
   rw [mW eP]
  | _=>rfl
theorem afl{c:Ctx}{ops:Array Oper}{t:Array Value}{dst:Option Tmp}{v:Value}{o:Oper}(hs:noSelect o=true)(h:∀ d,dst=some d→d ∉ looks ops o):execOp (aU c (fJ dst v t) []).eval o=execOp (aU c t []).eval o:=by
 refine execOp_congr o (λ cs b e=>by rw [noSelect,e] at hs; cases hs) λ x hx=>aqs λ d hd e=>h d hd ?_
 subst e
 unfold looks
 exact lT _ (List.mem_filterMap.2 ⟨_,Array.mem_toList_iff.2 hx,rfl⟩)
theorem akj{ops:Array Oper}{t:Array Value}{dst:Option Tmp}{v:Value}{o:Oper}(h:∀ d,dst=some d→d ∉ looks ops o):Region.wanted o (yielded ops (fJ dst v t))=Region.wanted o (yielded ops t):=by
 unfold Region.wanted
 cases hg:o.guard with
 | none=>rfl
 | some g =>
  obtain ⟨j,want⟩:=g
  simp only [yielded]
  cases hd:(ops[j]?).bind (·.dst) with
  | none=>rfl
  | some d =>
   simp only [aX]
   cases dst with
   | none=>rfl
   | some d' =>
    have eP:d'≠d:=λ e=>h d' rfl (by
     subst e
     unfold looks
     rw [hg]
     exact fO _ (by simp [hd]))
    simp only [fJ]
    rw [mW eP]
theorem adv{ops:Array Oper}{a b:Oper}(h:IS ops a b=true):(∀ d,a.dst=some d→d ∉ looks ops b∧b.dst≠some d)∧(∀ d,b.dst=some d→d ∉ looks ops a):=by
 unfold IS at h
 rw [fy] at h
 refine ⟨λ d hd=>?_,λ d hd=>?_⟩
 ·rw [hd] at h; simpa using h.1
 ·rw [hd] at h; simpa using h.2
theorem Ci.fJ{c:Ctx}{S:ah}{ops:Array Oper}{j:Nat}{oi oj:Oper}{t:Array Value}{v:Value}{R:az}{H:ah}{K1 K:Array Value→az→ah→Prop}(hj:ops[j]? = some oj)(hs:noSelect oj=true)(lh:IS ops oi oj=true){F:ah}(hS:∀ p∈F,p∈H)(hFS:∀ p∈F,p∈S)
  (h:Ci ab c S ops j (fJ oi.dst v t) R H K1) (hK:∀ u R' H',aO R R'→(∀ p∈F,p∈H')→K1 (Go.Lg.fJ oj.dst u (Go.Lg.fJ oi.dst v t)) R' H'→K (Go.Lg.fJ oj.dst u t) R' H'):Ci ab c S ops j t R H K:=by
 obtain ⟨h1,h2⟩:=adv lh
 obtain ⟨o,ho,hd,h⟩:=h
 obtain rfl:o=oj:=lV (ho.symm.trans hj)
 rw [akj (λ d hd=>(h1 d hd).1),afl hs (λ d hd=>(h1 d hd).1)] at h
 refine ⟨o,ho,hd,?_⟩
 rcases h with ⟨a,b⟩ | ⟨a,b | ⟨f,args,b,b'⟩⟩
 ·exact .inl ⟨a,hK _ _ _ (aO.refl _) hS b⟩
 ·exact .inr ⟨a,.inl (b.mono λ nx R' H' ⟨u,x,y,z,hk⟩=>⟨u,x,y,z,hK _ _ _ y (λ p hp=>z p (hFS p hp) (hS p hp)) hk⟩)⟩
 ·exact .inr ⟨a,.inr ⟨f,args,b,b'.mono λ u R' H' ⟨y,z,hk⟩=>⟨y,z,hK _ _ _ y (λ p hp=>z p (hFS p hp) (hS p hp)) hk⟩⟩⟩
def acv(P:Program)(B:Base)(S:ah)(R:az)(ρ:Operand→Value)(o:Oper)(v:Value):Prop :=
 ∀ R' H',aO R R'→(∀ p∈S,p∈H')→aQ P B R' H' (execOp ρ o) λ nx cN dY=>(nx = .value v∨(nx = .skip∧v=undef))∧cN=R'∧dY=H'
def qA(ops:Array Oper)(rem:List Nat)(i:Nat)(D:List Nat):Bool :=
 rem.contains i && nz ops rem i && !D.contains i && D.all (λ j=>rem.contains j && match ops[j]? with | some o=>o.after.any λ e=>Region.binds .any e && (e.on == i || D.contains e.on) | none=>false) &&
 (match ops[i]? with | some oi=>noSelect oi && rem.all (λ j=>j == i || D.contains j || match ops[j]? with | some oj=>noSelect oj && IS ops oi oj | none=>false) | none=>false)
theorem aJN{ops:Array Oper}{rem:List Nat}{i j:Nat}{D:List Nat}(h:qA ops rem i D=true)(gw:j≠i)(rZ:j ∉ D):qA ops (rem.erase j) i D=true:=by
 unfold qA at h ⊢
 simp only [fy,Bool.not_eq_true',List.all_eq_true,List.contains_iff_mem] at h ⊢
 obtain ⟨⟨⟨⟨h1,h2⟩,h3⟩,h4⟩,h5⟩:=h
 refine ⟨⟨⟨⟨(List.mem_erase_of_ne (Ne.symm gw)).2 h1,?_⟩,h3⟩,λ x hx=>⟨(List.mem_erase_of_ne (λ e=>rZ (by rw [← e]; exact hx))).2 (h4 x hx).1,(h4 x hx).2⟩⟩,?_⟩
 ·unfold nz at h2 ⊢
  cases ho:ops[i]? with
  | none=>simp [ho] at h2
  | some o =>
   simp only [ho,Array.all_eq_true_iff_forall_mem] at h2 ⊢
   intro e he
   have:=h2 e he
   rcases Bool.or_eq_true_iff.1 this with x | x
   ·simp [x]
   ·have hn:e.on ∉ rem:=by simpa using x
    have:e.on ∉ rem.erase j:=λ hm=>hn (List.mem_of_mem_erase hm)
    simp [this]
 ·cases ho:ops[i]? with
  | none=>simp [ho] at h5
  | some oi =>
   simp only [ho,fy,List.all_eq_true] at h5 ⊢
   exact ⟨h5.1,λ x hx=>h5.2 x (List.mem_of_mem_erase hx)⟩
theorem adu{c:Ctx}{S:Nat→ah}{ops:Array Oper}{Q:Array Value→az→ah→Prop}{i:Nat}{oi:Oper}{D:List Nat}{N:ah}{v:Value}(hi:ops[i]? = some oi)(hd:ni oi.op=false):∀ (n:Nat) (rem:List Nat) (t:Array Value) (R:az) (H:ah),
  qA ops rem i D=true→rem.Nodup→(∀ p∈N,p∈H)→(∀ j∈rem,j≠i→j ∉ D→∀ p∈N,p∈S j)→((Region.wanted oi (yielded ops t)=true∧acv P B N R (aU c t []).eval oi v)∨(Region.wanted oi (yielded ops t)=false∧v=undef))→Fy ab c S ops Q n (rem.erase i) (fJ oi.dst v t) R H→Fy ab c S ops Q (n+1) rem t R H:=by
 intro n
 induction n with
 | zero =>
  intro rem t R H jw di hS yJ q8 h
  unfold qA at jw
  simp only [fy,List.contains_iff_mem] at jw
  have ix:i∈rem:=jw.1.1.1.1
  refine .inr ⟨(λ e=>by rw [e] at ix; cases ix),λ _ j hj _=>?_⟩
  have gw:j=i:=by
   by_cases e:j=i
   ·exact e
   ·exact absurd ((List.mem_erase_of_ne e).2 hj) (by rw [h.1]; simp)
  subst gw
  rcases q8 with ⟨hw,hf⟩ | ⟨hw,rfl⟩
  ·exact ⟨oi,hi,hd,.inr ⟨hw,.inl ((hf R H (aO.refl _) hS).mono λ nx R' H' ⟨e1,e2,e3⟩=>by subst e2 e3; exact ⟨v,e1,aO.refl _,(λ _ _ h=>h),h⟩)⟩⟩
  ·exact ⟨oi,hi,hd,.inl ⟨hw,h⟩⟩
 | succ n ih =>
  intro rem t R H jw di hS yJ q8 h
  have azA:=jw
  unfold qA at jw
  simp only [fy,List.contains_iff_mem,Bool.not_eq_true',List.all_eq_true] at jw
  obtain ⟨⟨⟨⟨ix,aSE⟩,hiD⟩,hD⟩,p8⟩:=jw
  rw [hi] at p8
  simp only [fy,List.all_eq_true] at p8
  obtain ⟨awe,p8⟩:=p8
  refine .inr ⟨(λ e=>by rw [e] at ix; cases ix),λ YM j hj Bh=>?_⟩
  by_cases gw:j=i
  ·subst gw
   rcases q8 with ⟨hw,hf⟩ | ⟨hw,rfl⟩
   ·exact ⟨oi,hi,hd,.inr ⟨hw,.inl ((hf R H (aO.refl _) hS).mono λ nx R' H' ⟨e1,e2,e3⟩=>by subst e2 e3; exact ⟨v,e1,aO.refl _,(λ _ _ h=>h),h⟩)⟩⟩
   ·exact ⟨oi,hi,hd,.inl ⟨hw,h⟩⟩
  ·
   have rZ:j ∉ D:=λ rZ=>by
    obtain ⟨_,hx⟩:=hD j rZ
    unfold nz at Bh
    cases ho:ops[j]? with
    | none=>simp [ho] at hx
    | some o =>
     simp only [ho,Array.all_eq_true_iff_forall_mem] at Bh hx
     rw [Array.any_eq_true'] at hx
     obtain ⟨e,he,hx⟩:=hx
     have hr:=Bh e he
     rw [fy] at hx
     have nV:e.on∈rem:=by
      rcases Bool.or_eq_true_iff.1 hx.2 with x | x
      ·have:e.on=i:=by simpa using x
       rw [this]; exact ix
      ·have hxD:e.on∈D:=by simpa using x
       exact (hD _ hxD).1
     simp [hx.1,nV] at hr
   have Bg:=p8 j hj
   have WY:∃ oj,ops[j]? = some oj∧noSelect oj=true∧IS ops oi oj=true:=by
    cases ho:ops[j]? with
    | none=>simp [gw,rZ,ho] at Bg
    | some oj=>simp [gw,rZ,ho] at Bg; exact ⟨oj,rfl,Bg.1,Bg.2⟩
   obtain ⟨oj,hoj,awZ,lh⟩:=WY
   rcases h with ⟨he,_⟩ | ⟨_,azc⟩
   ·exact absurd ((List.mem_erase_of_ne gw).2 hj) (by rw [he]; simp)
   have av1:nz ops (rem.erase i) j=true:=by
    unfold nz at Bh ⊢
    simp only [hoj,Array.all_eq_true_iff_forall_mem] at Bh ⊢
    intro e he
    have:=Bh e he
    rcases Bool.or_eq_true_iff.1 this with x | x
    ·simp [x]
    ·have hn:e.on ∉ rem:=by simpa using x
     have:e.on ∉ rem.erase i:=λ hm=>hn (List.mem_of_mem_erase hm)
     simp [this]
   have XG:=azc YM j ((List.mem_erase_of_ne gw).2 hj) av1
   obtain ⟨ha1,ha2⟩:=adv lh
   refine Ci.fJ (oi:=oi) (v:=v) hoj awZ lh hS (yJ j hj gw rZ) XG λ u R' H' hR VW hA=>?_
   refine ih (rem.erase j) (fJ oj.dst u t) R' H' (aJN azA gw rZ) (di.erase _) VW (λ x hx=>yJ x (List.mem_of_mem_erase hx)) ?_ ?_
   ·rw [akj (λ d hd=>ha2 d hd)]
    refine q8.imp (λ ⟨hw,hf⟩=>⟨hw,λ cN dY tn as4=>?_⟩) id
    rw [afl (ops:=ops) awe (λ d hd=>ha2 d hd)]
    exact hf cN dY (hR.trans tn) as4
   ·rw [List.erase_comm,aIa (a:=oi.dst) (b:=oj.dst) (λ d hd=>(ha1 d hd).2)]
    exact hA
variable {c:Ctx} {S:Nat→ah} {ops:Array Oper} {k:List Item} {R:az} {H:ah} {st st':St} {rem:List Nat} {n:Nat}
def Any(ab:Jd P B main)(c:Ctx)(S:Nat→ah)(ops:Array Oper)(k:List Item)(n:Nat)(rem:List Nat)(R:az)(H:ah)(st:St):Prop :=
 rem.Nodup∧∀ tmps,cX c.n st tmps→Fy ab c S ops (λ t R H=>ab.J R H (aV (aU c t k) c.cs)) n rem tmps R H
theorem U.draw{id:Nat}{is:List Nat}{n:Nat}(S:Nat→ah)(hm:P.follows .mixedOrders=true)(hk:(c.kind == CallKind.early)=false)(hb:backward ops=true)(hn:ops.size=n)(mC:List.range n=is)(h:Any ab c S ops k n is R H st):U ab c R H st (.code (.region id ops true)::k):=by
 intro tmps ht
 subst hn; subst mC
 refine ab.step rfl λ w hw=>?_
 have hA:Ir ops (Array.replicate ops.size false) (List.range ops.size):=⟨by simp,List.nodup_range,λ i=>by
  simp only [List.mem_range,Array.getD_eq_getD_getElem?]
  constructor
  ·intro hi; exact ⟨hi,by simp [hi]⟩
  ·exact λ x=>x.1⟩
 have key:=λ t=>acG (ab:=ab) (k:=k) hk hb (λ _ _ _ hq=>hq) ops.size t _ [] _ tmps R H hA (by simp) (h.2 tmps ht)
 obtain ⟨is,h1,h2⟩:=key (if (Question.order c.fn id).forced then 0 else (Question.order c.fn id).cut (w.tape w.drawn (.order c.fn id)))
 refine ⟨aV (aU c tmps (.inRegion ops is::k)) c.cs,{ w with drawn:=w.drawn+1 },#[],R,H,?_,by simp,⟨⟨hw.r,hw.h,hw.nd,hw.dj,hw.os,hw.tape,hw.out⟩,λ _ _ x=>x,eR _,λ _ _ _=>rfl,λ _ _ x=>.inl x,λ _ o x=>.inl ⟨o,x⟩⟩,h2⟩
 simp only [Question.forced,nF,if_false,List.reverse_nil,List.nil_append] at h1
 simp [stepG,stepG.exec,aV,aU,choose,Sem.run,Question.forced,Region.schedule,hm,Region.linearise,h1]
theorem U.aoG{id:Nat}{is:List Nat}{n:Nat}(hm:P.follows .mixedOrders=true)(hk:(c.kind == CallKind.early)=false)(hb:backward ops=true)(hn:ops.size=n)(mC:List.range n=is)(h:Any ab c (λ _=>H) ops k n is R H st):U ab c R H st (.code (.region id ops true)::k):=U.draw (λ _=>H) hm hk hb hn mC h
theorem pO.Hk{o:Oper}{i:Nat}{tmps:Array Value}(h:pO ab c o R H st λ R' H' st'=>aO R R'∧(∀ p∈S i,p∈H→p∈H')∧Any ab c S ops k n rem R' H' st')(ho:ops[i]? = some o)(hw:Region.wanted o (yielded ops tmps)=true)(ht:cX c.n st tmps) :
  Ci ab c (S i) ops i tmps R H λ t' R' H'=>Fy ab c S ops (λ t R H=>ab.J R H (aV (aU c t k) c.cs)) n rem t' R' H':=by
 obtain ⟨hd,l5,h | ⟨f,args,h1,h2⟩⟩:=h
 ·exact ⟨o,ho,hd,.inr ⟨hw,.inl ((h _ (ht.knows c [])).mono λ nx R' H' ⟨v,hv,st',hs,hR,hS,hA⟩=>⟨v,hv,hR,hS,hA.2 _ ((ht.put v l5).sub hs)⟩)⟩⟩
 ·exact ⟨o,ho,hd,.inr ⟨hw,.inr ⟨f,args,h1 _ (ht.knows c []),h2.mono λ v R' H' ⟨st',hs,hR,hS,hA⟩=>⟨hR,hS,hA.2 _ ((ht.put v l5).sub hs)⟩⟩⟩⟩
theorem Any.done(h:U ab c R H st k):Any ab c S ops k n [] R H st:=⟨List.nodup_nil,λ tmps ht=>by
 cases n with
 | zero=>exact ⟨rfl,h tmps ht⟩
 | succ n=>exact .inl ⟨rfl,h tmps ht⟩⟩
theorem Any.take{i:Nat}{o:Oper}{v:Value}{N:ah}(D:List Nat)(ho:ops[i]? = some o)(jw:qA ops rem i D=true)(hd:ni o.op=false)(l5:cj o.dst c.n)(hw:cM ops st o=some true)(yJ:∀ j∈rem,j≠i→j ∉ D→∀ p∈N,p∈S j)(hS:∀ p∈N,p∈H)(hf:∀ ρ,Knows st ρ→acv P B N R ρ o v)(hs:aI (cx o.dst v st) st')(di:rem.Nodup)
  {qs:List Nat} (hr:rem.erase i=qs) (h:Any ab c S ops k n qs R H st'):Any ab c S ops k (n+1) rem R H st:=by
 subst hr
 exact ⟨di,λ tmps ht=>adu ho hd n rem tmps R H jw di hS yJ (.inl ⟨kQ ht hw,hf _ (ht.knows c [])⟩) (h.2 _ ((ht.put v l5).sub hs))⟩
theorem Any.EN{i d:Nat}{o:Oper}{v:Value}{N:ah}(D:List Nat)(ho:ops[i]? = some o)(nU:o.dst=some d)(hw:cM ops st o=some true)(jw:qA ops rem i D=true)(yJ:∀ j∈rem,j≠i→j ∉ D→∀ p∈N,p∈S j)(hS:∀ p∈N,p∈H)
  (hf:∀ R' H',aO R R'→(∀ p∈N,p∈H')→aZ P B c o R' H' st λ R1 H1 mK=>R1=R'∧H1=H'∧mK=[(d,v)]) (hs:aI ((d,v)::st) st') (di:rem.Nodup)
  {qs:List Nat} (hr:rem.erase i=qs) (h:Any ab c S ops k n qs R H st'):Any ab c S ops k (n+1) rem R H st:=by
 have h0:=hf R H (aO.refl _) hS
 refine Any.take (v:=v) D ho jw h0.1 h0.2.1 hw yJ hS (λ ρ bl R' H' hR VW=>?_) (by rw [nU]; exact hs) di hr h
 refine ((hf R' H' hR VW).2.2 ρ bl).mono λ nx cN dY ⟨u,hu,mK,r6,e1,e2,e3⟩=>?_
 subst e3
 rw [nU] at r6
 have huv:u=v:=by
  have:=r6 d v (by simp)
  simp only [cx,List.lookup_cons,beq_self_eq_true] at this
  exact lV this
 subst huv
 exact ⟨hu,e1,e2⟩
theorem Any.aJM{i:Nat}{o:Oper}(D:List Nat)(ho:ops[i]? = some o)(jw:qA ops rem i D=true)(hd:ni o.op=false)(l5:cj o.dst c.n)(hw:cM ops st o=some false)(hs:aI (cx o.dst undef st) st')(di:rem.Nodup)
  {qs:List Nat} (hr:rem.erase i=qs) (h:Any ab c S ops k n qs R H st'):Any ab c S ops k (n+1) rem R H st:=by
 subst hr
 exact ⟨di,λ tmps ht=>adu (v:=undef) (N:=[]) ho hd n rem tmps R H jw di (by simp) (by simp) (.inr ⟨kQ ht hw,rfl⟩) (h.2 _ ((ht.put undef l5).sub hs))⟩
theorem Any.one{i:Nat}{o:Oper}(ho:ops[i]? = some o)(ln:rem.filter (nz ops rem)=[i])(hw:cM ops st o=some true)(di:rem.Nodup){qs:List Nat}(hr:rem.erase i=qs)
  (h:pO ab c o R H st λ R' H' st'=>aO R R'∧(∀ p∈S i,p∈H→p∈H')∧Any ab c S ops k n qs R' H' st'):Any ab c S ops k (n+1) rem R H st:=by
 subst hr
 refine ⟨di,λ tmps ht=>.inr ⟨(λ e=>by rw [e] at ln; cases ln),λ _ j hj Bh=>?_⟩⟩
 have:j∈rem.filter (nz ops rem):=List.mem_filter.2 ⟨hj,Bh⟩
 rw [ln] at this
 obtain rfl:j=i:=by simpa using this
 exact h.Hk ho (kQ ht hw) ht
theorem aDe{H H':ah}(h:∀ p∈H,p∈H'){X:ah}:∀ p∈H,p∈X→p∈H':=λ p hp _=>h p hp
end
section
variable {P:Program} {B:Base} {main:Bool} {ab:Jd P B main} {c:Ctx} {R:az} {H H':ah} {st st':St} {k:List Item}
theorem RO{w:World}(hs:List.Sublist H' H)(hw:Fits B R H w):gf B R H w R H' w :=
 ⟨⟨hw.r,λ b o h=>hw.h b o (hs.subset h),(hs.map _).nodup hw.nd,λ b o h=>hw.dj b o (hs.subset h),hw.os,hw.tape,hw.out⟩,λ _ _ x=>x,eR _,λ _ _ _=>rfl,λ _ _ x=>.inl x,λ _ o x=>.inl ⟨o,hs.subset x⟩⟩
theorem U.bF{todo:List Item}(hs:List.Sublist H' H)(h:U ab c R H' st todo):U ab c R H st todo:=U.ghost (λ _ hw=>RO hs hw) h
theorem J.drop{g:Goroutine}(hs:List.Sublist H' H)(h:ab.J R H' g):ab.J R H g:=ab.ghost (λ _ hw=>RO hs hw) h
theorem abI{w:World}(hs:List.Perm H' H)(hw:Fits B R H w):gf B R H w R H' w :=
 ⟨⟨hw.r,λ b o h=>hw.h b o (hs.subset h),(hs.map _).nodup_iff.2 hw.nd,λ b o h=>hw.dj b o (hs.subset h),hw.os,hw.tape,hw.out⟩,λ _ _ x=>x,eR _,λ _ _ _=>rfl,λ _ _ x=>.inl x,λ _ o x=>.inl ⟨o,hs.subset x⟩⟩
theorem U.perm{todo:List Item}(hs:List.Perm H' H)(h:U ab c R H' st todo):U ab c R H st todo:=U.ghost (λ _ hw=>abI hs hw) h
theorem J.perm{g:Goroutine}(hs:List.Perm H' H)(h:ab.J R H' g):ab.J R H g:=ab.ghost (λ _ hw=>abI hs hw) h
def az.ins(R:az)(b:Nat)(o:Obj):az:=λ x=>if x=b then some o else R x
theorem az.aDb(R:az)(b:Nat)(o:Obj):R.ins b o b=some o:=by simp [az.ins]
theorem az.agN{R:az}{b:Nat}{o:Obj}(h:R b=none):aO R (R.ins b o):=λ x u hx=>by
 unfold az.ins
 split
 ·subst_vars; rw [h] at hx; cases hx
 ·exact hx
theorem aJ0{w:World}{b:Nat}{o:Obj}(hw:Fits B R ((b,o)::H) w):gf B R ((b,o)::H) w (R.ins b o) H w:=by
 have hb:R b=none:=hw.dj b o (by simp)
 have di:=hw.nd
 rw [List.map_cons,List.nodup_cons] at di
 refine ⟨⟨λ x u hx=>?_,λ x u hx=>hw.h x u (by simp [hx]),di.2,λ x u hx=>?_,hw.os,hw.tape,hw.out⟩,az.agN hb,eR _,λ _ _ _=>rfl,λ x u hx=>?_,λ x u hx=>.inl ⟨u,by simp [hx]⟩⟩
 ·unfold az.ins at hx
  split at hx
  ·subst_vars; cases hx; exact hw.h _ _ (by simp)
  ·exact hw.r x u hx
 ·have eP:x≠b:=λ e=>di.1 (List.mem_map.2 ⟨(x,u),hx,e⟩)
  unfold az.ins
  rw [if_neg eP]
  exact hw.dj x u (by simp [hx])
 ·unfold az.ins at hx
  split at hx
  ·subst_vars; exact .inr (.inl ⟨o,by simp⟩)
  ·exact .inl hx
theorem J.freeze{g:Goroutine}{b:Nat}{o:Obj}(h:∀ R',aO R R'→R' b=some o→ab.J R' H g)(hb:R b=none):ab.J R ((b,o)::H) g :=
 ab.ghost (λ _ hw=>aJ0 hw) (h _ (az.agN hb) (az.aDb R b o))
theorem J.ar6{fr:Frame}{cs:List Frame}{b:Nat}{o:Obj}(h:∀ R',aO R R'→R' b=some o→ab.J R' H (aV fr cs)):ab.J R ((b,o)::H) (aV fr cs):=by
 cases hb:R b with
 | none=>exact J.freeze h hb
 | some x =>
  refine ab.step rfl λ w hw=>?_
  have:=hw.dj b o (by simp)
  rw [hb] at this
  cases this
theorem U.freeze{todo:List Item}{b:Nat}{o:Obj}(h:∀ R',aO R R'→R' b=some o→U ab c R' H st todo):U ab c R ((b,o)::H) st todo :=
 λ tmps ht=>J.ar6 λ R' h1 h2=>h R' h1 h2 tmps ht
theorem cX.aiY{n t:Nat}{x:Value}{tmps:Array Value}(hx:st.lookup t=some x)(h:cX n st tmps):cX n ((t,x)::st) tmps:=by
 refine ⟨h.1,λ u v hu=>?_⟩
 rw [List.lookup_cons] at hu
 split at hu
 ·rename_i heq
  have:u=t:=by simpa using heq
  subst this
  cases hu
  exact h.2 _ _ hx
 ·exact h.2 u v hu
theorem U.loop{body:Code}(I:Nat→az→ah→St→Prop)
  (VY:∀ n R H st,I n R H st→(∀ m R' H' st',m < n→I m R' H' st'→U ab c R' H' st' (.inLoop body::k))→U ab c R H st (.code body :: .inLoop body::k))
  {n:Nat} (h0:I n R H st):U ab c R H st (.code (.loop body)::k):=by
 have key:∀ n R H st,I n R H st→U ab c R H st (.code body :: .inLoop body::k):=by
  intro n
  induction n using Nat.strongRecOn with
  | ind n ih=>exact λ R H st hI=>VY n R H st hI λ m R' H' st' hm Vs=>U.inLoop (ih m hm R' H' st' Vs)
 exact U.enterLoop (key n R H st h0)
end
theorem Cell.mono{R R':az}{H:ah}{a:Addr}{v:Value}(h:Cell R [] a v)(hR:aO R R'):Cell R' H a v:=by
 obtain ⟨h1,cs,e,fz,h2,h3⟩:=h
 exact ⟨h1,cs,e,fz,.inl (h2.elim (hR _ _) (λ x=>by cases x)),h3⟩
theorem aS.up{R R':az}{H:ah}{b o:Nat}{vs:List Value}(h:aS R [] b o vs)(hR:aO R R'):aS R' H b o vs:=λ j v hj=>(h j v hj).mono hR
theorem aS.any{R:az}{H:ah}{b o:Nat}{vs:List Value}(h:aS R [] b o vs):aS R H b o vs:=h.up (aO.refl R)
theorem aS.one{R:az}{H:ah}{b o j:Nat}{v:Value}{vs:List Value}(h:aS R H b o vs)(hj:vs[j]? = some v):Cell R H ⟨b,o+j,none⟩ v:=h j v hj
end Go.Lg
