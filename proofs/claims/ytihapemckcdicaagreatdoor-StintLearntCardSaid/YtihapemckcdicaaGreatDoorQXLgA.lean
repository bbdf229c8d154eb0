/- The base of a logic of goroutines in company. Conditions: none. -/
import Derived.Conc.Beside
import Derived.Conc.Events
import Derived.Conc.Listed
import Derived.Orders
namespace Go.Lg
theorem aU{α β:Type}(a:α)(f:α→Option β):(some a).bind f=f a:=rfl
theorem eH(n:Nat):((n:Int)).toNat=n:=rfl
theorem dF{α:Type}{a:α}{as:List α}(bs:List α)(h:a∈as):a∈as++bs:=List.mem_append_left bs h
theorem mM{α:Type}{b:α}(as:List α){bs:List α}(h:b∈bs):b∈as++bs:=List.mem_append_right as h
theorem iO{α:Type}{i:Nat}{a:α}{l:List α}:l[i]? = some a↔∃ h:i < l.length,l[i]=a:=List.getElem?_eq_some_iff
theorem nq{α:Type}{xs:Array α}{i j:Nat}(h:i≠j){a:α}:(xs.setIfInBounds i a)[j]? = xs[j]? := Array.getElem?_setIfInBounds_ne h
theorem mN{α:Type}{l:List α}{i:Nat}(h:i < l.length):l[i]? = some l[i]:=List.getElem?_eq_getElem h
theorem gk{p:Prop}[Decidable p](h:p):decide p=true:=decide_eq_true h
theorem jA{p:Prop}[Decidable p](h:¬p):decide p=false:=decide_eq_false h
theorem uT{α:Type}{xs:Array α}{i:Nat}{a:α}(h:i < xs.size):(xs.setIfInBounds i a)[i]? = some a:=Array.getElem?_setIfInBounds_self_of_lt h
theorem p9{α:Type}{l₁ vP:List α}{i:Nat}(h:l₁.length≤i):(l₁++vP)[i]? = vP[i - l₁.length]? := List.getElem?_append_right h
theorem j8{α:Type}(a b:α):(some a=some b)=(a=b):=Option.some.injEq a b
theorem ns{α:Type}{as bs:List α}:(as++bs).length=as.length+bs.length:=List.length_append
theorem fF(a b:Bool):((a && b)=true)=(a=true∧b=true):=Bool.and_eq_true a b
theorem nS{α:Type}{i:Nat}{l:List α}:(List.take i l).length=min i l.length:=List.length_take
theorem dr(n:Nat):n≤n:=Nat.le_refl n
theorem kY:(¬True)=False:=not_true_eq_false
theorem kz{α:Type}{a b:α}(h:some a=some b):a=b:=Option.some.inj h
theorem uU{α:Type}{l₁ vP:List α}{i:Nat}(h:i < l₁.length):(l₁++vP)[i]? = l₁[i]? := List.getElem?_append_left h
theorem qZ{α:Type}{i:Nat}{l:List α}{a:α}:l.getD i a=(l[i]?).getD a:=List.getD_eq_getElem?_getD
theorem q6{α:Type}{xs:Array α}{i:Nat}(h:i < xs.size):xs[i]? = some xs[i]:=Array.getElem?_eq_getElem h
theorem fy{α:Type}{a b:α}{l:List α}:a∈b::l↔a=b∨a∈l:=List.mem_cons
theorem q7:(true=false)=False:=Bool.true_eq_false
theorem l6:(false=true)=False:=Bool.false_eq_true
theorem oz{α:Type}{a b:α}:(some a).getD b=a:=rfl
open Go.Conc
abbrev az:=Nat→Option Obj
abbrev ah:=List (Nat × Obj)
structure Base where
 os:Os→Prop
 tape:Nat→Question→Nat
 out:Array (Nat × ByteArray)
structure Fits (B:Base) (R:az) (H:ah) (w:World):Prop where
 r:∀ b o,R b=some o→w.heap[b]? = some o
 h:∀ b o,(b,o)∈H→w.heap[b]? = some o
 nd:(H.map (·.1)).Nodup
 dj:∀ b o,(b,o)∈H→R b=none
 os:B.os w.os
 tape:w.tape=B.tape
 out:w.output=B.out
theorem mg{w:World}{b:Nat}{o:Obj}(h:w.heap[b]? = some o):b < w.heap.size:=(Array.getElem?_eq_some_iff.1 h).1
structure gv (B:Base) (R:az) (H:ah) (w:World) (R':az) (H':ah) (w':World):Prop where
 fits:Fits B R' H' w'
 rle:∀ b o,R b=some o→R' b=some o
 size:w.heap.size≤w'.heap.size
 same:∀ b,b < w.heap.size→(∀ o,(b,o) ∉ H)→w'.heap[b]? = w.heap[b]?
 Ix:∀ b o,R' b=some o→R b=some o∨(∃ o',(b,o')∈H)∨w.heap.size≤b
 zU:∀ b o,(b,o)∈H'→(∃ o',(b,o')∈H)∨w.heap.size≤b
theorem gv.refl{B:Base}{R:az}{H:ah}{w:World}(h:Fits B R H w):gv B R H w R H w :=
 ⟨h,λ _ _ x=>x,dr _,λ _ _ _=>rfl,λ _ _ x=>.inl x,λ _ o x=>.inl ⟨o,x⟩⟩
theorem gv.trans{B:Base}{R R' cZ:az}{H H' eI:ah}{w w' Td:World}(h:gv B R H w R' H' w')(k:gv B R' H' w' cZ eI Td):gv B R H w cZ eI Td:=by
 refine ⟨k.fits,λ b o x=>k.rle b o (h.rle b o x),Nat.le_trans h.size k.size,λ b hb hn=>?_,λ b o x=>?_,λ b o x=>?_⟩
 ·rw [k.same b (Nat.lt_of_lt_of_le hb h.size) (λ o ho=>?_),h.same b hb hn]
  rcases h.zU b o ho with ⟨o',fj⟩ | vw
  ·exact hn o' fj
  ·omega
 ·rcases k.Ix b o x with x | ⟨o',x⟩ | x
  ·exact h.Ix b o x
  ·exact .inr (h.zU b o' x)
  ·exact .inr (.inr (Nat.le_trans h.size x))
 ·rcases k.zU b o x with ⟨o',x⟩ | x
  ·exact h.zU b o' x
  ·exact .inr (Nat.le_trans h.size x)
def DD(R:az)(H:ah)(n:Nat)(write:Bool)(b:Nat):Prop:=(write=false∧(R b).isSome=true)∨(∃ o,(b,o)∈H)∨n≤b
def iP(R:az)(H:ah)(n m:Nat)(e:Event):Prop :=
 match e.loc with
 | .cell a=>e.sync=false∧a.block < m∧DD R H n e.write a.block
 | .obj b=>e.sync=false∧b < m∧DD R H n e.write b
 | .mark .noRoom=>True
 | _=>False
theorem DD.up{B:Base}{R R':az}{H H':ah}{w w':World}(h:gv B R H w R' H' w'){wr:Bool}{b:Nat}(k:DD R' H' w'.heap.size wr b):DD R H w.heap.size wr b:=by
 rcases k with ⟨k1,k2⟩ | ⟨o,k⟩ | k
 ·obtain ⟨o,ho⟩:=Option.isSome_iff_exists.1 k2
  rcases h.Ix b o ho with x | x | x
  ·exact .inl ⟨k1,by simp [x]⟩
  ·exact .inr (.inl x)
  ·exact .inr (.inr x)
 ·exact .inr (h.zU b o k)
 ·exact .inr (.inr (Nat.le_trans h.size k))
theorem iP.up{B:Base}{R R':az}{H H':ah}{w w':World}(h:gv B R H w R' H' w'){m:Nat}{e:Event}(k:iP R' H' w'.heap.size m e):iP R H w.heap.size m e:=by
 unfold iP at k ⊢
 split at k
 ·exact ⟨k.1,k.2.1,k.2.2.up h⟩
 ·exact ⟨k.1,k.2.1,k.2.2.up h⟩
 ·trivial
 ·exact k.elim
theorem iP.more{R:az}{H:ah}{n m m':Nat}{e:Event}(hm:m≤m')(k:iP R H n m e):iP R H n m' e:=by
 unfold iP at k ⊢
 split at k
 ·exact ⟨k.1,by omega,k.2.2⟩
 ·exact ⟨k.1,by omega,k.2.2⟩
 ·trivial
 ·exact k.elim
def aO{α:Type}(P:Program)(B:Base)(R:az)(H:ah)(s:Sem α)(K:α→az→ah→Prop):Prop :=
 ∀ w,Fits B R H w→∃ a w' R' H',s.run P w = .ok a w'∧(∀ e∈s.events P w #[],iP R H w.heap.size w'.heap.size e)∧gv B R H w R' H' w'∧K a R' H'
section
variable {P:Program} {B:Base} {R:az} {H:ah}
theorem aO.mono{α:Type}{s:Sem α}{K K':α→az→ah→Prop}(h:aO P B R H s K)(hk:∀ a R' H',K a R' H'→K' a R' H'):aO P B R H s K':=by
 intro w hw
 obtain ⟨a,w',R',H',h1,h2,h3,h4⟩:=h w hw
 exact ⟨a,w',R',H',h1,h2,h3,hk _ _ _ h4⟩
theorem aO.eF{α:Type}{a:α}{K:α→az→ah→Prop}(h:K a R H):aO P B R H (Pure.pure a:Sem α) K :=
 λ w hw=>⟨a,w,R,H,rfl,by simp,gv.refl hw,h⟩
theorem aO.dO{α β:Type}{s:Sem α}{f:α→Sem β}{K:β→az→ah→Prop}(h:aO P B R H s λ a R' H'=>aO P B R' H' (f a) K):aO P B R H (s >>= f) K:=by
 intro w hw
 obtain ⟨a,w',R',H',h1,h2,h3,h4⟩:=h w hw
 obtain ⟨b,Td,cZ,eI,k1,k2,k3,k4⟩:=h4 w' h3.fits
 refine ⟨b,Td,cZ,eI,by simp [h1,k1],λ e he=>?_,h3.trans k3,k4⟩
 rw [Sem.events_bind,h1,Result.evThen_ok,Sem.events_acc] at he
 rcases Array.mem_append.1 he with he | he
 ·exact (h2 e he).more k3.size
 ·exact (k2 e he).up h3
theorem aO.map{α β:Type}{s:Sem α}{f:α→β}{K:β→az→ah→Prop}(h:aO P B R H s λ a R' H'=>K (f a) R' H'):aO P B R H (f <$> s) K:=by
 intro w hw
 obtain ⟨a,w',R',H',h1,h2,h3,h4⟩:=h w hw
 exact ⟨f a,w',R',H',by simp [h1],by simpa using h2,h3,h4⟩
def ai{α:Type}(P:Program)(s:Sem α)(a:α):Prop:=∀ w,s.run P w = .ok a w∧s.events P w #[]=#[]
theorem ai.ok{α:Type}{s:Sem α}{a:α}{K:α→az→ah→Prop}(h:ai P s a)(hk:K a R H):aO P B R H s K :=
 λ w hw=>⟨a,w,R,H,(h w).1,by rw [(h w).2]; simp,gv.refl hw,hk⟩
theorem ai.bF{α:Type}(a:α):ai P (Pure.pure a:Sem α) a:=λ _=>⟨rfl,rfl⟩
theorem ai.bL{α β:Type}{s:Sem α}{f:α→Sem β}{a:α}{b:β}(h:ai P s a)(k:ai P (f a) b):ai P (s >>= f) b :=
 λ w=>⟨by simp [(h w).1,(k w).1],by rw [Sem.events_bind,(h w).1,(h w).2]; exact (k w).2⟩
theorem ai.map{α β:Type}{s:Sem α}{f:α→β}{a:α}(h:ai P s a):ai P (f <$> s) (f a) :=
 λ w=>⟨by simp [(h w).1],by simpa using (h w).2⟩
theorem ai.program:ai P program P:=λ _=>⟨rfl,rfl⟩
theorem ai.underlying{t:TypeId}{d:TypeDesc}(h:P.underlying t=some d):ai P (underlying t) d:=λ w=>⟨by simp [Go.underlying,h],by simp⟩
theorem ai.typeInfo{t:TypeId}{i:TypeInfo}(h:P.info? t=some i):ai P (typeInfo t) i:=λ w=>⟨by simp [Go.typeInfo,h],by simp⟩
theorem ai.fB{α β:Type}{s:Sem α}{f:α→Sem β}{a:α}{K:β→az→ah→Prop}(h:ai P s a)(hk:aO P B R H (f a) K):aO P B R H (s >>= f) K :=
 aO.dO (h.ok hk)
def Cell(R:az)(H:ah)(a:Addr)(v:Value):Prop :=
 a.spot=none∧∃ cs e fz,(R a.block=some (.cells cs e fz)∨(a.block,Obj.cells cs e fz)∈H)∧cs[a.off]? = some v
theorem Cell.at_{w:World}{a:Addr}{v:Value}(h:Cell R H a v)(hw:Fits B R H w):w.cell? a=some v:=by
 obtain ⟨hs,cs,e,fz,h1,h2⟩:=h
 have hh:w.heap[a.block]? = some (.cells cs e fz):=h1.elim (hw.r _ _) (hw.h _ _)
 simp [World.cell?,hh,hs,h2]
theorem Cell.touch{a:Addr}{v:Value}(h:Cell R H a v)(n:Nat):DD R H n false a.block:=by
 obtain ⟨_,cs,e,fz,h1,_⟩:=h
 rcases h1 with h1 | h1
 ·exact .inl ⟨rfl,by simp [h1]⟩
 ·exact .inr (.inl ⟨_,h1⟩)
theorem aHZ{w:World}{a:Addr}{v:Value}(h:w.cell? a=some v):a.block < w.heap.size:=by
 unfold World.cell? at h
 split at h
 ·exact mg ‹_›
 ·cases h
theorem aO.load{a:Addr}{v:Value}{K:Value→az→ah→Prop}(h:Cell R H a v)(hk:K v R H):aO P B R H (load a) K:=by
 intro w hw
 have hc:=h.at_ hw
 refine ⟨v,w,R,H,by simp [hc],?_,gv.refl hw,hk⟩
 intro e he
 simp only [events_load,hc] at he
 simp at he
 subst he
 exact ⟨rfl,aHZ hc,h.touch _⟩
theorem aO.new{o:Obj}{K:Nat→az→ah→Prop}(hk:∀ r,R r=none→(∀ x,(r,x) ∉ H)→K r R ((r,o)::H)):aO P B R H (newObj o) K:=by
 intro w hw
 have hR:R w.heap.size=none:=by
  cases h:R w.heap.size with
  | none=>rfl
  | some x=>exact absurd (mg (hw.r _ _ h)) (Nat.lt_irrefl _)
 have hH:∀ x,(w.heap.size,x) ∉ H:=λ x hx=>absurd (mg (hw.h _ _ hx)) (Nat.lt_irrefl _)
 have vx:∀ b (x:Obj),w.heap[b]? = some x→(w.heap.push o)[b]? = some x:=λ b x hx=>by
  have:=mg hx
  rw [Array.getElem?_push]
  rw [if_neg (by omega)]; exact hx
 refine ⟨w.heap.size,{ w with heap:=w.heap.push o },R,(w.heap.size,o)::H,by simp,by simp,⟨⟨?_,?_,?_,?_,hw.os,hw.tape,hw.out⟩,λ _ _ x=>x,by simp,?_,λ _ _ x=>.inl x,?_⟩,hk _ hR hH⟩
 ·exact λ b x hx=>vx b x (hw.r b x hx)
 ·intro b x hx
  rcases fy.1 hx with hx | hx
  ·cases hx; simp
  ·exact vx b x (hw.h b x hx)
 ·rw [List.map_cons,List.nodup_cons]
  refine ⟨λ hm=>?_,hw.nd⟩
  obtain ⟨p,hp,he⟩:=List.mem_map.1 hm
  have PS:p.1=w.heap.size:=he
  exact hH p.2 (by rw [← PS]; exact hp)
 ·intro b x hx
  rcases fy.1 hx with hx | hx
  ·cases hx; exact hR
  ·exact hw.dj b x hx
 ·intro b hb _
  show (w.heap.push o)[b]? = _
  rw [Array.getElem?_push,if_neg (by omega)]
 ·intro b x hx
  rcases fy.1 hx with hx | hx
  ·cases hx; exact .inr (dr _)
  ·exact .inl ⟨x,hx⟩
inductive fN:ah→Nat→Obj→Obj→ah→Prop
 | here {b:Nat} {o o':Obj} {H:ah}:fN ((b,o)::H) b o o' ((b,o')::H)
 | there {b:Nat} {o o':Obj} {p:Nat × Obj} {H H':ah}:fN H b o o' H'→fN (p::H) b o o' (p::H')
theorem fN.keys{H H':ah}{b:Nat}{o o':Obj}(h:fN H b o o' H'):H'.map (·.1)=H.map (·.1):=by
 induction h with
 | here=>rfl
 | there _ ih=>simp [ih]
theorem fN.mem{H H':ah}{b:Nat}{o o':Obj}(h:fN H b o o' H'):(b,o)∈H:=by
 induction h with
 | here=>simp
 | there _ ih=>exact List.mem_cons_of_mem _ ih
theorem fN.old{H H':ah}{b:Nat}{o o':Obj}(h:fN H b o o' H')(hn:(H.map (·.1)).Nodup):∀ c x,(c,x)∈H'→(c=b∧x=o')∨(c≠b∧(c,x)∈H):=by
 induction h with
 | @here b o o' H =>
  intro c x hx
  rw [List.map_cons,List.nodup_cons] at hn
  rcases fy.1 hx with iz | iz
  ·cases iz; exact .inl ⟨rfl,rfl⟩
  ·refine .inr ⟨λ e=>hn.1 ?_,List.mem_cons_of_mem _ iz⟩
   rw [← e]
   exact List.mem_map.2 ⟨(c,x),iz,rfl⟩
 | @there b o o' p H H' hs ih =>
  intro c x hx
  rw [List.map_cons,List.nodup_cons] at hn
  rcases fy.1 hx with hx | hx
  ·subst hx
   refine .inr ⟨λ e=>hn.1 ?_,by simp⟩
   simp only at e ⊢
   subst e
   exact List.mem_map.2 ⟨_,hs.mem,rfl⟩
  ·exact (ih hn.2 c x hx).imp id λ y=>⟨y.1,List.mem_cons_of_mem _ y.2⟩
theorem Fits.Qi{H':ah}{b:Nat}{o o':Obj}{w:World}(hw:Fits B R H w)(h:fN H b o o' H') :
  gv B R H w R H' { w with heap:=w.heap.setIfInBounds b o' }:=by
 have hb:w.heap[b]? = some o:=hw.h _ _ h.mem
 have bV:=mg hb
 have da:∀ c,c≠b→(w.heap.setIfInBounds b o')[c]? = w.heap[c]? := λ c hc=>nq (by omega)
 refine ⟨⟨?_,?_,by rw [h.keys]; exact hw.nd,?_,hw.os,hw.tape,hw.out⟩,λ _ _ x=>x,by simp,?_,λ _ _ x=>.inl x,?_⟩
 ·intro c x hx
  show (w.heap.setIfInBounds b o')[c]? = _
  rw [da c (λ e=>by subst e; have:=hw.dj _ _ h.mem; rw [hx] at this; cases this)]
  exact hw.r c x hx
 ·intro c x hx
  show (w.heap.setIfInBounds b o')[c]? = _
  rcases h.old hw.nd c x hx with ⟨rfl,rfl⟩ | ⟨hc,hx⟩
  ·rw [uT bV]
  ·rw [da c hc]; exact hw.h c x hx
 ·intro c x hx
  rcases h.old hw.nd c x hx with ⟨rfl,_⟩ | ⟨_,hx⟩
  ·exact hw.dj _ _ h.mem
  ·exact hw.dj c x hx
 ·intro c _ hn
  exact da c (λ e=>by subst e; exact hn _ h.mem)
 ·intro c x hx
  rcases h.old hw.nd c x hx with ⟨rfl,_⟩ | ⟨_,hx⟩
  ·exact .inl ⟨_,h.mem⟩
  ·exact .inl ⟨_,hx⟩
theorem aO.store{a:Addr}{v:Value}{cs:Array Value}{e:TypeId}{H':ah}{K:Unit→az→ah→Prop}(h1:v.oneCell'=true)(ha:a.spot=none)(bV:a.off < cs.size)
  (hs:fN H a.block (.cells cs e (0,0)) (.cells (cs.setIfInBounds a.off v) e (0,0)) H') (hk:K () R H'):aO P B R H (store a v) K:=by
 intro w hw
 have hb:w.heap[a.block]? = some (.cells cs e (0,0)):=hw.h _ _ hs.mem
 have hc:w.cell? a=some cs[a.off]:=by simp [World.cell?,hb,ha,bV]
 have hf:w.frozen? a=false:=by simp [World.frozen?,hb]
 have Qi:w.setCell a v={ w with heap:=w.heap.setIfInBounds a.block (.cells (cs.setIfInBounds a.off v) e (0,0)) }:=by
  simp only [World.setCell]
  congr 1
  apply Array.ext_getElem?
  intro i
  rw [Array.getElem?_modify]
  by_cases hi:a.block=i
  ·subst hi
   rw [uT (mg hb),hb]
   simp [ha]
  ·simp [hi,nq hi]
 refine ⟨(),w.setCell a v,R,H',by rw [run_store P w a v _ h1]; simp [hc,hf],?_,?_,hk⟩
 ·intro e he
  rw [events_store P w #[] a v _ h1] at he
  simp [hc,hf] at he
  subst he
  refine ⟨rfl,?_,.inr (.inl ⟨_,hs.mem⟩)⟩
  simpa [World.setCell] using mg hb
 ·rw [Qi]; exact hw.Qi hs
def Obj.plain:Obj→Bool
 | .cells .. => false
 | .chan .. => false
 | _=>true
theorem aO.getObj{r:Nat}{o:Obj}{K:Obj→az→ah→Prop}(ho:Obj.plain o=true)(h:R r=some o∨(r,o)∈H)(hk:K o R H):aO P B R H (getObj r) K:=by
 intro w hw
 have hh:w.heap[r]? = some o:=h.elim (hw.r _ _) (hw.h _ _)
 have lf:(Go.getObj r).run P w = .ok o w:=by
  cases o <;> simp_all [Obj.plain,Go.getObj,Sem.run]
 have kM:(Go.getObj r).events P w #[]=#[⟨.obj r,false,false⟩]:=by
  cases o <;> simp_all [Obj.plain,Go.getObj,Sem.events,Sem.runT,Obj.isChan,-Sem.runT_eq]
 refine ⟨o,w,R,H,lf,?_,gv.refl hw,hk⟩
 intro e he
 rw [kM] at he
 simp at he
 subst he
 exact ⟨rfl,mg hh,h.elim (λ x=>.inl ⟨rfl,by simp [x]⟩) (λ x=>.inr (.inl ⟨_,x⟩))⟩
theorem aO.setObj{r:Nat}{o o':Obj}{H':ah}{K:Unit→az→ah→Prop}(ho:Obj.plain o=true)(fj:Obj.plain o'=true)(hs:fN H r o o' H')(hk:K () R H'):aO P B R H (setObj r o') K:=by
 intro w hw
 have hh:w.heap[r]? = some o:=hw.h _ _ hs.mem
 have lf:(Go.setObj r o').run P w = .ok () { w with heap:=w.heap.setIfInBounds r o' }:=by
  cases o <;> simp_all [Obj.plain,Go.setObj,Sem.run]
 have kM:(Go.setObj r o').events P w #[]=#[⟨.obj r,true,false⟩]:=by
  cases o <;> simp_all [Obj.plain,Go.setObj,Sem.events,Sem.runT,-Sem.runT_eq] <;> (cases o' <;> simp_all [Obj.isChan])
 refine ⟨(),_,R,H',lf,?_,hw.Qi hs,hk⟩
 intro e he
 rw [kM] at he
 simp at he
 subst he
 exact ⟨rfl,by simpa using mg hh,.inr (.inl ⟨_,hs.mem⟩)⟩
theorem aO.choose{q:Question}{K:Nat→az→ah→Prop}(hk:∀ t,K (if q.forced then 0 else q.cut t) R H):aO P B R H (choose q) K:=by
 intro w hw
 cases hf:q.forced with
 | true =>
  have:=hk 0
  rw [hf] at this
  exact ⟨0,w,R,H,by simp [Go.choose,Sem.run,hf],by simp,gv.refl hw,by simpa using this⟩
 | false =>
  have:=hk (w.tape w.drawn q)
  rw [hf] at this
  exact ⟨q.cut (w.tape w.drawn q),{ w with drawn:=w.drawn+1 },R,H,by simp [Go.choose,Sem.run,hf],by simp,⟨⟨hw.r,hw.h,hw.nd,hw.dj,hw.os,hw.tape,hw.out⟩,λ _ _ x=>x,dr _,λ _ _ _=>rfl,λ _ _ x=>.inl x,λ _ o x=>.inl ⟨o,x⟩⟩,by simpa using this⟩
theorem aO.aKk{K:Unit→az→ah→Prop}(hk:K () R H):aO P B R H (mark .noRoom) K :=
 λ w hw=>⟨(),w,R,H,rfl,by simp [iP],gv.refl hw,hk⟩
end
structure Jd (P:Program) (B:Base) (main:Bool) where
 J:az→ah→Goroutine→Prop
 step:∀ {R H g},g.status = .running→(∀ w,Fits B R H w→∃ g' w' es R' H',stepG P main g w = .go g' w' es∧(∀ e∈es,iP R H w.heap.size w'.heap.size e)∧gv B R H w R' H' w'∧J R' H' g')→J R H g
 ghost:∀ {R H R' H' g},(∀ w,Fits B R H w→gv B R H w R' H' w)→J R' H' g→J R H g
abbrev St:=List (Nat × Value)
structure Ctx where
 fn:FuncId
 kind:CallKind
 ro:Option Nat
 n:Nat
 defers:List Deferred
 cs:List Frame
def aY(fr:Frame)(cs:List Frame):Goroutine:={ frame:=fr,callers:=cs,status:=.running,dying:=none }
def aX(c:Ctx)(tmps:Array Value)(todo:List Item):Frame:={ fn:=c.fn,tmps,todo,defers:=c.defers,mode:=.run,kind:=c.kind,roundOf:=c.ro }
def dh(n:Nat)(st:St)(tmps:Array Value):Prop:=tmps.size=n∧∀ t v,st.lookup t=some v→tmps[t]? = some v
def cz(st:St):St→Prop
 | []=>True
 | p::r=>st.lookup p.1=some p.2∧cz st r
def aB(st st':St):Prop:=∀ t v,st'.lookup t=some v→st.lookup t=some v
theorem cz.sub{st:St}:∀ {st':St},cz st st'→aB st st'
 | [],_,_,_,h=>by cases h
 | p::r,hs,t,v,h=>by
  rw [List.lookup_cons] at h
  split at h
  ·rename_i heq
   cases h
   have:t=p.1:=by simpa using heq
   subst this
   exact hs.1
  ·exact cz.sub hs.2 t v h
theorem aB.refl(st:St):aB st st:=λ _ _ h=>h
theorem dh.sub{n:Nat}{st st':St}{tmps:Array Value}(h:dh n st tmps)(hs:aB st st'):dh n st' tmps:=⟨h.1,λ t v x=>h.2 t v (hs t v x)⟩
def cB(dst:Option Tmp)(v:Value)(st:St):St:=match dst with | some d=>(d,v)::st | none=>st
theorem aB.put{dst:Option Tmp}{d:Tmp}{v:Value}{st:St}(h:dst=some d):aB (cB dst v st) ((d,v)::st):=by subst h; exact aB.refl _
theorem aB.RQ{dst:Option Tmp}{v:Value}{st:St}(h:dst=none):aB (cB dst v st) st:=by subst h; exact aB.refl _
def gd(dst:Option Tmp)(v:Value)(tmps:Array Value):Array Value:=match dst with | some d=>tmps.setIfInBounds d v | none=>tmps
def apx(dst:Option Tmp)(n:Nat):Bool:=match dst with | some d=>Nat.blt d n | none=>true
def cx(dst:Option Tmp)(n:Nat):Prop:=apx dst n=true
theorem cx.lt{d n:Nat}(h:cx (some d) n):d < n:=by
 have:Nat.blt d n=true:=h
 simpa [Nat.blt_eq] using this
theorem dh.put{n:Nat}{st:St}{tmps:Array Value}(h:dh n st tmps){dst:Option Tmp}(v:Value)(hd:cx dst n):dh n (cB dst v st) (gd dst v tmps):=by
 cases dst with
 | none=>exact h
 | some d =>
  refine ⟨by simp [gd,h.1],λ t u hu=>?_⟩
  have hd':d < tmps.size:=by rw [h.1]; exact hd.lt
  simp only [cB,List.lookup_cons] at hu
  split at hu
  ·rename_i heq
   cases hu
   have:t=d:=by simpa using heq
   subst this
   simp [gd,hd']
  ·rename_i heq
   have da:t≠d:=by simpa using heq
   simp only [gd]
   rw [nq (Ne.symm da)]
   exact h.2 t u hu
def bl(st:St):Operand→Option Value
 | .tmp t=>st.lookup t
 | .const v=>some v
 | .global g=>some (.pointer (some ⟨g,0,none⟩))
 | .func f=>some (.func (.func f) #[] #[])
def Knows(st:St)(ρ:Operand→Value):Prop:=∀ x v,bl st x=some v→ρ x=v
theorem dh.knows{n:Nat}{st:St}{tmps:Array Value}(h:dh n st tmps)(c:Ctx)(todo:List Item):Knows st (aX c tmps todo).eval:=by
 intro x v hx
 cases x with
 | tmp t =>
  have:=h.2 t v hx
  simp [aX,Frame.eval,Array.getD_eq_getD_getElem?,this]
 | const u=>cases hx; rfl
 | global g=>cases hx; rfl
 | func f=>cases hx; rfl
section
variable {P:Program} {B:Base} {main:Bool} (ab:Jd P B main)
def At(c:Ctx)(R:az)(H:ah)(st:St)(todo:List Item):Prop:=∀ tmps,dh c.n st tmps→ab.J R H (aY (aX c tmps todo) c.cs)
variable {ab} {c:Ctx} {R:az} {H:ah} {st:St} {k:List Item}
theorem At.sub{st':St}{todo:List Item}(hs:aB st st')(h:At ab c R H st' todo):At ab c R H st todo:=λ tmps ht=>h tmps (ht.sub hs)
theorem At.ghost{R':az}{H':ah}{todo:List Item}(hg:∀ w,Fits B R H w→gv B R H w R' H' w)(h:At ab c R' H' st todo):At ab c R H st todo:=λ tmps ht=>ab.ghost hg (h tmps ht)
theorem Jd.ctl{R:az}{H:ah}{g g':Goroutine}(hs:g.status = .running)(h:∀ w,stepG P main g w = .go g' w)(hj:ab.J R H g'):ab.J R H g :=
 ab.step hs λ w hw=>⟨g',w,#[],R,H,h w,by simp,gv.refl hw,hj⟩
theorem At.skip(h:At ab c R H st k):At ab c R H st (.code .skip::k):=λ tmps ht=>Jd.ctl rfl (λ w=>by simp [stepG,stepG.exec,aY,aX]) (h tmps ht)
theorem At.label{l:Nat}(h:At ab c R H st k):At ab c R H st (.code (.label l)::k):=λ tmps ht=>Jd.ctl rfl (λ w=>by simp [stepG,stepG.exec,aY,aX]) (h tmps ht)
theorem At.bQ{id:Nat}(h:At ab c R H st k):At ab c R H st (.inBlock id::k):=λ tmps ht=>Jd.ctl rfl (λ w=>by simp [stepG,stepG.exec,aY,aX]) (h tmps ht)
theorem At.seq{x y:Code}(h:At ab c R H st (.code x :: .code y::k)):At ab c R H st (.code (.seq x y)::k):=λ tmps ht=>Jd.ctl rfl (λ w=>by simp [stepG,stepG.exec,aY,aX]) (h tmps ht)
theorem At.bf{id:Nat}{x:Code}(h:At ab c R H st (.code x :: .inBlock id::k)):At ab c R H st (.code (.block id x)::k):=λ tmps ht=>Jd.ctl rfl (λ w=>by simp [stepG,stepG.exec,aY,aX]) (h tmps ht)
theorem At.scope{x:Code}(h:At ab c R H st (.code x :: .inScope x::k)):At ab c R H st (.code (.scope x)::k):=λ tmps ht=>Jd.ctl rfl (λ w=>by simp [stepG,stepG.exec,aY,aX]) (h tmps ht)
theorem At.enterLoop{x:Code}(h:At ab c R H st (.code x :: .inLoop x::k)):At ab c R H st (.code (.loop x)::k):=λ tmps ht=>Jd.ctl rfl (λ w=>by simp [stepG,stepG.exec,aY,aX]) (h tmps ht)
theorem At.inLoop{x:Code}(h:At ab c R H st (.code x :: .inLoop x::k)):At ab c R H st (.inLoop x::k):=λ tmps ht=>Jd.ctl rfl (λ w=>by simp [stepG,stepG.exec,aY,aX]) (h tmps ht)
theorem At.cF{id:Nat}{k':List Item}(he:exitTo id k=some k')(h:At ab c R H st k'):At ab c R H st (.code (.exit id)::k):=λ tmps ht=>Jd.ctl rfl (λ w=>by simp [stepG,stepG.exec,aY,aX,he]) (h tmps ht)
theorem At.region{id:Nat}{ops:Array Oper}(h:At ab c R H st (.inRegion ops (List.range ops.size)::k)):At ab c R H st (.code (.region id ops false)::k):=λ tmps ht=>Jd.ctl rfl (λ w=>by simp [stepG,stepG.exec,aY,aX]) (h tmps ht)
theorem At.aV{ops:Array Oper}(h:At ab c R H st k):At ab c R H st (.inRegion ops []::k):=λ tmps ht=>Jd.ctl rfl (λ w=>by simp [stepG,stepG.exec,aY,aX]) (h tmps ht)
theorem At.cond{x:Operand}{th el:Code}{t:Bool}(hx:bl st x=some (.bool t))(h1:t=true→At ab c R H st (.code th::k))(h2:t=false→At ab c R H st (.code el::k)):At ab c R H st (.code (.cond x th el)::k):=by
 intro tmps ht
 have he:=ht.knows c (.code (.cond x th el)::k) x _ hx
 cases t with
 | true=>exact Jd.ctl rfl (λ w=>by simp only [aX] at he; simp [stepG,stepG.exec,aY,aX,he]) (h1 rfl tmps ht)
 | false=>exact Jd.ctl rfl (λ w=>by simp only [aX] at he; simp [stepG,stepG.exec,aY,aX,he]) (h2 rfl tmps ht)
theorem At.cond_true{x:Operand}{th el:Code}(hx:bl st x=some (.bool true))(h:At ab c R H st (.code th::k)):At ab c R H st (.code (.cond x th el)::k):=At.cond hx (λ _=>h) (λ e=>by cases e)
theorem At.cond_false{x:Operand}{th el:Code}(hx:bl st x=some (.bool false))(h:At ab c R H st (.code el::k)):At ab c R H st (.code (.cond x th el)::k):=At.cond hx (λ e=>by cases e) (λ _=>h)
def nG:Op→Bool
 | .defer _=>true
 | _=>false
theorem qS{tmps:Array Value}{ops:Array Oper}{i:Nat}{rest:List Nat}{o:Oper}{w:World}(ho:ops[i]? = some o)(hw:Region.wanted o (yielded ops tmps)=true)(hd:nG o.op=false) :
  stepG P main (aY (aX c tmps (.inRegion ops (i::rest)::k)) c.cs) w=stepG.apply P true (aX c tmps (.inRegion ops (i::rest)::k)) c.cs none (execOp (aX c tmps (.inRegion ops (i::rest)::k)).eval o) w:=by
 cases hr:c.ro with
 | none=>simp [aY,stepG,stepG.exec,stepG.oper,Frame.oper?,aX,ho,hw,hr]
 | some l =>
  simp only [aY,stepG,stepG.exec,stepG.oper,Frame.oper?,aX,ho,hw,hr,Option.map_some,oz,if_true]
  split
  ·rename_i h1 h2; rw [h2] at hd; cases hd
  ·rfl
theorem abR{tmps:Array Value}{ops:Array Oper}{i:Nat}{rest:List Nat}{o:Oper}{w:World}(ho:ops[i]? = some o)(hw:Region.wanted o (yielded ops tmps)=false) :
  stepG P main (aY (aX c tmps (.inRegion ops (i::rest)::k)) c.cs) w = .go (aY (aX c (gd o.dst undef tmps) (.inRegion ops rest::k)) c.cs) w:=by
 simp only [aY,stepG,stepG.exec,aX,ho,hw,Option.map_some,oz,Frame.finish,aU,gd]
 cases o.dst <;> rfl
theorem ru{tmps:Array Value}{ops:Array Oper}{i:Nat}{rest:List Nat}{o:Oper}{v:Value}(ho:ops[i]? = some o) :
  (aX c tmps (.inRegion ops (i::rest)::k)).finish v=aX c (gd o.dst v tmps) (.inRegion ops rest::k):=by
 simp only [Frame.finish,aX,ho,aU,gd]
 cases o.dst <;> rfl
def cY(ops:Array Oper)(st:St)(o:Oper):Option Bool :=
 match o.guard with
 | none=>some true
 | some (j,want)=>match ((ops[j]?).bind (·.dst)).bind (st.lookup ·) with
  | some (.bool b)=>some (b == want)
  | some (.tuple _)=>some false
  | _=>none
theorem lu{n:Nat}{ops:Array Oper}{tmps:Array Value}{o:Oper}{b:Bool}(ht:dh n st tmps)(h:cY ops st o=some b):Region.wanted o (yielded ops tmps)=b:=by
 unfold cY at h
 unfold Region.wanted
 split at h
 ·rename_i hg; simp only [hg]; exact kz h
 ·rename_i j want hg
  simp only [hg,yielded]
  cases hd:(ops[j]?).bind (·.dst) with
  | none=>simp [hd] at h
  | some d =>
   simp only [hd,aU] at h ⊢
   cases hl:st.lookup d with
   | none=>simp [hl] at h
   | some v =>
    rw [hl] at h
    rw [ht.2 d v hl]
    cases v <;> simp at h ⊢ <;> first | (rw [← h]; done) | exact h.symm | (subst h; rfl)
theorem DF{fr:Frame}{cs:List Frame}{s:Sem Next}{w w':World}{v:Value}(hk:fr.kind ≠ .early)(hr:s.run P w = .ok (.value v) w') :
  stepG.apply P true fr cs none s w = .go (aY (fr.finish v) cs) w' (seen P fr.fn (s.events P w #[])):=by
 have ed:(fr.kind == CallKind.early)=false:=by simpa using hk
 simp [stepG.apply,hr,aY,ed,GStep.after]
theorem Uo{fr:Frame}{cs:List Frame}{s:Sem Next}{w w':World}(hk:fr.kind ≠ .early)(hr:s.run P w = .ok .skip w') :
  stepG.apply P true fr cs none s w = .go (aY (fr.finish undef) cs) w' (seen P fr.fn (s.events P w #[])):=by
 have ed:(fr.kind == CallKind.early)=false:=by simpa using hk
 simp [stepG.apply,hr,aY,ed,GStep.after]
theorem J7{fr:Frame}{cs:List Frame}{s:Sem Next}{w w':World}{f:FuncId}{args:Array Value}{ops:Array Oper}{is:List Nat}{k:List Item}(ht:fr.todo = .inRegion ops is::k)(hk:fr.kind ≠ .early)(hr:s.run P w = .ok (.enter f args) w') :
  stepG.apply P true fr cs none s w = .go (aY (Frame.enter P f args .normal) (fr::cs)) w' (seen P fr.fn (s.events P w #[])):=by
 have ed:(fr.kind == CallKind.early)=false:=by simpa using hk
 simp [stepG.apply,hr,aY,ed,GStep.after,ht]
theorem At.op{ops:Array Oper}{i:Nat}{rest:List Nat}{o:Oper}(ho:ops[i]? = some o)(hw:cY ops st o=some true)(hd:nG o.op=false)(hk:c.kind ≠ .early)
  (h:∀ ρ,Knows st ρ→aO P B R H (execOp ρ o) λ nx R' H'=>∃ v,(nx = .value v∨(nx = .skip∧v=undef))∧cx o.dst c.n∧∃ st',aB (cB o.dst v st) st'∧At ab c R' H' st' (.inRegion ops rest::k)) :
  At ab c R H st (.inRegion ops (i::rest)::k):=by
 intro tmps ht
 refine ab.step rfl λ w rF=>?_
 obtain ⟨nx,w',R',H',h1,h2,h3,v,hv,mD,st',hs,kK⟩:=h _ (ht.knows c _) w rF
 refine ⟨aY (aX c (gd o.dst v tmps) (.inRegion ops rest::k)) c.cs,w',seen P c.fn ((execOp (aX c tmps (.inRegion ops (i::rest)::k)).eval o).events P w #[]),R',H',?_,λ e he=>h2 e (mem_seen he),h3,kK _ ((ht.put v mD).sub hs)⟩
 rw [qS ho (lu ht hw) hd,← ru (rest:=rest) (k:=k) (c:=c) (tmps:=tmps) (v:=v) ho]
 rcases hv with rfl | ⟨rfl,rfl⟩
 ·exact DF hk h1
 ·exact Uo hk h1
theorem At.unwanted{ops:Array Oper}{i:Nat}{rest:List Nat}{o:Oper}{st':St}(ho:ops[i]? = some o)(hw:cY ops st o=some false)(mD:cx o.dst c.n)(hs:aB (cB o.dst undef st) st')
  (h:At ab c R H st' (.inRegion ops rest::k)):At ab c R H st (.inRegion ops (i::rest)::k) :=
 λ _ ht=>Jd.ctl rfl (λ _=>abR ho (lu ht hw)) (h _ ((ht.put undef mD).sub hs))
def ba(ab:Jd P B main)(f:FuncId)(args:Array Value)(R:az)(H:ah)(Post:Value→az→ah→Prop):Prop :=
 ∀ fr cs,(∀ v R' H',Post v R' H'→ab.J R' H' (aY (fr.finish v) cs))→ab.J R H (aY (Frame.enter P f args .normal) (fr::cs))
theorem ba.mono{f:FuncId}{args:Array Value}{Post JV:Value→az→ah→Prop}(h:ba ab f args R H Post)(hp:∀ v R' H',Post v R' H'→JV v R' H'):ba ab f args R H JV :=
 λ fr cs hk=>h fr cs λ v R' H' hv=>hk v R' H' (hp v R' H' hv)
theorem At.enters{ops:Array Oper}{i:Nat}{rest:List Nat}{o:Oper}{f:FuncId}{args:Array Value}{Post:Value→az→ah→Prop}(ho:ops[i]? = some o)(hw:cY ops st o=some true)(hd:nG o.op=false)(hk:c.kind ≠ .early)(mD:cx o.dst c.n)
  (he:∀ ρ,Knows st ρ→ai P (execOp ρ o) (.enter f args)) (hf:ba ab f args R H Post)
  (h:∀ v R' H',Post v R' H'→∃ st',aB (cB o.dst v st) st'∧At ab c R' H' st' (.inRegion ops rest::k)) :
  At ab c R H st (.inRegion ops (i::rest)::k):=by
 intro tmps ht
 refine ab.step rfl λ w rF=>?_
 have hv:=he _ (ht.knows c (.inRegion ops (i::rest)::k)) w
 refine ⟨aY (Frame.enter P f args .normal) (aX c tmps (.inRegion ops (i::rest)::k)::c.cs),w,seen P c.fn ((execOp (aX c tmps (.inRegion ops (i::rest)::k)).eval o).events P w #[]),R,H,?_,?_,gv.refl rF,hf _ _ λ v R' H' hp=>?_⟩
 ·rw [qS ho (lu ht hw) hd]
  exact J7 rfl hk hv.1
 ·intro e Lm
  have:=mem_seen Lm
  rw [hv.2] at this
  simp at this
 ·obtain ⟨st',hs,kK⟩:=h v R' H' hp
  rw [ru ho]
  exact kK _ ((ht.put v mD).sub hs)
def qf(ab:Jd P B main)(c:Ctx)(o:Oper)(R:az)(H:ah)(st:St)(C:az→ah→St→Prop):Prop :=
 nG o.op=false∧cx o.dst c.n ∧
  ((∀ ρ,Knows st ρ→aO P B R H (execOp ρ o) λ nx R' H'=>∃ v,(nx = .value v∨(nx = .skip∧v=undef))∧∃ st',aB (cB o.dst v st) st'∧C R' H' st') ∨
   (∃ f args,(∀ ρ,Knows st ρ→ai P (execOp ρ o) (.enter f args))∧ba ab f args R H λ v R' H'=>∃ st',aB (cB o.dst v st) st'∧C R' H' st'))
def bc(P:Program)(B:Base)(c:Ctx)(o:Oper)(R:az)(H:ah)(st:St)(C:az→ah→St→Prop):Prop :=
 nG o.op=false∧cx o.dst c.n∧∀ ρ,Knows st ρ→aO P B R H (execOp ρ o) λ nx R' H'=>∃ v,(nx = .value v∨(nx = .skip∧v=undef))∧∃ st',aB (cB o.dst v st) st'∧C R' H' st'
theorem bc.to{o:Oper}{C:az→ah→St→Prop}(h:bc P B c o R H st C):qf ab c o R H st C:=⟨h.1,h.2.1,.inl h.2.2⟩
theorem At.step{ops:Array Oper}{i:Nat}{rest:List Nat}{o:Oper}(ho:ops[i]? = some o)(hw:cY ops st o=some true)(hk:(c.kind == CallKind.early)=false)
  (h:qf ab c o R H st λ R' H' st'=>At ab c R' H' st' (.inRegion ops rest::k)):At ab c R H st (.inRegion ops (i::rest)::k):=by
 obtain ⟨hd,mD,h | ⟨f,args,h1,h2⟩⟩:=h
 ·exact At.op ho hw hd (by simpa using hk) λ ρ bj=>(h ρ bj).mono λ nx R' H' ⟨v,hv,hx⟩=>⟨v,hv,mD,hx⟩
 ·exact At.enters ho hw hd (by simpa using hk) mD h1 h2 λ v R' H' hx=>hx
theorem At.jv{ops:Array Oper}{i:Nat}{rest:List Nat}{o:Oper}(ho:ops[i]? = some o)(hw:cY ops st o=some true)(hk:(c.kind == CallKind.early)=false)
  (h:bc P B c o R H st λ R' H' st'=>At ab c R' H' st' (.inRegion ops rest::k)):At ab c R H st (.inRegion ops (i::rest)::k):=At.step ho hw hk h.to
theorem At.aL8{id n:Nat}{is:List Nat}{ops:Array Oper}(hn:ops.size=n)(mX:List.range n=is)(h:At ab c R H st (.inRegion ops is::k)):At ab c R H st (.code (.region id ops false)::k):=by
 subst hn; subst mX; exact At.region h
def u7:Nat→List Value→St
 | _,[]=>[]
 | i,v::r=>(i,v)::u7 (i+1) r
theorem J8:∀ (args:List Value) (i t:Nat) (v:Value),(u7 i args).lookup t=some v→i≤t∧args[t - i]? = some v
 | [],_,_,_,h=>by cases h
 | a::r,i,t,v,h=>by
  simp only [u7,List.lookup_cons] at h
  split at h
  ·rename_i heq
   cases h
   have:t=i:=by simpa using heq
   subst this
   simp
  ·rename_i heq
   have da:t≠i:=by simpa using heq
   obtain ⟨h1,h2⟩:=J8 r (i+1) t v h
   refine ⟨by omega,?_⟩
   have:t - i=(t - (i+1))+1:=by omega
   rw [this]
   simpa using h2
theorem ba.oX{f:FuncId}{fn:Func}{body:Code}{args:List Value}{n:Nat}{Post:Value→az→ah→Prop}(hf:P.funcs[f]? = some fn)(hb:fn.body=some body)(qz:fn.ntmps=n)(hn:Nat.ble args.length n=true)
  (h:∀ fr cs,(∀ v R' H',Post v R' H'→ab.J R' H' (aY (fr.finish v) cs))→At ab ⟨f,.normal,none,n,[],fr::cs⟩ R H (u7 0 args) [.code body]):ba ab f args.toArray R H Post:=by
 subst qz
 intro fr cs hk
 have hn:args.length≤fn.ntmps:=by simpa [Nat.ble_eq] using hn
 have:=h fr cs hk (args.toArray++Array.replicate (fn.ntmps - args.length) undef) ⟨by simp; omega,λ t v ht=>?_⟩
 ·have e:Frame.enter P f args.toArray .normal=aX ⟨f,.normal,none,fn.ntmps,[],fr::cs⟩ (args.toArray++Array.replicate (fn.ntmps - args.length) undef) [.code body]:=by
   simp [Frame.enter,aX,hf,hb]
  rw [e]
  exact this
 ·obtain ⟨_,h2⟩:=J8 args 0 t v ht
  have bV:t < args.length:=by
   have:=(iO.1 h2).1
   simpa using this
  rw [Array.getElem?_append_left (by simpa using bV)]
  simpa using h2
def Ag(st:St):List ResultVar→Option (List Value)
 | []=>some []
 | .tmp t::r=>match st.lookup t,Ag st r with
  | some v,some vs=>some (v::vs)
  | _,_=>none
 | .cell _ _::_=>none
def iY:List Value→Value
 | [v]=>v
 | vs=>.tuple vs.toArray
theorem akA{st:St}{tmps:Array Value}{n:Nat}(ht:dh n st tmps):∀ (l:List ResultVar) (vs:List Value),Ag st l=some vs →
  ai P (l.mapM (m:=Sem) λ
   | .tmp t=>pure (tmps.getD t undef)
   | .cell a t=>do loadVar t (← asAddr (tmps.getD a undef))) vs
 | [],vs,h=>by cases h; exact ai.bF _
 | .tmp t::r,vs,h=>by
  simp only [Ag] at h
  cases hl:st.lookup t with
  | none=>simp [hl] at h
  | some v =>
   cases hr:Ag st r with
   | none=>simp [hl,hr] at h
   | some us =>
    simp only [hl,hr,j8] at h
    subst h
    rw [List.mapM_cons]
    refine ai.bL (a:=v) ?_ (ai.bL (akA ht r us hr) (ai.bF _))
    have:tmps.getD t undef=v:=by simp [Array.getD_eq_getD_getElem?,ht.2 t v hl]
    show ai P (pure (tmps.getD t undef)) v
    rw [this]; exact ai.bF _
 | .cell _ _::_,_,h=>by cases h
theorem aca{fn:Func}{st:St}{tmps:Array Value}{n:Nat}{vs:List Value}(ht:dh n st tmps)(h:Ag st fn.results.toList=some vs):ai P (results fn tmps) (iY vs):=by
 unfold results
 rw [← Array.toArray_toList (xs:=fn.results),List.mapM_toArray]
 refine ai.bL (ai.map (akA ht _ _ h)) ?_
 cases vs with
 | nil=>exact ai.bF _
 | cons v r=>cases r with
  | nil=>exact ai.bF _
  | cons _ _=>exact ai.bF _
end
theorem tJ(b o n:Nat):(⟨b,o,none⟩:Addr).add n=⟨b,o+n,none⟩:=by
 unfold Addr.add; split
 ·subst_vars; rfl
 ·rfl
def gU(P:Program)(s f off:Nat):Prop:=∀ b o:Nat,ai P (Instr.fieldAt s (.pointer (some ⟨b,o,none⟩)) f) (.pointer (some ⟨b,o+off,none⟩))
def nU(P:Program)(t e n:Nat):Prop:=P.underlying t=some (.slice e)∧ai P (sizeOf e) n
def w6(P:Program)(t len e n:Nat):Prop:=P.underlying t=some (.array len e)∧ai P (sizeOf e) n
def alV(z:Int):Prop:=-9223372036854775808≤z∧z≤9223372036854775807
theorem ali{z:Int}(h:alV z):IntKind.wrap .i64 z=z:=by
 obtain ⟨h1,h2⟩:=h
 simp only [IntKind.wrap,IntKind.bits,IntKind.signed]
 simp
 omega
section
variable {P:Program} {B:Base} {main:Bool} {ab:Jd P B main} {c:Ctx} {R:az} {H:ah} {st st':St} {o:Oper} {C:az→ah→St→Prop}
theorem Ox.val{v:Value}(mW:nG o.op=false)(hd:cx o.dst c.n)
  (hv:∀ ρ,Knows st ρ→ai P (execOp ρ o) (.value v)) (hs:aB (cB o.dst v st) st') (h:C R H st'):bc P B c o R H st C :=
 ⟨mW,hd,λ ρ bj=>(hv ρ bj).ok ⟨v,.inl rfl,st',hs,h⟩⟩
theorem Ox.mr{s:(Operand→Value)→Sem Value}{v:Value}(mW:nG o.op=false)(hd:cx o.dst c.n)
  (he:∀ ρ,execOp ρ o=(do let x ← s ρ; pure (.value x))) (hv:∀ ρ,Knows st ρ→ai P (s ρ) v) (hs:aB (cB o.dst v st) st') (h:C R H st'):bc P B c o R H st C :=
 Ox.val mW hd (λ ρ bj=>by rw [he]; exact ai.bL (hv ρ bj) (ai.bF _)) hs h
theorem Ox.mem{s:(Operand→Value)→Sem Value}(mW:nG o.op=false)(hd:cx o.dst c.n)
  (he:∀ ρ,execOp ρ o=(do let x ← s ρ; pure (.value x)))
  (hv:∀ ρ,Knows st ρ→aO P B R H (s ρ) λ v R' H'=>∃ st',aB (cB o.dst v st) st'∧C R' H' st'):bc P B c o R H st C :=
 ⟨mW,hd,λ ρ bj=>by
  rw [he]
  exact aO.dO ((hv ρ bj).mono λ v R' H' ⟨st',hs,h⟩=>aO.eF ⟨v,.inl rfl,st',hs,h⟩)⟩
theorem Ox.RG{s:(Operand→Value)→Sem Unit}(mW:nG o.op=false)(hd:o.dst=none)
  (he:∀ ρ,execOp ρ o=(do s ρ; pure .skip)) (hs:aB st st')
  (hv:∀ ρ,Knows st ρ→aO P B R H (s ρ) λ _ R' H'=>C R' H' st'):bc P B c o R H st C :=
 ⟨mW,by rw [hd]; rfl,λ ρ bj=>by
  rw [he]
  exact aO.dO ((hv ρ bj).mono λ v R' H' h=>aO.eF ⟨undef,.inr ⟨rfl,rfl⟩,st',by rw [hd]; exact hs,h⟩)⟩
theorem Ox.move{x:Operand}{v:Value}(an:o.op = .move x)(hx:bl st x=some v)(hd:cx o.dst c.n)
  (hs:aB (cB o.dst v st) st') (h:C R H st'):bc P B c o R H st C :=
 Ox.val (by rw [an]; rfl) hd (λ ρ bj=>by simp only [execOp,an,bj x v hx]; exact ai.bF _) hs h
theorem Ox.assign{x:Operand}{v:Value}(an:o.op = .assign x)(hx:bl st x=some v)(hd:cx o.dst c.n)
  (hs:aB (cB o.dst v st) st') (h:C R H st'):bc P B c o R H st C :=
 Ox.val (by rw [an]; rfl) hd (λ ρ bj=>by simp only [execOp,an,bj x v hx]; exact ai.bF _) hs h
theorem Ox.aLK{x y z:Operand}{v:Value}(an:o.op = .pick x y z)(hx:bl st x=some (.bool true))(hy:bl st y=some v)(hd:cx o.dst c.n)
  (hs:aB (cB o.dst v st) st') (h:C R H st'):bc P B c o R H st C :=
 Ox.val (by rw [an]; rfl) hd (λ ρ bj=>by
  simp only [execOp,an,bj x _ hx,bj y v hy,asBool]
  exact ai.bL (ai.bF true) (ai.bF _)) hs h
theorem Ox.aLJ{x y z:Operand}{v:Value}(an:o.op = .pick x y z)(hx:bl st x=some (.bool false))(hz:bl st z=some v)(hd:cx o.dst c.n)
  (hs:aB (cB o.dst v st) st') (h:C R H st'):bc P B c o R H st C :=
 Ox.val (by rw [an]; rfl) hd (λ ρ bj=>by
  simp only [execOp,an,bj x _ hx,bj z v hz,asBool]
  exact ai.bL (ai.bF false) (ai.bF _)) hs h
theorem Ox.fieldAddr{x:Operand}{s f off b n:Nat}(an:o.op = .fieldAddr s x f)(hx:bl st x=some (.pointer (some ⟨b,n,none⟩)))(hf:gU P s f off)(hd:cx o.dst c.n)
  (hs:aB (cB o.dst (.pointer (some ⟨b,n+off,none⟩)) st) st') (h:C R H st'):bc P B c o R H st C :=
 Ox.mr (s:=λ ρ=>Instr.fieldAt s (ρ x) f) (by rw [an]; rfl) hd (λ ρ=>by simp only [execOp,an]) (λ ρ bj=>by rw [bj x _ hx]; exact hf b n) hs h
theorem ab9{t e n b m len cap:Nat}{kd:IntKind}{j:Nat}(ht:nU P t e n)(hj:j < len) :
  ai P (Instr.indexAt t (.slice (some ⟨b,m,none⟩) len cap) (.int kd (j:Int))) (.pointer (some ⟨b,m+j * n,none⟩)):=by
 unfold Instr.indexAt
 refine ai.bL (a:=(kd,(j:Int))) (ai.bF _) (ai.bL (ai.underlying ht.1) (ai.bL (a:=(some (⟨b,m,none⟩:Addr),len,e)) (ai.bF _) (ai.bL (ai.underlying ht.1) ?_)))
 have h1:(0:Int)≤(j:Int)∧(j:Int) < (len:Int):=by omega
 simp only [h1,and_self,if_true,eH]
 refine ai.bL ht.2 ?_
 rw [tJ]
 exact ai.bF _
theorem aNO{t e n b m len:Nat}{kd:IntKind}{j:Nat}(ht:w6 P t len e n)(hj:j < len) :
  ai P (Instr.indexAt t (.pointer (some ⟨b,m,none⟩)) (.int kd (j:Int))) (.pointer (some ⟨b,m+j * n,none⟩)):=by
 unfold Instr.indexAt
 refine ai.bL (a:=(kd,(j:Int))) (ai.bF _) (ai.bL (ai.underlying ht.1) (ai.bL (a:=(⟨b,m,none⟩:Addr)) (ai.bF _) (ai.bL (a:=(some (⟨b,m,none⟩:Addr),len,e)) (ai.bF _) (ai.bL (ai.underlying ht.1) ?_))))
 have h1:(0:Int)≤(j:Int)∧(j:Int) < (len:Int):=by omega
 simp only [h1,and_self,if_true,eH]
 refine ai.bL ht.2 ?_
 rw [tJ]
 exact ai.bF _
theorem Da(op:BinOp)(t:TypeId)(x y:Operand)(ka kb:IntKind)(a b:Int):ai P (eqGuard op t x y (.int ka a) (.int kb b)) ():=by
 unfold eqGuard
 cases op <;> exact ai.bF _
def U8:BinOp→Int→Int→Option Bool
 | .eql,x,y=>some (x == y)
 | .neq,x,y=>some (x != y)
 | .lss,x,y=>some (decide (x < y))
 | .leq,x,y=>some (decide (x≤y))
 | .gtr,x,y=>some (decide (x > y))
 | .geq,x,y=>some (decide (x ≥ y))
 | _,_,_=>none
theorem Ox.cmp{x y:Operand}{bo:BinOp}{t u:TypeId}{a b:Int}{kd:IntKind}{r:Bool}(an:o.op = .binOp bo t x y u)(hx:bl st x=some (.int kd a))(hy:bl st y=some (.int kd b))(hr:U8 bo a b=some r)
  (hd:cx o.dst c.n) (hs:aB (cB o.dst (.bool r) st) st') (h:C R H st'):bc P B c o R H st C :=
 Ox.mr (s:=λ ρ=>do eqGuard bo t x y (ρ x) (ρ y); binOp bo t (ρ x) (ρ y)) (by rw [an]; rfl) hd (λ ρ=>by simp only [execOp,an]) (λ ρ bj=>by
  rw [bj x _ hx,bj y _ hy]
  refine ai.bL (Da _ _ _ _ _ _ _ _) ?_
  cases bo <;> simp only [U8,j8,reduceCtorEq] at hr <;> subst hr <;> simp only [binOp,ne_eq,kY,if_false] <;> exact ai.bF _) hs h
def Up:BinOp→Int→Int→Option Int
 | .add,x,y=>some (x+y)
 | .sub,x,y=>some (x - y)
 | .mul,x,y=>some (x * y)
 | _,_,_=>none
theorem Ox.not{x:Operand}{t:TypeId}{a:Bool}(an:o.op = .unOp .not t x)(hx:bl st x=some (.bool a))
  (hd:cx o.dst c.n) (hs:aB (cB o.dst (.bool (!a)) st) st') (h:C R H st'):bc P B c o R H st C :=
 Ox.mr (s:=λ ρ=>Op.unary .not (ρ x)) (by rw [an]; rfl) hd (λ ρ=>by simp only [execOp,an]) (λ ρ bj=>by rw [bj x _ hx]; exact ai.bF _) hs h
theorem Ox.extract{x:Operand}{j:Nat}{vs:Array Value}{v:Value}(an:o.op = .extract x j)(hx:bl st x=some (.tuple vs))(hj:vs[j]? = some v)
  (hd:cx o.dst c.n) (hs:aB (cB o.dst v st) st') (h:C R H st'):bc P B c o R H st C :=
 Ox.mr (s:=λ ρ=>Instr.extract (ρ x) j) (by rw [an]; rfl) hd (λ ρ=>by simp only [execOp,an]) (λ ρ bj=>by
  rw [bj x _ hx]
  simp only [Instr.extract,hj]; exact ai.bF _) hs h
theorem Ox.makeFunc{fn:Fn}{first captured:Array Operand}{vs us:Array Value}(an:o.op = .makeFunc fn first captured)(h1:first.toList.mapM (bl st)=some vs.toList)(h2:captured.toList.mapM (bl st)=some us.toList)
  (hd:cx o.dst c.n) (hs:aB (cB o.dst (.func fn vs us) st) st') (h:C R H st'):bc P B c o R H st C :=
 Ox.mr (s:=λ ρ=>Instr.makeFunc fn (first.map ρ) (captured.map ρ)) (by rw [an]; rfl) hd (λ ρ=>by simp only [execOp,an]) (λ ρ bj=>by
  have key:∀ (l:List Operand) (r:List Value),l.mapM (bl st)=some r→l.map ρ=r:=by
   intro l
   induction l with
   | nil=>intro r hr; simpa using hr
   | cons a l ih =>
    intro r hr
    rw [List.mapM_cons] at hr
    cases ha:bl st a with
    | none=>simp [ha] at hr
    | some u =>
     cases hl:l.mapM (bl st) with
     | none=>simp [ha,hl] at hr
     | some us =>
      simp [ha,hl] at hr
      subst hr
      simp [bj a u ha,ih us hl]
  have e1:first.map ρ=vs:=by apply Array.ext'; simpa using key _ _ h1
  have e2:captured.map ρ=us:=by apply Array.ext'; simpa using key _ _ h2
  rw [e1,e2]
  exact ai.bF _) hs h
theorem Ox.len{x:Operand}{t e:TypeId}{a:Option Addr}{n cap:Nat}(an:o.op = .call ⟨.builtin .len,#[x],#[t]⟩)(hx:bl st x=some (.slice a n cap))(ht:P.underlying t=some (.slice e))
  (hd:cx o.dst c.n) (hs:aB (cB o.dst (.int .i64 (n:Int)) st) st') (h:C R H st'):bc P B c o R H st C :=
 Ox.val (by rw [an]; rfl) hd (λ ρ bj=>by
  simp only [execOp,an]
  refine ai.bL (a:=⟨.builtin .len #[t] o.type (#[x].map λ | .const _=>true | _=>false),#[x].map ρ⟩) (ai.bF _) ?_
  simp only [invoke,builtin]
  refine ai.bL (a:=.int .i64 (n:Int)) ?_ (ai.bF _)
  have e:(#[x].map ρ)=#[.slice a n cap]:=by simp [bj x _ hx]
  rw [e]
  exact ai.bL (ai.underlying ht) (ai.bF _)) hs h
theorem Ox.Re{x:Operand}{t:TypeId}{s:ByteArray}(an:o.op = .call ⟨.builtin .len,#[x],#[t]⟩)(hx:bl st x=some (.string s))(ht:P.underlying t=some .string)
  (hd:cx o.dst c.n) (hs:aB (cB o.dst (.int .i64 (s.size:Int)) st) st') (h:C R H st'):bc P B c o R H st C :=
 Ox.val (by rw [an]; rfl) hd (λ ρ bj=>by
  simp only [execOp,an]
  refine ai.bL (a:=⟨.builtin .len #[t] o.type (#[x].map λ | .const _=>true | _=>false),#[x].map ρ⟩) (ai.bF _) ?_
  simp only [invoke,builtin]
  refine ai.bL (a:=.int .i64 (s.size:Int)) ?_ (ai.bF _)
  have e:(#[x].map ρ)=#[.string s]:=by simp [bj x _ hx]
  rw [e]
  exact ai.bL (ai.underlying ht) (ai.bF _)) hs h
theorem F9{f:FuncId}{fn:Func}{args:Array Value}(hf:P.funcs[f]? = some fn)(hn:(fn.name == "runtime.NumGoroutine")=false)(hb:fn.body.isNone=false):ai P (callFunc f args) (.enter f args):=by
 unfold callFunc
 refine ai.bL ai.program ?_
 simp only [hf,hn,hb]
 exact ai.bF _
structure bq (P:Program) (f:FuncId):Prop where
 ex:∃ fn,P.funcs[f]? = some fn∧(fn.name == "runtime.NumGoroutine")=false∧fn.body.isNone=false
def jG(st:St):List Operand→Option (List Value)
 | []=>some []
 | x::r=>match bl st x,jG st r with
  | some v,some vs=>some (v::vs)
  | _,_=>none
theorem DG{st:St}{ρ:Operand→Value}(bj:Knows st ρ):∀ (l:List Operand) (r:List Value),jG st l=some r→l.map ρ=r
 | [],r,h=>by cases h; rfl
 | x::l,r,h=>by
  simp only [jG] at h
  cases hx:bl st x with
  | none=>simp [hx] at h
  | some v =>
   cases hl:jG st l with
   | none=>simp [hx,hl] at h
   | some vs =>
    simp [hx,hl] at h
    subst h
    simp [bj x v hx,DG bj l vs hl]
theorem Ox.dU{ca:Call}{x:Operand}{f:FuncId}{first captured:Array Value}{vs:List Value}{args:Array Value}
  (an:o.op = .call ca) (hc:ca.callee = .value x) (hx:bl st x=some (.func (.func f) first captured)) (ha:jG st ca.args.toList=some vs) (he:bq P f) (Ht:first++vs.toArray++captured=args)
  (hd:cx o.dst c.n) (hf:ba ab f args R H λ v R' H'=>∃ st',aB (cB o.dst v st) st'∧C R' H' st'):qf ab c o R H st C :=
 ⟨by rw [an]; rfl,hd,.inr ⟨f,args,λ ρ bj=>by
  obtain ⟨fn,h1,h2,h3⟩:=he.ex
  simp only [execOp,an,resolve,hc,bj x _ hx,Deferred.ofValue]
  have e:ca.args.map ρ=vs.toArray:=by apply Array.ext'; simpa using DG bj _ _ ha
  refine ai.bL (a:=⟨.fn (.func f) captured,first++vs.toArray⟩) (by rw [e]; exact ai.bF _) ?_
  simp only [invoke,Ht]
  exact F9 h1 h2 h3,hf⟩⟩
end
def jF(P:Program)(t:TypeId)(cs:Array Value):Prop:=∃ z,ai P (zeroValue t) z∧z.cells=cs
def gN(P:Program)(t:TypeId):Prop:=ai P (isAgg t) false∧ai P (sizeOf t) 1
def nu(P:Program)(t:TypeId)(n:Nat):Prop:=ai P (isAgg t) true∧ai P (sizeOf t) n
def aT(R:az)(H:ah)(b o:Nat)(vs:List Value):Prop:=∀ j v,vs[j]? = some v→Cell R H ⟨b,o+j,none⟩ v
theorem aT.known{R:az}{H:ah}{b o n:Nat}{cs:Array Value}{e:TypeId}{fz:Nat × Nat}{vs:List Value}(hm:R b=some (Obj.cells cs e fz))(hv:(cs.toList.drop o).take n=vs):aT R H b o vs:=by
 intro j v hj
 refine ⟨rfl,cs,e,fz,.inl hm,?_⟩
 subst hv
 rw [List.getElem?_take] at hj
 split at hj
 ·rw [List.getElem?_drop] at hj
  simpa using hj
 ·cases hj
def gz(cs:Array Value):Nat→List Value→Array Value
 | _,[]=>cs
 | o,v::r=>gz (cs.setIfInBounds o v) (o+1) r
theorem Nb:∀ (vs:List Value) (cs:Array Value) (o:Nat),(gz cs o vs).size=cs.size
 | [],_,_=>rfl
 | v::r,cs,o=>by simp only [gz]; rw [Nb r]; simp
theorem fN.mid{H H1 H':ah}{b:Nat}{o o' o'':Obj}(h:fN H b o o' H1)(k:fN H b o o'' H')(hn:(H.map (·.1)).Nodup):fN H1 b o' o'' H':=by
 induction h generalizing H' with
 | @here b o o' H =>
  cases k with
  | here=>exact .here
  | there k =>
   rw [List.map_cons,List.nodup_cons] at hn
   exact absurd (List.mem_map.2 ⟨_,k.mem,rfl⟩) hn.1
 | @there b o o' p H H1 hs ih =>
  cases k with
  | here =>
   rw [List.map_cons,List.nodup_cons] at hn
   exact absurd (List.mem_map.2 ⟨_,hs.mem,rfl⟩) hn.1
  | there k =>
   rw [List.map_cons,List.nodup_cons] at hn
   exact .there (ih k hn.2)
section
variable {P:Program} {B:Base} {main:Bool} {ab:Jd P B main} {c:Ctx} {R:az} {H H':ah} {st st':St} {o:Oper} {C:az→ah→St→Prop}
theorem aO.SC{b:Nat}{e:TypeId}{K:Unit→az→ah→Prop}:∀ (vs:List Value) (cs:Array Value) (off i:Nat) (H H':ah),(∀ v∈vs,v.oneCell'=true)→off+i+vs.length≤cs.size →
  fN H b (.cells cs e (0,0)) (.cells (gz cs (off+i) vs) e (0,0)) H'→(H.map (·.1)).Nodup→K () R H'→aO P B R H (storeCells ⟨b,off,none⟩ vs i) K
 | [],cs,off,i,H,H',_,_,hs,hn,hk=>by
  have e1:H'=H:=by
   have:∀ {H H':ah} {o:Obj},fN H b o o H'→H'=H:=by
    intro H H' o h
    induction H generalizing H' with
    | nil=>cases h
    | cons p r ih =>
     cases h with
     | here=>rfl
     | there h=>rw [ih h]
   exact this hs
  subst e1
  simp only [storeCells]
  exact aO.eF hk
 | v::r,cs,off,i,H,H',h1,hl,hs,hn,hk=>by
  simp only [storeCells]
  simp only [List.length_cons] at hl
  have hex:∀ (H:ah) (o o':Obj),(b,o)∈H→∃ H1,fN H b o o' H1:=by
   intro H o o' hm
   induction H with
   | nil=>cases hm
   | cons p r ih =>
    rcases fy.1 hm with rfl | hm
    ·exact ⟨_,.here⟩
    ·obtain ⟨H1,h1⟩:=ih hm
     exact ⟨_,.there h1⟩
  obtain ⟨H1,qB⟩:=hex H _ (.cells (cs.setIfInBounds (off+i) v) e (0,0)) hs.mem
  have HF:fN H1 b (.cells (cs.setIfInBounds (off+i) v) e (0,0)) (.cells (gz cs (off+i) (v::r)) e (0,0)) H':=fN.mid qB hs hn
  refine aO.dO ?_
  rw [tJ]
  refine aO.store (h1 v (by simp)) rfl (by show off+i < cs.size; omega) qB ?_
  exact aO.SC r (cs.setIfInBounds (off+i) v) off (i+1) H1 H' (λ u hu=>h1 u (by simp [hu])) (by simp; omega) (by simpa [gz,Nat.add_assoc] using HF) (by rw [qB.keys]; exact hn) hk
theorem aO.given{α:Type}{s:Sem α}{K:α→az→ah→Prop}(h:(H.map (·.1)).Nodup→aO P B R H s K):aO P B R H s K:=λ w hw=>h hw.nd w hw
theorem aO.storeVar{t:TypeId}{b off n:Nat}{e:TypeId}{v:Value}{cs:Array Value}{K:Unit→az→ah→Prop}(hn:ai P (sizeOf t) n)(hvn:v.cells.size=n)(h1:∀ u∈v.cells.toList,u.oneCell'=true)(hl:off+n≤cs.size)
  (hs:fN H b (.cells cs e (0,0)) (.cells (gz cs off v.cells.toList) e (0,0)) H') (hk:K () R H'):aO P B R H (storeVar t ⟨b,off,none⟩ v) K:=by
 refine aO.given λ dR=>?_
 unfold Go.storeVar
 refine ai.fB hn ?_
 simp only [hvn,ne_eq,kY,if_false]
 exact aO.SC _ cs off 0 H H' h1 (by simp [hvn]; exact hl) (by simpa using hs) dR hk
theorem aO.loadCellsFrom{b off:Nat}{K:Array Value→az→ah→Prop}:∀ (vs:List Value) (i:Nat) (acc:Array Value),aT R H b (off+i) vs→K (acc++vs.toArray) R H→aO P B R H (loadCellsFrom ⟨b,off,none⟩ i vs.length acc) K
 | [],i,acc,_,hk=>by
  simp only [List.length_nil,Go.loadCellsFrom]
  exact aO.eF (by simpa using hk)
 | v::r,i,acc,hc,hk=>by
  simp only [List.length_cons,Go.loadCellsFrom]
  refine aO.dO ?_
  rw [tJ]
  refine aO.load (v:=v) (by simpa using hc 0 v rfl) ?_
  refine aO.loadCellsFrom r (i+1) (acc.push v) (λ j u hj=>?_) (by simpa using hk)
  have:=hc (j+1) u (by simpa using hj)
  simpa [Nat.add_assoc,Nat.add_comm,Nat.add_left_comm] using this
theorem Ox.sU{x:Operand}{t:TypeId}{b off:Nat}{v:Value}(an:o.op = .load t x)(hx:bl st x=some (.pointer (some ⟨b,off,none⟩)))(ht:gN P t)(hc:Cell R H ⟨b,off,none⟩ v)
  (hd:cx o.dst c.n) (hs:aB (cB o.dst v st) st') (h:C R H st'):bc P B c o R H st C :=
 Ox.mem (s:=λ ρ=>Instr.loadAt t (ρ x)) (by rw [an]; rfl) hd (λ ρ=>by simp only [execOp,an]) (λ ρ bj=>by
  rw [bj x _ hx]
  simp only [Instr.loadAt,Instr.sureAddr,loadVar]
  refine ai.fB (ai.bF _) (ai.fB ht.1 ?_)
  exact aO.load hc ⟨st',hs,h⟩)
theorem Ox.cw{x:Operand}{t:TypeId}{b off n:Nat}{vs:List Value}(an:o.op = .load t x)(hx:bl st x=some (.pointer (some ⟨b,off,none⟩)))(ht:nu P t n)(hn:vs.length=n)(hc:aT R H b off vs)
  (hd:cx o.dst c.n) (hs:aB (cB o.dst (.agg vs.toArray) st) st') (h:C R H st'):bc P B c o R H st C :=
 Ox.mem (s:=λ ρ=>Instr.loadAt t (ρ x)) (by rw [an]; rfl) hd (λ ρ=>by simp only [execOp,an]) (λ ρ bj=>by
  rw [bj x _ hx]
  simp only [Instr.loadAt,Instr.sureAddr,loadVar]
  refine ai.fB (ai.bF _) (ai.fB ht.1 ?_)
  simp only [if_true]
  refine ai.fB ht.2 (aO.dO ?_)
  subst hn
  exact aO.loadCellsFrom vs 0 #[] (by simpa using hc) (aO.eF ⟨st',by simpa using hs,h⟩))
theorem Ox.j5{x y:Operand}{t e:TypeId}{b off:Nat}{v:Value}{cs cs':Array Value}(an:o.op = .store t x y)(hx:bl st x=some (.pointer (some ⟨b,off,none⟩)))(hy:bl st y=some v)(ht:gN P t)(hv:v.oneCell'=true)(hs:fN H b (.cells cs e (0,0)) (.cells cs' e (0,0)) H')(hl:Nat.blt off cs.size=true)(pF:cs.setIfInBounds off v=cs')
  (hd:o.dst=none) (LI:aB st st') (h:C R H' st'):bc P B c o R H st C :=
 Ox.RG (s:=λ ρ=>Instr.storeAt t (ρ x) (ρ y)) (by rw [an]; rfl) hd (λ ρ=>by simp only [execOp,an]) LI (λ ρ bj=>by
  rw [bj x _ hx,bj y _ hy]
  simp only [Instr.storeAt,Instr.sureAddr]
  refine ai.fB (ai.bF _) ?_
  have LV:v.cells=#[v]:=by cases v <;> first | rfl | (simp [Value.oneCell'] at hv)
  refine aO.storeVar (cs:=cs) (e:=e) ht.2 (by rw [LV]; rfl) (by rw [LV]; simpa using hv) (Nat.le_of_ble_eq_true hl) ?_ h
  rw [LV]
  simpa [gz,pF] using hs)
theorem Ox.gR{x y:Operand}{t e:TypeId}{b off n:Nat}{vs:Array Value}{cs cs':Array Value}(an:o.op = .store t x y)(hx:bl st x=some (.pointer (some ⟨b,off,none⟩)))(hy:bl st y=some (.agg vs))(ht:nu P t n)(hn:vs.size=n)(h1:∀ u∈vs.toList,u.oneCell'=true)(hs:fN H b (.cells cs e (0,0)) (.cells cs' e (0,0)) H')(hl:Nat.ble (off+n) cs.size=true)(pF:gz cs off vs.toList=cs')
  (hd:o.dst=none) (LI:aB st st') (h:C R H' st'):bc P B c o R H st C :=
 Ox.RG (s:=λ ρ=>Instr.storeAt t (ρ x) (ρ y)) (by rw [an]; rfl) hd (λ ρ=>by simp only [execOp,an]) LI (λ ρ bj=>by
  rw [bj x _ hx,bj y _ hy]
  simp only [Instr.storeAt,Instr.sureAddr]
  refine ai.fB (ai.bF _) ?_
  exact aO.storeVar (cs:=cs) (e:=e) ht.2 hn h1 (Nat.le_of_ble_eq_true hl) (by simpa [Value.cells,pF] using hs) h)
theorem Ox.vg{x:Operand}{t:TypeId}{v:Value}(an:o.op = .box t x)(hx:bl st x=some v)(hv:v.cells=#[v])(hd:cx o.dst c.n)
  (h:∀ b,R b=none→(∀ x,(b,x) ∉ H)→∃ st',aB (cB o.dst (.pointer (some ⟨b,0,none⟩)) st) st'∧C R ((b,.cells #[v] t)::H) st'):bc P B c o R H st C :=
 Ox.mem (s:=λ ρ=>Instr.box t (ρ x)) (by rw [an]; rfl) hd (λ ρ=>by simp only [execOp,an]) (λ ρ bj=>by
  rw [bj x _ hx]
  simp only [Instr.box,newVar,newRow,hv]
  exact aO.dO (aO.dO (aO.new λ b h1 h2=>aO.eF (aO.eF (h b h1 h2)))))
theorem Ox.ad3{x:Operand}{t:TypeId}{vs:Array Value}(an:o.op = .box t x)(hx:bl st x=some (.agg vs))(hd:cx o.dst c.n)
  (h:∀ b,R b=none→(∀ x,(b,x) ∉ H)→∃ st',aB (cB o.dst (.pointer (some ⟨b,0,none⟩)) st) st'∧C R ((b,.cells vs t)::H) st'):bc P B c o R H st C :=
 Ox.mem (s:=λ ρ=>Instr.box t (ρ x)) (by rw [an]; rfl) hd (λ ρ=>by simp only [execOp,an]) (λ ρ bj=>by
  rw [bj x _ hx]
  simp only [Instr.box,newVar,newRow,Value.cells]
  exact aO.dO (aO.dO (aO.new λ b h1 h2=>aO.eF (aO.eF (h b h1 h2)))))
theorem Ox.alloc{t:TypeId}{cs:Array Value}(an:o.op = .alloc t)(ht:jF P t cs)(hd:cx o.dst c.n)
  (h:∀ b,R b=none→(∀ x,(b,x) ∉ H)→∃ st',aB (cB o.dst (.pointer (some ⟨b,0,none⟩)) st) st'∧C R ((b,.cells cs t)::H) st'):bc P B c o R H st C :=
 Ox.mem (s:=λ _=>Instr.alloc t true (.tuple #[])) (by rw [an]; rfl) hd (λ ρ=>by simp only [execOp,an]) (λ ρ bj=>by
  obtain ⟨z,hz,rfl⟩:=ht
  simp only [Instr.alloc,newVar,newRow]
  exact ai.fB hz (aO.dO (aO.dO (aO.new λ b h1 h2=>aO.eF (aO.eF (h b h1 h2))))))
def CJ(st:St):List (Nat × Operand)→Option (List (Nat × Value))
 | []=>some []
 | (j,x)::r=>match bl st x,CJ st r with
  | some v,some vs=>some ((j,v)::vs)
  | _,_=>none
theorem abr{ρ:Operand→Value}(bj:Knows st ρ):∀ (l:List (Nat × Operand)) (r:List (Nat × Value)),CJ st l=some r→l.map (λ (j,x)=>(j,ρ x))=r
 | [],r,h=>by cases h; rfl
 | (j,x)::l,r,h=>by
  simp only [CJ] at h
  cases hx:bl st x with
  | none=>simp [hx] at h
  | some v =>
   cases hl:CJ st l with
   | none=>simp [hx,hl] at h
   | some vs =>
    simp [hx,hl] at h
    subst h
    simp [bj x v hx,abr bj l vs hl]
def w8(P:Program)(t:TypeId)(places:List (Nat × Nat))(z:Array Value):Prop :=
 jF P t z∧∃ fs:Array Field,P.underlying t=some (.struct fs)∧ai P (fs.mapM λ f=>do pure (f.offset,← sizeOf f.type)) places.toArray
theorem Ox.build{t:TypeId}{parts:Array (Nat × Operand)}{ps:List (Nat × Value)}{places:List (Nat × Nat)}{z cells:Array Value}(an:o.op = .build t parts)(ht:w8 P t places z)(hp:CJ st parts.toList=some ps)(hf:Instr.fill (places.toArray[·]?) z ps=some cells)
  (hd:cx o.dst c.n) (hs:aB (cB o.dst (.agg cells) st) st') (h:C R H st'):bc P B c o R H st C :=
 Ox.mr (s:=λ ρ=>Instr.build t (parts.map λ (j,x)=>(j,ρ x))) (by rw [an]; rfl) hd (λ ρ=>by simp only [execOp,an]) (λ ρ bj=>by
  obtain ⟨⟨z0,hz,rfl⟩,fs,h1,h2⟩:=ht
  have e:(parts.map λ (j,x)=>(j,ρ x))=ps.toArray:=by apply Array.ext'; simpa using abr bj _ _ hp
  rw [e]
  unfold Instr.build
  refine ai.bL hz (ai.bL (ai.underlying h1) (ai.bL h2 ?_))
  simp only [hf]
  exact ai.bF _) hs h
def uW(P:Program)(t e n:Nat)(z:Array Value):Prop:=P.underlying t=some (.slice e)∧ai P (sizeOf e) n∧jF P e z∧z.size=n∧0 < n
theorem Ox.buildSlice{t e n len:Nat}{parts:Array (Nat × Operand)}{ps:List (Nat × Value)}{z base cells:Array Value}(an:o.op = .buildSlice t len parts)(ht:uW P t e n z)(hp:CJ st parts.toList=some ps)(hlen:len * n≤16777216)
  (hb:(Array.range (len * n)).map (z[· % z.size]!)=base) (hf:Instr.fill (λ j=>some (j * n,n)) base ps=some cells) (hd:cx o.dst c.n)
  (h:∀ b,R b=none→(∀ x,(b,x) ∉ H)→∃ st',aB (cB o.dst (.slice (some ⟨b,0,none⟩) len len) st) st'∧C R ((b,.cells cells e)::H) st'):bc P B c o R H st C :=
 Ox.mem (s:=λ ρ=>Instr.buildSlice t len (parts.map λ (j,x)=>(j,ρ x))) (by rw [an]; rfl) hd (λ ρ=>by simp only [execOp,an]) (λ ρ bj=>by
  subst hb
  obtain ⟨h1,h2,⟨z0,hz,rfl⟩,h3,h4⟩:=ht
  have ep:(parts.map λ (j,x)=>(j,ρ x))=ps.toArray:=by apply Array.ext'; simpa using abr bj _ _ hp
  rw [ep]
  unfold Instr.buildSlice
  refine ai.fB (ai.underlying h1) (ai.fB h2 ?_)
  have hl:¬ (len * n > 2 ^ 24):=by omega
  simp only [hl,if_false]
  have last:aO P B R H (do let a ← newRow e cells; pure (.slice (some a) len len)) λ v R' H'=>∃ st',aB (cB o.dst v st) st'∧C R' H' st':=by
   simp only [newRow]
   exact aO.dO (aO.dO (aO.new λ b h1 h2=>aO.eF (aO.eF (h b h1 h2))))
  by_cases h0:len * n=0
  ·simp only [h0,if_true]
   refine ai.fB (ai.bF _) ?_
   have hr:∀ f:Nat→Value,(Array.range 0).map f=#[]:=λ f=>by simp [Array.range]
   simp only [h0,hr] at hf ⊢
   simp only [hf]
   exact last
  ·simp only [h0,if_false]
   refine ai.fB hz (ai.fB (ai.bF _) ?_)
   simp only [hf]
   exact last)
end
def aS(R R':az):Prop:=∀ b o,R b=some o→R' b=some o
theorem aS.refl(R:az):aS R R:=λ _ _ h=>h
theorem aS.trans{R R' cZ:az}(h:aS R R')(k:aS R' cZ):aS R cZ:=λ b o x=>k b o (h b o x)
section
variable {P:Program} {B:Base} {main:Bool} (ab:Jd P B main)
def Du(c:Ctx)(S:ah)(ops:Array Oper)(i:Nat)(tmps:Array Value)(R:az)(H:ah)(K:Array Value→az→ah→Prop):Prop :=
 ∃ o,ops[i]? = some o∧nG o.op=false ∧
  ((Region.wanted o (yielded ops tmps)=false∧K (gd o.dst undef tmps) R H) ∨
   (Region.wanted o (yielded ops tmps)=true ∧
   ((aO P B R H (execOp (aX c tmps []).eval o) λ nx R' H'=>∃ v,(nx = .value v∨(nx = .skip∧v=undef))∧aS R R'∧(∀ p∈S,p∈H→p∈H')∧K (gd o.dst v tmps) R' H') ∨
    (∃ f args,ai P (execOp (aX c tmps []).eval o) (.enter f args)∧ba ab f args R H λ v R' H'=>aS R R'∧(∀ p∈S,p∈H→p∈H')∧K (gd o.dst v tmps) R' H'))))
theorem J.given{R:az}{H:ah}{g:Goroutine}(hs:g.status = .running)(h:(∃ w,Fits B R H w)→ab.J R H g):ab.J R H g:=by
 by_cases hw:∃ w,Fits B R H w
 ·exact h hw
 ·exact ab.step hs λ w hf=>absurd ⟨w,hf⟩ hw
def nM(ops:Array Oper)(rem:List Nat)(i:Nat):Bool:=match ops[i]? with
 | some o=>o.after.all λ e=>!Region.binds .any e || !rem.contains e.on
 | none=>false
def GY(c:Ctx)(S:Nat→ah)(ops:Array Oper)(Q:Array Value→az→ah→Prop):Nat→List Nat→Array Value→az→ah→Prop
 | 0,rem,t,R,H=>rem=[]∧Q t R H
 | n+1,rem,t,R,H=>(rem=[]∧Q t R H)∨(rem≠[]∧((∃ w,Fits B R H w)→∀ i∈rem,nM ops rem i=true→Du ab c (S i) ops i t R H λ t' R' H'=>GY c S ops Q n (rem.erase i) t' R' H'))
variable {ab}
def backward(ops:Array Oper):Bool:=(List.range ops.size).all λ i=>match ops[i]? with
 | some o=>o.after.all λ e=>!Region.binds .any e || decide (e.on < i)
 | none=>true
theorem afw(c:Ctx)(tmps:Array Value)(todo:List Item):(aX c tmps todo).eval=(aX c tmps []).eval:=by
 funext x; cases x <;> rfl
theorem amM{c:Ctx}{S:ah}{ops:Array Oper}{i:Nat}{rest:List Nat}{k:List Item}{tmps:Array Value}{R:az}{H:ah}{K:Array Value→az→ah→Prop}(hk:(c.kind == CallKind.early)=false)(h:Du ab c S ops i tmps R H K)
  (hK:∀ t R' H',K t R' H'→ab.J R' H' (aY (aX c t (.inRegion ops rest::k)) c.cs)):ab.J R H (aY (aX c tmps (.inRegion ops (i::rest)::k)) c.cs):=by
 obtain ⟨o,ho,hd,h⟩:=h
 have gw:(aX c tmps (.inRegion ops (i::rest)::k)).kind ≠ .early:=by show c.kind≠_; simpa using hk
 rcases h with ⟨h1,h2⟩ | ⟨h1,h2 | ⟨f,args,h2,h3⟩⟩
 ·exact Jd.ctl rfl (λ w=>abR ho h1) (hK _ _ _ h2)
 ·refine ab.step rfl λ w rF=>?_
  obtain ⟨nx,w',R',H',e1,e2,e3,v,hv,_,_,hKK⟩:=h2 w rF
  refine ⟨aY (aX c (gd o.dst v tmps) (.inRegion ops rest::k)) c.cs,w',seen P c.fn ((execOp (aX c tmps []).eval o).events P w #[]),R',H',?_,λ e he=>e2 e (mem_seen he),e3,hK _ _ _ hKK⟩
  rw [qS ho h1 hd,← ru (rest:=rest) (k:=k) (c:=c) (tmps:=tmps) (v:=v) ho,afw]
  rcases hv with rfl | ⟨rfl,rfl⟩
  ·exact DF gw e1
  ·exact Uo gw e1
 ·refine ab.step rfl λ w rF=>?_
  have hv:=h2 w
  refine ⟨aY (Frame.enter P f args .normal) (aX c tmps (.inRegion ops (i::rest)::k)::c.cs),w,seen P c.fn ((execOp (aX c tmps []).eval o).events P w #[]),R,H,?_,?_,gv.refl rF,h3 _ _ λ v R' H' hp=>?_⟩
  ·rw [qS ho h1 hd,afw]
   exact J7 rfl gw hv.1
  ·intro e Lm
   have:=mem_seen Lm
   rw [hv.2] at this
   simp at this
  ·rw [ru ho]
   exact hK _ _ _ hp.2.2
def JF(ops:Array Oper)(listed:Array Bool)(rem:List Nat):Prop:=listed.size=ops.size∧rem.Nodup∧(∀ i,i∈rem↔(i < ops.size∧listed.getD i true=false))
theorem asR{listed:Array Bool}{i j:Nat}{d:Bool}(hi:i < listed.size):(listed.setIfInBounds i true).getD j d=if i=j then true else listed.getD j d:=by
 simp only [Array.getD_eq_getD_getElem?]
 by_cases h:i=j
 ·subst h; simp [hi]
 ·rw [if_neg h,nq h]
theorem JF.erase{ops:Array Oper}{listed:Array Bool}{rem:List Nat}(h:JF ops listed rem){i:Nat}(hi:i∈rem):JF ops (listed.setIfInBounds i true) (rem.erase i):=by
 obtain ⟨h1,h2,h3⟩:=h
 have bV:i < listed.size:=by rw [h1]; exact ((h3 i).1 hi).1
 refine ⟨by simp [h1],h2.erase _,λ j=>?_⟩
 rw [h2.mem_erase_iff,h3 j,asR bV]
 by_cases e:i=j
 ·subst e; simp
 ·simp [e,Ne.symm e]
theorem ahH:∀ (l:List Nat),l≠[]→∃ m∈l,∀ x∈l,m≤x
 | [],h=>absurd rfl h
 | [a],_=>⟨a,by simp,by simp⟩
 | a::b::r,_=>by
  obtain ⟨m,hm,hl⟩:=ahH (b::r) (by simp)
  by_cases h:a≤m
  ·exact ⟨a,by simp,λ x hx=>by
    rcases fy.1 hx with rfl | hx
    ·exact dr _
    ·exact Nat.le_trans h (hl x hx)⟩
  ·exact ⟨m,List.mem_cons_of_mem _ hm,λ x hx=>by
    rcases fy.1 hx with rfl | hx
    ·omega
    ·exact hl x hx⟩
theorem ade{c:Ctx}{S:Nat→ah}{ops:Array Oper}{k:List Item}{Q:Array Value→az→ah→Prop}(hk:(c.kind == CallKind.early)=false)(hb:backward ops=true)
  (hQ:∀ t R H,Q t R H→ab.J R H (aY (aX c t k) c.cs)):∀ (fuel t:Nat) (listed:Array Bool) (acc:List Nat) (rem:List Nat) (tmps:Array Value) (R:az) (H:ah),JF ops listed rem→rem.length≤fuel →
   GY ab c S ops Q fuel rem tmps R H→∃ is,Region.linearise.go .any ops fuel t listed acc=acc.reverse++is∧ab.J R H (aY (aX c tmps (.inRegion ops is::k)) c.cs)
 | 0,t,listed,acc,rem,tmps,R,H,_,_,h=>⟨[],by simp [Region.linearise.go],Jd.ctl rfl (λ w=>by simp [stepG,stepG.exec,aY,aX]) (hQ _ _ _ h.2)⟩
 | fuel+1,t,listed,acc,rem,tmps,R,H,hA,hl,h=>by
  generalize Qh:((List.range ops.size).filter λ i=>!listed.getD i true && ((ops[i]?).map (·.after.all λ e=>!Region.binds .any e || listed.getD e.on false)).getD false)=rs
  have nD:∀ i,i∈rs→i∈rem∧nM ops rem i=true:=by
   intro i hi
   rw [← Qh] at hi
   simp only [List.mem_filter,List.mem_range,fF,Bool.not_eq_true'] at hi
   obtain ⟨h1,h2,h3⟩:=hi
   refine ⟨(hA.2.2 i).2 ⟨h1,h2⟩,?_⟩
   unfold nM
   cases ho:ops[i]? with
   | none=>simp [ho] at h3
   | some o =>
    simp only [ho,Option.map_some,oz,Array.all_eq_true_iff_forall_mem] at h3 ⊢
    intro e he
    have:=h3 e he
    rcases Bool.or_eq_true_iff.1 this with x | x
    ·simp [x]
    ·have hn:e.on ∉ rem:=λ hm=>by
      have:=((hA.2.2 e.on).1 hm).2
      have bV:e.on < listed.size:=by rw [hA.1]; exact ((hA.2.2 e.on).1 hm).1
      simp only [Array.getD_eq_getD_getElem?,q6 bV,oz] at this x
      rw [x] at this; cases this
     simp [hn]
  rcases h with ⟨rfl,hq⟩ | ⟨da,y8⟩
  ·have ay8:rs=[]:=by
    cases rs with
    | nil=>rfl
    | cons a r=>exact absurd (nD a (by simp)).1 (by simp)
   refine ⟨[],?_,Jd.ctl rfl (λ w=>by simp [stepG,stepG.exec,aY,aX]) (hQ _ _ _ hq)⟩
   unfold Region.linearise.go
   simp only [Qh,ay8]
   simp
  ·
   have ay9:rs≠[]:=by
    obtain ⟨m,hm,axS⟩:=ahH rem da
    have Xz:=((hA.2.2 m).1 hm).1
    have:m∈rs:=by
     rw [← Qh]
     simp only [List.mem_filter,List.mem_range,fF,Bool.not_eq_true']
     refine ⟨Xz,((hA.2.2 m).1 hm).2,?_⟩
     have ho:ops[m]? = some ops[m]:=q6 Xz
     simp only [ho,Option.map_some,oz,Array.all_eq_true_iff_forall_mem]
     intro e he
     unfold backward at hb
     rw [List.all_eq_true] at hb
     have gP:=hb m (List.mem_range.2 Xz)
     simp only [ho,Array.all_eq_true_iff_forall_mem] at gP
     rcases Bool.or_eq_true_iff.1 (gP e he) with x | x
     ·simp [x]
     ·have bV:e.on < m:=by simpa using x
      have hn:e.on ∉ rem:=λ Lz=>by have:=axS _ Lz; omega
      have hl':e.on < listed.size:=by rw [hA.1]; omega
      have h1:listed.getD e.on true=true:=by
       cases hh:listed.getD e.on true with
       | true=>rfl
       | false=>exact absurd ((hA.2.2 e.on).2 ⟨by omega,hh⟩) hn
      simp only [Array.getD_eq_getD_getElem?,q6 hl',oz] at h1 ⊢
      simp [h1]
    intro e; rw [e] at this; cases this
   have hlen:t % rs.length < rs.length:=Nat.mod_lt _ (by
    cases rs with
    | nil=>exact absurd rfl ay9
    | cons _ _=>simp)
   have hi:rs[t % rs.length]? = some rs[t % rs.length]:=mN hlen
   generalize rs[t % rs.length]=i at hi
   obtain ⟨W9,lJ⟩:=nD i (List.mem_of_getElem? hi)
   have Ye:=λ hw=>y8 hw i W9 lJ
   have bV:(rem.erase i).length≤fuel:=by rw [List.length_erase_of_mem W9]; omega
   have hgo:∀ Oo,∃ is,Region.linearise.go .any ops fuel (t / rs.length) (listed.setIfInBounds i true) Oo=Oo.reverse++is:=λ Oo=>⟨_,linearise_go_acc .any ops fuel (t / rs.length) (listed.setIfInBounds i true) Oo⟩
   obtain ⟨is,mX⟩:=hgo (i::acc)
   refine ⟨i::is,?_,?_⟩
   ·rw [Region.linearise.go]
    simp only [Qh,hi]
    rw [mX]; simp
   ·refine J.given ab rfl λ hw=>?_
    refine amM hk (Ye hw) λ t' R' H' hK=>?_
    obtain ⟨sR,h1,h2⟩:=ade hk hb hQ fuel (t / rs.length) (listed.setIfInBounds i true) (i::acc) (rem.erase i) t' R' H' (hA.erase W9) bV hK
    rw [mX] at h1
    have:is=sR:=by simpa using h1
    rw [this]; exact h2
end
section
variable {P:Program} {B:Base} {main:Bool} {ab:Jd P B main}
def noSelect(o:Oper):Bool:=match o.op with | .select _ _=>false | _=>true
def looks(ops:Array Oper)(o:Oper):List Nat :=
 (o.op.operands.toList.filterMap λ | .tmp t=>some t | _=>none)++(match o.guard with | some (j,_)=>((ops[j]?).bind (·.dst)).toList | none=>[])
def J6(ops:Array Oper)(a b:Oper):Bool :=
 (match a.dst with | some d=>!(looks ops b).contains d && b.dst != some d | none=>true) && (match b.dst with | some d=>!(looks ops a).contains d | none=>true)
theorem aLO{a b:Option Tmp}{v u:Value}{t:Array Value}(h:∀ d,a=some d→b≠some d):gd a v (gd b u t)=gd b u (gd a v t):=by
 cases a with
 | none=>rfl
 | some x=>cases b with
  | none=>rfl
  | some y =>
   have da:x≠y:=λ e=>h x rfl (by rw [e])
   simp only [gd]
   exact Array.setIfInBounds_comm u v (Ne.symm da)
theorem arb{c:Ctx}{t:Array Value}{dst:Option Tmp}{v:Value}{x:Operand}(h:∀ d,dst=some d→x ≠ .tmp d):(aX c (gd dst v t) []).eval x=(aX c t []).eval x:=by
 cases dst with
 | none=>rfl
 | some d=>cases x with
  | tmp y =>
   have da:d≠y:=λ e=>h d rfl (by rw [e])
   simp only [aX,Frame.eval,gd,Array.getD_eq_getD_getElem?]
   rw [nq da]
  | _=>rfl
theorem af2{c:Ctx}{ops:Array Oper}{t:Array Value}{dst:Option Tmp}{v:Value}{o:Oper}(hs:noSelect o=true)(h:∀ d,dst=some d→d ∉ looks ops o):execOp (aX c (gd dst v t) []).eval o=execOp (aX c t []).eval o:=by
 refine execOp_congr o (λ cs b e=>by rw [noSelect,e] at hs; cases hs) λ x hx=>arb λ d hd e=>h d hd ?_
 subst e
 unfold looks
 exact dF _ (List.mem_filterMap.2 ⟨_,Array.mem_toList_iff.2 hx,rfl⟩)
theorem ak8{ops:Array Oper}{t:Array Value}{dst:Option Tmp}{v:Value}{o:Oper}(h:∀ d,dst=some d→d ∉ looks ops o):Region.wanted o (yielded ops (gd dst v t))=Region.wanted o (yielded ops t):=by
 unfold Region.wanted
 cases hg:o.guard with
 | none=>rfl
 | some g =>
  obtain ⟨j,want⟩:=g
  simp only [yielded]
  cases hd:(ops[j]?).bind (·.dst) with
  | none=>rfl
  | some d =>
   simp only [aU]
   cases dst with
   | none=>rfl
   | some d' =>
    have da:d'≠d:=λ e=>h d' rfl (by
     subst e
     unfold looks
     rw [hg]
     exact mM _ (by simp [hd]))
    simp only [gd]
    rw [nq da]
theorem adO{ops:Array Oper}{a b:Oper}(h:J6 ops a b=true):(∀ d,a.dst=some d→d ∉ looks ops b∧b.dst≠some d)∧(∀ d,b.dst=some d→d ∉ looks ops a):=by
 unfold J6 at h
 rw [fF] at h
 refine ⟨λ d hd=>?_,λ d hd=>?_⟩
 ·rw [hd] at h; simpa using h.1
 ·rw [hd] at h; simpa using h.2
theorem Du.gd{c:Ctx}{S:ah}{ops:Array Oper}{j:Nat}{oi oj:Oper}{t:Array Value}{v:Value}{R:az}{H:ah}{K1 K:Array Value→az→ah→Prop}(hj:ops[j]? = some oj)(hs:noSelect oj=true)(kJ:J6 ops oi oj=true){F:ah}(hS:∀ p∈F,p∈H)(hFS:∀ p∈F,p∈S)
  (h:Du ab c S ops j (gd oi.dst v t) R H K1) (hK:∀ u R' H',aS R R'→(∀ p∈F,p∈H')→K1 (Go.Lg.gd oj.dst u (Go.Lg.gd oi.dst v t)) R' H'→K (Go.Lg.gd oj.dst u t) R' H'):Du ab c S ops j t R H K:=by
 obtain ⟨h1,h2⟩:=adO kJ
 obtain ⟨o,ho,hd,h⟩:=h
 obtain rfl:o=oj:=kz (ho.symm.trans hj)
 rw [ak8 (λ d hd=>(h1 d hd).1),af2 hs (λ d hd=>(h1 d hd).1)] at h
 refine ⟨o,ho,hd,?_⟩
 rcases h with ⟨a,b⟩ | ⟨a,b | ⟨f,args,b,b'⟩⟩
 ·exact .inl ⟨a,hK _ _ _ (aS.refl _) hS b⟩
 ·exact .inr ⟨a,.inl (b.mono λ nx R' H' ⟨u,x,y,z,hk⟩=>⟨u,x,y,z,hK _ _ _ y (λ p hp=>z p (hFS p hp) (hS p hp)) hk⟩)⟩
 ·exact .inr ⟨a,.inr ⟨f,args,b,b'.mono λ u R' H' ⟨y,z,hk⟩=>⟨y,z,hK _ _ _ y (λ p hp=>z p (hFS p hp) (hS p hp)) hk⟩⟩⟩
def ac1(P:Program)(B:Base)(S:ah)(R:az)(ρ:Operand→Value)(o:Oper)(v:Value):Prop :=
 ∀ R' H',aS R R'→(∀ p∈S,p∈H')→aO P B R' H' (execOp ρ o) λ nx cZ eI=>(nx = .value v∨(nx = .skip∧v=undef))∧cZ=R'∧eI=H'
def qT(ops:Array Oper)(rem:List Nat)(i:Nat)(D:List Nat):Bool :=
 rem.contains i && nM ops rem i && !D.contains i && D.all (λ j=>rem.contains j && match ops[j]? with | some o=>o.after.any λ e=>Region.binds .any e && (e.on == i || D.contains e.on) | none=>false) &&
 (match ops[i]? with | some oi=>noSelect oi && rem.all (λ j=>j == i || D.contains j || match ops[j]? with | some oj=>noSelect oj && J6 ops oi oj | none=>false) | none=>false)
theorem aNn{ops:Array Oper}{rem:List Nat}{i j:Nat}{D:List Nat}(h:qT ops rem i D=true)(gE:j≠i)(sH:j ∉ D):qT ops (rem.erase j) i D=true:=by
 unfold qT at h ⊢
 simp only [fF,Bool.not_eq_true',List.all_eq_true,List.contains_iff_mem] at h ⊢
 obtain ⟨⟨⟨⟨h1,h2⟩,h3⟩,h4⟩,h5⟩:=h
 refine ⟨⟨⟨⟨(List.mem_erase_of_ne (Ne.symm gE)).2 h1,?_⟩,h3⟩,λ x hx=>⟨(List.mem_erase_of_ne (λ e=>sH (by rw [← e]; exact hx))).2 (h4 x hx).1,(h4 x hx).2⟩⟩,?_⟩
 ·unfold nM at h2 ⊢
  cases ho:ops[i]? with
  | none=>simp [ho] at h2
  | some o =>
   simp only [ho,Array.all_eq_true_iff_forall_mem] at h2 ⊢
   intro e he
   have:=h2 e he
   rcases Bool.or_eq_true_iff.1 this with x | x
   ·simp [x]
   ·have hn:e.on ∉ rem:=by simpa using x
    have:e.on ∉ rem.erase j:=λ hm=>hn (List.mem_of_mem_erase hm)
    simp [this]
 ·cases ho:ops[i]? with
  | none=>simp [ho] at h5
  | some oi =>
   simp only [ho,fF,List.all_eq_true] at h5 ⊢
   exact ⟨h5.1,λ x hx=>h5.2 x (List.mem_of_mem_erase hx)⟩
theorem adN{c:Ctx}{S:Nat→ah}{ops:Array Oper}{Q:Array Value→az→ah→Prop}{i:Nat}{oi:Oper}{D:List Nat}{N:ah}{v:Value}(hi:ops[i]? = some oi)(hd:nG oi.op=false):∀ (n:Nat) (rem:List Nat) (t:Array Value) (R:az) (H:ah),
  qT ops rem i D=true→rem.Nodup→(∀ p∈N,p∈H)→(∀ j∈rem,j≠i→j ∉ D→∀ p∈N,p∈S j)→((Region.wanted oi (yielded ops t)=true∧ac1 P B N R (aX c t []).eval oi v)∨(Region.wanted oi (yielded ops t)=false∧v=undef))→GY ab c S ops Q n (rem.erase i) (gd oi.dst v t) R H→GY ab c S ops Q (n+1) rem t R H:=by
 intro n
 induction n with
 | zero =>
  intro rem t R H jT dR hS y7 rF h
  unfold qT at jT
  simp only [fF,List.contains_iff_mem] at jT
  have nD:i∈rem:=jT.1.1.1.1
  refine .inr ⟨(λ e=>by rw [e] at nD; cases nD),λ _ j hj _=>?_⟩
  have gE:j=i:=by
   by_cases e:j=i
   ·exact e
   ·exact absurd ((List.mem_erase_of_ne e).2 hj) (by rw [h.1]; simp)
  subst gE
  rcases rF with ⟨hw,hf⟩ | ⟨hw,rfl⟩
  ·exact ⟨oi,hi,hd,.inr ⟨hw,.inl ((hf R H (aS.refl _) hS).mono λ nx R' H' ⟨e1,e2,e3⟩=>by subst e2 e3; exact ⟨v,e1,aS.refl _,(λ _ _ h=>h),h⟩)⟩⟩
  ·exact ⟨oi,hi,hd,.inl ⟨hw,h⟩⟩
 | succ n ih =>
  intro rem t R H jT dR hS y7 rF h
  have aBS:=jT
  unfold qT at jT
  simp only [fF,List.contains_iff_mem,Bool.not_eq_true',List.all_eq_true] at jT
  obtain ⟨⟨⟨⟨nD,aYA⟩,hiD⟩,hD⟩,y8⟩:=jT
  rw [hi] at y8
  simp only [fF,List.all_eq_true] at y8
  obtain ⟨axX,y8⟩:=y8
  refine .inr ⟨(λ e=>by rw [e] at nD; cases nD),λ Zo j hj BM=>?_⟩
  by_cases gE:j=i
  ·subst gE
   rcases rF with ⟨hw,hf⟩ | ⟨hw,rfl⟩
   ·exact ⟨oi,hi,hd,.inr ⟨hw,.inl ((hf R H (aS.refl _) hS).mono λ nx R' H' ⟨e1,e2,e3⟩=>by subst e2 e3; exact ⟨v,e1,aS.refl _,(λ _ _ h=>h),h⟩)⟩⟩
   ·exact ⟨oi,hi,hd,.inl ⟨hw,h⟩⟩
  ·
   have sH:j ∉ D:=λ sH=>by
    obtain ⟨_,hx⟩:=hD j sH
    unfold nM at BM
    cases ho:ops[j]? with
    | none=>simp [ho] at hx
    | some o =>
     simp only [ho,Array.all_eq_true_iff_forall_mem] at BM hx
     rw [Array.any_eq_true'] at hx
     obtain ⟨e,he,hx⟩:=hx
     have hr:=BM e he
     rw [fF] at hx
     have qy:e.on∈rem:=by
      rcases Bool.or_eq_true_iff.1 hx.2 with x | x
      ·have:e.on=i:=by simpa using x
       rw [this]; exact nD
      ·have hxD:e.on∈D:=by simpa using x
       exact (hD _ hxD).1
     simp [hx.1,qy] at hr
   have BL:=y8 j hj
   have Xt:∃ oj,ops[j]? = some oj∧noSelect oj=true∧J6 ops oi oj=true:=by
    cases ho:ops[j]? with
    | none=>simp [gE,sH,ho] at BL
    | some oj=>simp [gE,sH,ho] at BL; exact ⟨oj,rfl,BL.1,BL.2⟩
   obtain ⟨oj,hoj,aza,kJ⟩:=Xt
   rcases h with ⟨he,_⟩ | ⟨_,aBx⟩
   ·exact absurd ((List.mem_erase_of_ne gE).2 hj) (by rw [he]; simp)
   have axJ:nM ops (rem.erase i) j=true:=by
    unfold nM at BM ⊢
    simp only [hoj,Array.all_eq_true_iff_forall_mem] at BM ⊢
    intro e he
    have:=BM e he
    rcases Bool.or_eq_true_iff.1 this with x | x
    ·simp [x]
    ·have hn:e.on ∉ rem:=by simpa using x
     have:e.on ∉ rem.erase i:=λ hm=>hn (List.mem_of_mem_erase hm)
     simp [this]
   have Ye:=aBx Zo j ((List.mem_erase_of_ne gE).2 hj) axJ
   obtain ⟨ha1,ha2⟩:=adO kJ
   refine Du.gd (oi:=oi) (v:=v) hoj aza kJ hS (y7 j hj gE sH) Ye λ u R' H' hR Wu hA=>?_
   refine ih (rem.erase j) (gd oj.dst u t) R' H' (aNn aBS gE sH) (dR.erase _) Wu (λ x hx=>y7 x (List.mem_of_mem_erase hx)) ?_ ?_
   ·rw [ak8 (λ d hd=>ha2 d hd)]
    refine rF.imp (λ ⟨hw,hf⟩=>⟨hw,λ cZ eI tS atC=>?_⟩) id
    rw [af2 (ops:=ops) axX (λ d hd=>ha2 d hd)]
    exact hf cZ eI (hR.trans tS) atC
   ·rw [List.erase_comm,aLO (a:=oi.dst) (b:=oj.dst) (λ d hd=>(ha1 d hd).2)]
    exact hA
variable {c:Ctx} {S:Nat→ah} {ops:Array Oper} {k:List Item} {R:az} {H:ah} {st st':St} {rem:List Nat} {n:Nat}
def Any(ab:Jd P B main)(c:Ctx)(S:Nat→ah)(ops:Array Oper)(k:List Item)(n:Nat)(rem:List Nat)(R:az)(H:ah)(st:St):Prop :=
 rem.Nodup∧∀ tmps,dh c.n st tmps→GY ab c S ops (λ t R H=>ab.J R H (aY (aX c t k) c.cs)) n rem tmps R H
theorem At.draw{id:Nat}{is:List Nat}{n:Nat}(S:Nat→ah)(hm:P.follows .mixedOrders=true)(hk:(c.kind == CallKind.early)=false)(hb:backward ops=true)(hn:ops.size=n)(mX:List.range n=is)(h:Any ab c S ops k n is R H st):At ab c R H st (.code (.region id ops true)::k):=by
 intro tmps ht
 subst hn; subst mX
 refine ab.step rfl λ w hw=>?_
 have hA:JF ops (Array.replicate ops.size false) (List.range ops.size):=⟨by simp,List.nodup_range,λ i=>by
  simp only [List.mem_range,Array.getD_eq_getD_getElem?]
  constructor
  ·intro hi; exact ⟨hi,by simp [hi]⟩
  ·exact λ x=>x.1⟩
 have key:=λ t=>ade (ab:=ab) (k:=k) hk hb (λ _ _ _ hq=>hq) ops.size t _ [] _ tmps R H hA (by simp) (h.2 tmps ht)
 obtain ⟨is,h1,h2⟩:=key (if (Question.order c.fn id).forced then 0 else (Question.order c.fn id).cut (w.tape w.drawn (.order c.fn id)))
 refine ⟨aY (aX c tmps (.inRegion ops is::k)) c.cs,{ w with drawn:=w.drawn+1 },#[],R,H,?_,by simp,⟨⟨hw.r,hw.h,hw.nd,hw.dj,hw.os,hw.tape,hw.out⟩,λ _ _ x=>x,dr _,λ _ _ _=>rfl,λ _ _ x=>.inl x,λ _ o x=>.inl ⟨o,x⟩⟩,h2⟩
 simp only [Question.forced,l6,if_false,List.reverse_nil,List.nil_append] at h1
 simp [stepG,stepG.exec,aY,aX,choose,Sem.run,Question.forced,Region.schedule,hm,Region.linearise,h1]
theorem At.apt{id:Nat}{is:List Nat}{n:Nat}(hm:P.follows .mixedOrders=true)(hk:(c.kind == CallKind.early)=false)(hb:backward ops=true)(hn:ops.size=n)(mX:List.range n=is)(h:Any ab c (λ _=>H) ops k n is R H st):At ab c R H st (.code (.region id ops true)::k):=At.draw (λ _=>H) hm hk hb hn mX h
theorem qf.IA{o:Oper}{i:Nat}{tmps:Array Value}(h:qf ab c o R H st λ R' H' st'=>aS R R'∧(∀ p∈S i,p∈H→p∈H')∧Any ab c S ops k n rem R' H' st')(ho:ops[i]? = some o)(hw:Region.wanted o (yielded ops tmps)=true)(ht:dh c.n st tmps) :
  Du ab c (S i) ops i tmps R H λ t' R' H'=>GY ab c S ops (λ t R H=>ab.J R H (aY (aX c t k) c.cs)) n rem t' R' H':=by
 obtain ⟨hd,mD,h | ⟨f,args,h1,h2⟩⟩:=h
 ·exact ⟨o,ho,hd,.inr ⟨hw,.inl ((h _ (ht.knows c [])).mono λ nx R' H' ⟨v,hv,st',hs,hR,hS,hA⟩=>⟨v,hv,hR,hS,hA.2 _ ((ht.put v mD).sub hs)⟩)⟩⟩
 ·exact ⟨o,ho,hd,.inr ⟨hw,.inr ⟨f,args,h1 _ (ht.knows c []),h2.mono λ v R' H' ⟨st',hs,hR,hS,hA⟩=>⟨hR,hS,hA.2 _ ((ht.put v mD).sub hs)⟩⟩⟩⟩
theorem Any.done(h:At ab c R H st k):Any ab c S ops k n [] R H st:=⟨List.nodup_nil,λ tmps ht=>by
 cases n with
 | zero=>exact ⟨rfl,h tmps ht⟩
 | succ n=>exact .inl ⟨rfl,h tmps ht⟩⟩
theorem Any.take{i:Nat}{o:Oper}{v:Value}{N:ah}(D:List Nat)(ho:ops[i]? = some o)(jT:qT ops rem i D=true)(hd:nG o.op=false)(mD:cx o.dst c.n)(hw:cY ops st o=some true)(y7:∀ j∈rem,j≠i→j ∉ D→∀ p∈N,p∈S j)(hS:∀ p∈N,p∈H)(hf:∀ ρ,Knows st ρ→ac1 P B N R ρ o v)(hs:aB (cB o.dst v st) st')(dR:rem.Nodup)
  {qN:List Nat} (hr:rem.erase i=qN) (h:Any ab c S ops k n qN R H st'):Any ab c S ops k (n+1) rem R H st:=by
 subst hr
 exact ⟨dR,λ tmps ht=>adN ho hd n rem tmps R H jT dR hS y7 (.inl ⟨lu ht hw,hf _ (ht.knows c [])⟩) (h.2 _ ((ht.put v mD).sub hs))⟩
theorem Any.F6{i d:Nat}{o:Oper}{v:Value}{N:ah}(D:List Nat)(ho:ops[i]? = some o)(od:o.dst=some d)(hw:cY ops st o=some true)(jT:qT ops rem i D=true)(y7:∀ j∈rem,j≠i→j ∉ D→∀ p∈N,p∈S j)(hS:∀ p∈N,p∈H)
  (hf:∀ R' H',aS R R'→(∀ p∈N,p∈H')→bc P B c o R' H' st λ R1 H1 ng=>R1=R'∧H1=H'∧ng=[(d,v)]) (hs:aB ((d,v)::st) st') (dR:rem.Nodup)
  {qN:List Nat} (hr:rem.erase i=qN) (h:Any ab c S ops k n qN R H st'):Any ab c S ops k (n+1) rem R H st:=by
 have h0:=hf R H (aS.refl _) hS
 refine Any.take (v:=v) D ho jT h0.1 h0.2.1 hw y7 hS (λ ρ bj R' H' hR Wu=>?_) (by rw [od]; exact hs) dR hr h
 refine ((hf R' H' hR Wu).2.2 ρ bj).mono λ nx cZ eI ⟨u,hu,ng,qB,e1,e2,e3⟩=>?_
 subst e3
 rw [od] at qB
 have huv:u=v:=by
  have:=qB d v (by simp)
  simp only [cB,List.lookup_cons,beq_self_eq_true] at this
  exact kz this
 subst huv
 exact ⟨hu,e1,e2⟩
theorem Any.aNm{i:Nat}{o:Oper}(D:List Nat)(ho:ops[i]? = some o)(jT:qT ops rem i D=true)(hd:nG o.op=false)(mD:cx o.dst c.n)(hw:cY ops st o=some false)(hs:aB (cB o.dst undef st) st')(dR:rem.Nodup)
  {qN:List Nat} (hr:rem.erase i=qN) (h:Any ab c S ops k n qN R H st'):Any ab c S ops k (n+1) rem R H st:=by
 subst hr
 exact ⟨dR,λ tmps ht=>adN (v:=undef) (N:=[]) ho hd n rem tmps R H jT dR (by simp) (by simp) (.inr ⟨lu ht hw,rfl⟩) (h.2 _ ((ht.put undef mD).sub hs))⟩
theorem Any.one{i:Nat}{o:Oper}(ho:ops[i]? = some o)(lJ:rem.filter (nM ops rem)=[i])(hw:cY ops st o=some true)(dR:rem.Nodup){qN:List Nat}(hr:rem.erase i=qN)
  (h:qf ab c o R H st λ R' H' st'=>aS R R'∧(∀ p∈S i,p∈H→p∈H')∧Any ab c S ops k n qN R' H' st'):Any ab c S ops k (n+1) rem R H st:=by
 subst hr
 refine ⟨dR,λ tmps ht=>.inr ⟨(λ e=>by rw [e] at lJ; cases lJ),λ _ j hj BM=>?_⟩⟩
 have:j∈rem.filter (nM ops rem):=List.mem_filter.2 ⟨hj,BM⟩
 rw [lJ] at this
 obtain rfl:j=i:=by simpa using this
 exact h.IA ho (lu ht hw) ht
theorem aGN{H H':ah}(h:∀ p∈H,p∈H'){X:ah}:∀ p∈H,p∈X→p∈H':=λ p hp _=>h p hp
end
section
variable {P:Program} {B:Base} {main:Bool} {ab:Jd P B main} {c:Ctx} {R:az} {H H':ah} {st st':St} {k:List Item}
theorem SL{w:World}(hs:List.Sublist H' H)(hw:Fits B R H w):gv B R H w R H' w :=
 ⟨⟨hw.r,λ b o h=>hw.h b o (hs.subset h),(hs.map _).nodup hw.nd,λ b o h=>hw.dj b o (hs.subset h),hw.os,hw.tape,hw.out⟩,λ _ _ x=>x,dr _,λ _ _ _=>rfl,λ _ _ x=>.inl x,λ _ o x=>.inl ⟨o,hs.subset x⟩⟩
theorem At.cc{todo:List Item}(hs:List.Sublist H' H)(h:At ab c R H' st todo):At ab c R H st todo:=At.ghost (λ _ hw=>SL hs hw) h
theorem J.drop{g:Goroutine}(hs:List.Sublist H' H)(h:ab.J R H' g):ab.J R H g:=ab.ghost (λ _ hw=>SL hs hw) h
theorem ab5{w:World}(hs:List.Perm H' H)(hw:Fits B R H w):gv B R H w R H' w :=
 ⟨⟨hw.r,λ b o h=>hw.h b o (hs.subset h),(hs.map _).nodup_iff.2 hw.nd,λ b o h=>hw.dj b o (hs.subset h),hw.os,hw.tape,hw.out⟩,λ _ _ x=>x,dr _,λ _ _ _=>rfl,λ _ _ x=>.inl x,λ _ o x=>.inl ⟨o,hs.subset x⟩⟩
theorem At.perm{todo:List Item}(hs:List.Perm H' H)(h:At ab c R H' st todo):At ab c R H st todo:=At.ghost (λ _ hw=>ab5 hs hw) h
theorem J.perm{g:Goroutine}(hs:List.Perm H' H)(h:ab.J R H' g):ab.J R H g:=ab.ghost (λ _ hw=>ab5 hs hw) h
def az.ins(R:az)(b:Nat)(o:Obj):az:=λ x=>if x=b then some o else R x
theorem az.aGI(R:az)(b:Nat)(o:Obj):R.ins b o b=some o:=by simp [az.ins]
theorem az.ahp{R:az}{b:Nat}{o:Obj}(h:R b=none):aS R (R.ins b o):=λ x u hx=>by
 unfold az.ins
 split
 ·subst_vars; rw [h] at hx; cases hx
 ·exact hx
theorem aNz{w:World}{b:Nat}{o:Obj}(hw:Fits B R ((b,o)::H) w):gv B R ((b,o)::H) w (R.ins b o) H w:=by
 have hb:R b=none:=hw.dj b o (by simp)
 have dR:=hw.nd
 rw [List.map_cons,List.nodup_cons] at dR
 refine ⟨⟨λ x u hx=>?_,λ x u hx=>hw.h x u (by simp [hx]),dR.2,λ x u hx=>?_,hw.os,hw.tape,hw.out⟩,az.ahp hb,dr _,λ _ _ _=>rfl,λ x u hx=>?_,λ x u hx=>.inl ⟨u,by simp [hx]⟩⟩
 ·unfold az.ins at hx
  split at hx
  ·subst_vars; cases hx; exact hw.h _ _ (by simp)
  ·exact hw.r x u hx
 ·have da:x≠b:=λ e=>dR.1 (List.mem_map.2 ⟨(x,u),hx,e⟩)
  unfold az.ins
  rw [if_neg da]
  exact hw.dj x u (by simp [hx])
 ·unfold az.ins at hx
  split at hx
  ·subst_vars; exact .inr (.inl ⟨o,by simp⟩)
  ·exact .inl hx
theorem J.freeze{g:Goroutine}{b:Nat}{o:Obj}(h:∀ R',aS R R'→R' b=some o→ab.J R' H g)(hb:R b=none):ab.J R ((b,o)::H) g :=
 ab.ghost (λ _ hw=>aNz hw) (h _ (az.ahp hb) (az.aGI R b o))
theorem J.asL{fr:Frame}{cs:List Frame}{b:Nat}{o:Obj}(h:∀ R',aS R R'→R' b=some o→ab.J R' H (aY fr cs)):ab.J R ((b,o)::H) (aY fr cs):=by
 cases hb:R b with
 | none=>exact J.freeze h hb
 | some x =>
  refine ab.step rfl λ w hw=>?_
  have:=hw.dj b o (by simp)
  rw [hb] at this
  cases this
theorem At.freeze{todo:List Item}{b:Nat}{o:Obj}(h:∀ R',aS R R'→R' b=some o→At ab c R' H st todo):At ab c R ((b,o)::H) st todo :=
 λ tmps ht=>J.asL λ R' h1 h2=>h R' h1 h2 tmps ht
theorem dh.ajV{n t:Nat}{x:Value}{tmps:Array Value}(hx:st.lookup t=some x)(h:dh n st tmps):dh n ((t,x)::st) tmps:=by
 refine ⟨h.1,λ u v hu=>?_⟩
 rw [List.lookup_cons] at hu
 split at hu
 ·rename_i heq
  have:u=t:=by simpa using heq
  subst this
  cases hu
  exact h.2 _ _ hx
 ·exact h.2 u v hu
theorem At.loop{body:Code}(I:Nat→az→ah→St→Prop)
  (Wx:∀ n R H st,I n R H st→(∀ m R' H' st',m < n→I m R' H' st'→At ab c R' H' st' (.inLoop body::k))→At ab c R H st (.code body :: .inLoop body::k))
  {n:Nat} (h0:I n R H st):At ab c R H st (.code (.loop body)::k):=by
 have key:∀ n R H st,I n R H st→At ab c R H st (.code body :: .inLoop body::k):=by
  intro n
  induction n using Nat.strongRecOn with
  | ind n ih=>exact λ R H st hI=>Wx n R H st hI λ m R' H' st' hm KH=>At.inLoop (ih m hm R' H' st' KH)
 exact At.enterLoop (key n R H st h0)
end
theorem Cell.mono{R R':az}{H:ah}{a:Addr}{v:Value}(h:Cell R [] a v)(hR:aS R R'):Cell R' H a v:=by
 obtain ⟨h1,cs,e,fz,h2,h3⟩:=h
 exact ⟨h1,cs,e,fz,.inl (h2.elim (hR _ _) (λ x=>by cases x)),h3⟩
theorem aT.up{R R':az}{H:ah}{b o:Nat}{vs:List Value}(h:aT R [] b o vs)(hR:aS R R'):aT R' H b o vs:=λ j v hj=>(h j v hj).mono hR
theorem aT.any{R:az}{H:ah}{b o:Nat}{vs:List Value}(h:aT R [] b o vs):aT R H b o vs:=h.up (aS.refl R)
theorem aT.one{R:az}{H:ah}{b o j:Nat}{v:Value}{vs:List Value}(h:aT R H b o vs)(hj:vs[j]? = some v):Cell R H ⟨b,o+j,none⟩ v:=h j v hj
end Go.Lg
