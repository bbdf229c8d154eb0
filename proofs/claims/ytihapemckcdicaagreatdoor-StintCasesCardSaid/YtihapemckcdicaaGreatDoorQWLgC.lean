/- Models, operations, lists, maps, arrays, ranges over functions. Conditions: none. -/
import Derived.Test.YtihapemckcdicaaGreatDoorQWLgA
import Derived.Laws.RangeAny
namespace Go.Lg
open Go.Conc
def nH{S O:Type}(body:S→Option (S ⊕ O)):Nat→S→Option O
 | 0,_=>none
 | n+1,s=>match body s with
  | none=>none
  | some (.inl s')=>nH body n s'
  | some (.inr o)=>some o
open Classical in
noncomputable def bD{S O:Type}(body:S→Option (S ⊕ O))(s:S):Option O:=if h:∃ o n,nH body n s=some o then some h.choose else none
theorem abx{S O:Type}{body:S→Option (S ⊕ O)}:∀ {n m:Nat} {s:S} {o:O},n≤m→nH body n s=some o→nH body m s=some o
 | 0,_,_,_,_,h=>by cases h
 | n+1,0,_,_,hm,_=>by omega
 | n+1,m+1,s,o,hm,h=>by
  simp only [nH] at h ⊢
  cases hb:body s with
  | none=>rw [hb] at h; cases h
  | some x=>cases x with
   | inl s'=>rw [hb] at h; exact abx (by omega) h
   | inr o'=>rw [hb] at h; exact h
theorem abz{S O:Type}{body:S→Option (S ⊕ O)}{n:Nat}{s:S}{o:O}(h:nH body n s=some o):bD body s=some o:=by
 have hex:∃ o n,nH body n s=some o:=⟨o,n,h⟩
 unfold bD
 rw [dif_pos hex]
 obtain ⟨m,hm⟩:=hex.choose_spec
 have h1:=abx (Nat.le_max_left n m) h
 have h2:=abx (Nat.le_max_right n m) hm
 rw [h1] at h2
 exact h2.symm
theorem aby{S O:Type}{body:S→Option (S ⊕ O)}{s:S}{o:O}(h:bD body s=some o):∃ n,nH body n s=some o:=by
 unfold bD at h
 split at h
 ·rename_i hex
  cases h
  exact hex.choose_spec
 ·cases h
theorem lO{S O:Type}{body:S→Option (S ⊕ O)}{s:S}{o:O}(h:body s=some (.inr o)):bD body s=some o :=
 abz (n:=1) (by simp [nH,h])
theorem vX{S O:Type}{body:S→Option (S ⊕ O)}{s s':S}(h:body s=some (.inl s')):bD body s=bD body s':=by
 cases h':bD body s' with
 | some o =>
  obtain ⟨n,hn⟩:=aby h'
  exact abz (n:=n+1) (by simp [nH,h,hn])
 | none =>
  cases h2:bD body s with
  | none=>rfl
  | some o =>
   obtain ⟨n,hn⟩:=aby h2
   cases n with
   | zero=>cases hn
   | succ n =>
    simp only [nH,h] at hn
    rw [abz hn] at h'
    cases h'
theorem ag{α β:Type}{o:Option α}{f:α→Option β}{r:β}(h:o.bind f=some r):∃ x,o=some x∧f x=some r:=by
 cases o with
 | none=>cases h
 | some x=>exact ⟨x,rfl,h⟩
def ae{α:Type}(t:Bool)(a b:Option α):Option α:=match t with | true=>a | false=>b
theorem bT{α:Type}{t:Bool}{a b:Option α}{r:α}{G:Prop}(h:ae t a b=some r)(h1:t=true→a=some r→G)(h2:t=false→b=some r→G):G:=by
 cases t with
 | true=>exact h1 rfl h
 | false=>exact h2 rfl h
theorem av{α:Type}{a b:α}(h:some a=some b):a=b:=j6 h
def idx{α:Type}(xs:List α)(i:Int):Option α:=if 0≤i then xs[i.toNat]? else none
def gk{α:Type}(xs ys:List α):Option (List α):=if xs.length+ys.length≤16777216 then some (xs++ys) else none
def kQ{α:Type}(xs:List α)(lo hi:Int):Option (List α):=if 0≤lo∧lo≤hi∧hi≤xs.length then some ((xs.take hi.toNat).drop lo.toNat) else none
theorem vS{α:Type}{xs:List α}{i:Int}{x:α}(h:idx xs i=some x):0≤i∧i < xs.length∧xs[i.toNat]? = some x:=by
 unfold idx at h
 split at h
 ·have:=(iF.1 h).1
  exact ⟨‹_›,by omega,h⟩
 ·cases h
theorem apV{α:Type}{xs ys zs:List α}(h:gk xs ys=some zs):xs.length+ys.length≤16777216∧zs=xs++ys:=by
 unfold gk at h
 split at h
 ·cases h; exact ⟨‹_›,rfl⟩
 ·cases h
section
variable {P:Program} {B:Base} {main:Bool} {ab:Jd P B main} {c:Ctx} {R:az} {H:ah} {st st':St} {k:List Item}
theorem At.bD{S O ρ:Type}{body:S→Option (S ⊕ O)}{cont:O→Option ρ}{s0:S}{r:ρ}{code:Code}(hM:(bD body s0).bind cont=some r)(I:S→az→ah→St→Prop)
  (Xi:∀ s R H st,I s R H st→∀ x,body s=some x→(∀ s',x = .inl s'→∀ R' H' st',I s' R' H' st'→At ab c R' H' st' (.inLoop code::k))→(∀ o,x = .inr o→cont o=some r)→At ab c R H st (.code code :: .inLoop code::k))
  (h0:I s0 R H st):At ab c R H st (.code (.loop code)::k):=by
 obtain ⟨o,hl,hc⟩:=ag hM
 obtain ⟨n,hn⟩:=aby hl
 clear hM hl
 have key:∀ n s R H st,nH body n s=some o→I s R H st→At ab c R H st (.code code :: .inLoop code::k):=by
  intro n
  induction n with
  | zero=>intro s R H st h; cases h
  | succ n ih =>
   intro s R H st h hI
   simp only [nH] at h
   cases hb:body s with
   | none=>rw [hb] at h; cases h
   | some x =>
    rw [hb] at h
    refine Xi s R H st hI x hb (λ s' hx R' H' st' KY=>?_) (λ o' hx=>?_)
    ·subst hx; exact At.inLoop (ih s' R' H' st' h KY)
    ·subst hx; cases h; exact hc
 exact At.enterLoop (key n s0 R H st hn h0)
theorem At.known{t:Nat}{x b:Bool}{todo:List Item}(hx:st.lookup t=some (.bool x))(hb:x=b)(h:At ab c R H ((t,.bool b)::st) todo):At ab c R H st todo:=by
 subst hb; exact λ tmps ht=>h tmps (ht.alf hx)
theorem Any.dk{S:Nat→ah}{ops:Array Oper}{n:Nat}{rem:List Nat}{t:Nat}{x b:Bool}(hx:st.lookup t=some (.bool x))(hb:x=b)(h:Any ab c S ops k n rem R H ((t,.bool b)::st)):Any ab c S ops k n rem R H st:=by
 subst hb; exact ⟨h.1,λ tmps ht=>h.2 tmps (ht.alf hx)⟩
theorem At.fX{x:Operand}{th el:Code}{t:Bool}(hx:bn st x=some (.bool t))(ht:t=true)(h:At ab c R H st (.code th::k)):At ab c R H st (.code (.cond x th el)::k):=by subst ht; exact At.cond_true hx h
theorem At.eU{x:Operand}{th el:Code}{t:Bool}(hx:bn st x=some (.bool t))(ht:t=false)(h:At ab c R H st (.code el::k)):At ab c R H st (.code (.cond x th el)::k):=by subst ht; exact At.cond_false hx h
end
abbrev cM(α:Type):=az→α→List Value→Prop
class CM {α:Type} (C:cM α):Prop where
 mono:∀ {R R':az} {x:α} {es:List Value},aR R R'→C R x es→C R' x es
 one:∀ {R:az} {x:α} {es:List Value},C R x es→∀ u∈es,u.oneCell'=true
def CI(kd:IntKind):cM Int:=λ _ x es=>es=[.int kd x]
def CS:cM ByteArray:=λ _ x es=>es=[.string x]
instance {kd:IntKind}:CM (CI kd):=⟨λ _ h=>h,λ h=>by cases h; simp [Value.oneCell']⟩
instance:CM CS:=⟨λ _ h=>h,λ h=>by cases h; simp [Value.oneCell']⟩
structure bB {α:Type} (C:cM α) (k:Nat) (R:az) (xs:List α) (es:List Value):Prop where
 len:es.length=xs.length * k
 at_:∀ (i:Nat) (x:α),xs[i]? = some x→∃ e1:List Value,C R x e1∧e1.length=k∧∀ (j:Nat) (w:Value),e1[j]? = some w→es[i * k+j]? = some w
theorem bB.nil{α:Type}{C:cM α}{k:Nat}{R:az}:bB C k R [] []:=⟨by simp,by simp⟩
theorem bB.mono{α:Type}{C:cM α}[CM C]{k:Nat}{R R':az}{xs:List α}{es:List Value}(h:bB C k R xs es)(hR:aR R R'):bB C k R' xs es :=
 ⟨h.len,λ i x hx=>by obtain ⟨e1,h1,h2,h3⟩:=h.at_ i x hx; exact ⟨e1,CM.mono hR h1,h2,h3⟩⟩
theorem bB.append{α:Type}{C:cM α}{k:Nat}{R:az}{xs ys:List α}{es fs:List Value}(h:bB C k R xs es)(g:bB C k R ys fs):bB C k R (xs++ys) (es++fs):=by
 refine ⟨by rw [kO,kO,h.len,g.len,Nat.add_mul],λ i x hx=>?_⟩
 by_cases hi:i < xs.length
 ·rw [rR hi] at hx
  obtain ⟨e1,h1,h2,h3⟩:=h.at_ i x hx
  refine ⟨e1,h1,h2,λ j w hj=>?_⟩
  have:=h3 j w hj
  rw [rR (iF.1 this).1]
  exact this
 ·rw [oz (by omega)] at hx
  obtain ⟨e1,h1,h2,h3⟩:=g.at_ _ x hx
  refine ⟨e1,h1,h2,λ j w hj=>?_⟩
  have:=h3 j w hj
  have e:i * k+j=es.length+((i - xs.length) * k+j):=by
   rw [h.len]
   have:i=xs.length+(i - xs.length):=by omega
   rw [← Nat.add_assoc,← Nat.add_mul,← this]
  rw [e,oz (by omega),Nat.add_sub_cancel_left]
  exact this
theorem bB.single{α:Type}{C:cM α}{k:Nat}{R:az}{x:α}{es:List Value}(h:C R x es)(hk:es.length=k):bB C k R [x] es:=by
 refine ⟨by simp [hk],λ i y hy=>?_⟩
 cases i with
 | zero=>cases hy; exact ⟨es,h,hk,λ j w hj=>by simpa using hj⟩
 | succ i=>simp at hy
theorem bB.one{α:Type}{C:cM α}[CM C]{k:Nat}{R:az}{xs:List α}{es:List Value}(h:bB C k R xs es):∀ u∈es,u.oneCell'=true:=by
 intro u hu
 obtain ⟨j,hj⟩:=List.getElem?_of_mem hu
 have bS:=(iF.1 hj).1
 rw [h.len] at bS
 have hk:0 < k:=by cases k with | zero=>simp at bS | succ k=>omega
 have hi:j / k < xs.length:=Nat.div_lt_of_lt_mul (by rw [Nat.mul_comm]; exact bS)
 obtain ⟨e1,h1,h2,h3⟩:=h.at_ (j / k) _ (lz hi)
 have hm:j % k < e1.length:=by rw [h2]; exact Nat.mod_lt _ hk
 have:=h3 (j % k) _ (lz hm)
 rw [show j / k * k+j % k=j by rw [Nat.mul_comm]; exact Nat.div_add_mod j k,hj] at this
 cases this
 exact CM.one h1 _ (List.getElem_mem hm)
theorem bB.drop{α:Type}{C:cM α}{k n:Nat}{R:az}{xs:List α}{es:List Value}(h:bB C k R xs es):bB C k R (xs.drop n) (es.drop (n * k)):=by
 refine ⟨by simp [h.len,Nat.sub_mul],λ i x hx=>?_⟩
 rw [List.getElem?_drop] at hx
 obtain ⟨e1,h1,h2,h3⟩:=h.at_ _ x hx
 refine ⟨e1,h1,h2,λ j w hj=>?_⟩
 rw [List.getElem?_drop,← h3 j w hj,Nat.add_mul,Nat.add_assoc]
theorem bB.take{α:Type}{C:cM α}{k n:Nat}{R:az}{xs:List α}{es:List Value}(h:bB C k R xs es):bB C k R (xs.take n) (es.take (n * k)):=by
 refine ⟨by simp only [jP,h.len]; exact Nat.mul_min_mul_right _ _ _,λ i x hx=>?_⟩
 rw [List.getElem?_take] at hx
 split at hx
 ·rename_i hi
  obtain ⟨e1,h1,h2,h3⟩:=h.at_ _ x hx
  refine ⟨e1,h1,h2,λ j w hj=>?_⟩
  have oq:j < k:=by rw [← h2]; exact (iF.1 hj).1
  rw [List.getElem?_take,if_pos,h3 j w hj]
  calc i * k+j < i * k+k:=by omega
   _=(i+1) * k:=by rw [Nat.add_mul,Nat.one_mul]
   _≤n * k:=Nat.mul_le_mul_right k hi
 ·cases hx
def aa{α:Type}(C:cM α)(k:Nat)(R:az)(v:Value)(xs:List α):Prop :=
 ∃ A cap es,v = .slice A xs.length cap∧bB C k R xs es∧xs.length≤cap∧(xs≠[]→∃ b o arr e fz,A=some ⟨b,o,none⟩∧R b=some (.cells arr e fz)∧∀ (j:Nat) (w:Value),es[j]? = some w→arr[o+j]? = some w)
theorem aa.mono{α:Type}{C:cM α}[CM C]{k:Nat}{R R':az}{v:Value}{xs:List α}(h:aa C k R v xs)(hR:aR R R'):aa C k R' v xs:=by
 obtain ⟨A,cap,es,h1,h2,hc,h3⟩:=h
 refine ⟨A,cap,es,h1,h2.mono hR,hc,λ hx=>?_⟩
 obtain ⟨b,o,arr,e,fz,g1,g2,g3⟩:=h3 hx
 exact ⟨b,o,arr,e,fz,g1,hR _ _ g2,g3⟩
theorem aa.nil{α:Type}{C:cM α}{k:Nat}{R:az}{A:Option Addr}{cap:Nat}:aa C k R (.slice A 0 cap) []:=⟨A,cap,[],rfl,.nil,Nat.zero_le _,λ h=>absurd rfl h⟩
def fi{α:Type}(C:cM α)(k:Nat):cM (List α):=λ R xs es=>∃ v,es=[v]∧aa C k R v xs
instance {α:Type} {C:cM α} [CM C] {k:Nat}:CM (fi C k):=⟨λ hR ⟨v,h1,h2⟩=>⟨v,h1,h2.mono hR⟩,λ ⟨v,h1,A,cap,es,h2,_⟩=>by subst h1; subst h2; simp [Value.oneCell']⟩
def bt{α:Type}(C:cM α)(k e:Nat)(R:az)(v:Value)(xs:List α)(Hs:ah):Prop :=
 (∃ A,v = .slice A 0 0∧xs=[]∧Hs=[])∨∃ b cap cs es,v = .slice (some ⟨b,0,none⟩) xs.length cap∧Hs=[(b,.cells cs e (0,0))]∧cs.size=cap * k∧xs.length≤cap∧bB C k R xs es∧∀ (j:Nat) (w:Value),es[j]? = some w→cs[j]? = some w
theorem bt.mono{α:Type}{C:cM α}[CM C]{k e:Nat}{R R':az}{v:Value}{xs:List α}{Hs:ah}(h:bt C k e R v xs Hs)(hR:aR R R'):bt C k e R' v xs Hs:=by
 rcases h with h | ⟨b,cap,cs,es,h1,h2,h3,h4,h5,h6⟩
 ·exact .inl h
 ·exact .inr ⟨b,cap,cs,es,h1,h2,h3,h4,h5.mono hR,h6⟩
theorem bt.nil{α:Type}{C:cM α}{k e:Nat}{R:az}{A:Option Addr}:bt C k e R (.slice A 0 0) [] []:=.inl ⟨A,rfl,rfl,rfl⟩
def qU{α:Type}(C:cM α)(k:Nat)(R:az)(H:ah)(v:Value)(ys:List α):Prop :=
 ∃ A cap es,v = .slice A ys.length cap∧bB C k R ys es∧(ys≠[]→∃ b o,A=some ⟨b,o,none⟩∧aU R H b o es)
theorem aa.arg{α:Type}{C:cM α}{k:Nat}{R:az}{H:ah}{v:Value}{xs:List α}(h:aa C k R v xs):qU C k R H v xs:=by
 obtain ⟨A,cap,es,h1,h2,_,h3⟩:=h
 refine ⟨A,cap,es,h1,h2,λ hx=>?_⟩
 obtain ⟨b,o,arr,e,fz,g1,g2,g3⟩:=h3 hx
 exact ⟨b,o,g1,λ j w hj=>⟨rfl,arr,e,fz,.inl g2,g3 j w hj⟩⟩
theorem qU.lit{α:Type}{C:cM α}{k e n cap b:Nat}{R:az}{H:ah}{ys:List α}{cs:Array Value}{fz:Nat × Nat}(hm:(b,Obj.cells cs e fz)∈H)(hE:bB C k R ys cs.toList)(hn:ys.length=n):qU C k R H (.slice (some ⟨b,0,none⟩) n cap) ys:=by
 subst hn
 exact ⟨_,cap,cs.toList,rfl,hE,λ _=>⟨b,0,rfl,λ j w hj=>⟨rfl,cs,e,fz,.inr hm,by simpa using hj⟩⟩⟩
def lW(G:ah→ah):Prop:=∃ A D,∀ X,G X=A++(X++D)
theorem lW.set{G:ah→ah}(hG:lW G){b:Nat}{o o':Obj}:fF (G [(b,o)]) b o o' (G [(b,o')]):=by
 obtain ⟨A,D,h⟩:=hG
 rw [h,h]
 clear h
 induction A with
 | nil=>exact .here
 | cons p A ih=>exact .there ih
end Go.Lg
namespace Go.Lg
open Go.Conc
section
variable {P:Program} {B:Base} {main:Bool} {ab:Jd P B main} {c:Ctx} {R:az} {H H':ah} {st st':St} {o:Oper} {C:az→ah→St→Prop}
def y7(P:Program)(t:TypeId)(v:Value)(i:Int)(b n:Nat):Prop:=∀ kd,ai P (Instr.indexAt t v (.int kd i)) (.pointer (some ⟨b,n,none⟩))
theorem aa.elem{α:Type}{K:cM α}{k t e:Nat}{v:Value}{xs:List α}{i:Int}{x:α}(h:aa K k R v xs)(ht:nW P t e k)(hi:idx xs i=some x) :
  ∃ b n es,K R x es∧aU R [] b n es∧y7 P t v i b n:=by
 obtain ⟨h1,h2,h3⟩:=vS hi
 obtain ⟨A,cap,es,rfl,hE,_,hc⟩:=h
 obtain ⟨b,o,arr,e',fz,rfl,g2,g3⟩:=hc (by rintro rfl; simp at h3)
 obtain ⟨e1,f1,f2,f3⟩:=hE.at_ _ _ h3
 refine ⟨b,o+i.toNat * k,e1,f1,λ j w hj=>⟨rfl,arr,e',fz,.inl g2,?_⟩,λ kd=>?_⟩
 ·have:=g3 _ _ (f3 j w hj)
  simpa [Nat.add_assoc] using this
 ·have:=ac8 (P:=P) (b:=b) (m:=o) (cap:=cap) (kd:=kd) ht (j:=i.toNat) (len:=xs.length) (by omega)
  rwa [Int.toNat_of_nonneg h1] at this
theorem Ox.RF{x y:Operand}{t:TypeId}{v:Value}{kd:IntKind}{i:Int}{b n:Nat}(au:o.op = .indexAddr t x y)(hx:bn st x=some v)(hy:bn st y=some (.int kd i))(hv:y7 P t v i b n)
  (hd:cB o.dst c.n) (hs:ay (cE o.dst (.pointer (some ⟨b,n,none⟩)) st) st') (h:C R H st'):bf P B c o R H st C :=
 Ox.mG (s:=λ ρ=>Instr.indexAt t (ρ x) (ρ y)) (by rw [au]; rfl) hd (λ ρ=>by simp only [execOp,au]) (λ ρ bl=>by rw [bl x _ hx,bl y _ hy]; exact hv kd) hs h
theorem aiO{t e len k b m:Nat}{i:Int}(ht:xd P t len e k)(hi:0≤i∧i < len):y7 P t (.pointer (some ⟨b,m,none⟩)) i b (m+i.toNat * k):=λ kd=>by
 have:=aQ3 (P:=P) (b:=b) (m:=m) (kd:=kd) ht (j:=i.toNat) (by omega)
 rwa [Int.toNat_of_nonneg hi.1] at this
theorem Ox.uf{α:Type}{K:cM α}{k:Nat}{x:Operand}{t e:TypeId}{v:Value}{xs:List α}(au:o.op = .call ⟨.builtin .len,#[x],#[t]⟩)(hx:bn st x=some v)(hl:aa K k R v xs)(ht:P.underlying t=some (.slice e))
  (hd:cB o.dst c.n) (hs:ay (cE o.dst (.int .i64 (xs.length:Int)) st) st') (h:C R H st'):bf P B c o R H st C:=by
 obtain ⟨A,cap,es,rfl,_⟩:=hl
 exact Ox.len au hx ht hd hs h
theorem Ox.Ca{α:Type}{K:cM α}{k e':Nat}{x:Operand}{t e:TypeId}{v:Value}{xs:List α}{Hs:ah}(au:o.op = .call ⟨.builtin .len,#[x],#[t]⟩)(hx:bn st x=some v)(hl:bt K k e' R v xs Hs)(ht:P.underlying t=some (.slice e))
  (hd:cB o.dst c.n) (hs:ay (cE o.dst (.int .i64 (xs.length:Int)) st) st') (h:C R H st'):bf P B c o R H st C:=by
 rcases hl with ⟨A,rfl,rfl,_⟩ | ⟨b,cap,cs,es,rfl,_⟩
 ·exact Ox.len au hx ht hd hs h
 ·exact Ox.len au hx ht hd hs h
def i64(z:Int):Int:=IntKind.wrap .i64 z
theorem RB{z:Int}(h : -9223372036854775808≤z∧z≤9223372036854775807):i64 z=z:=amF h
theorem Ox.ar{x y:Operand}{bo:BinOp}{t u:TypeId}{a b z:Int}{kd:IntKind}(au:o.op = .binOp bo t x y u)(hx:bn st x=some (.int kd a))(hy:bn st y=some (.int kd b))(hr:Vd bo a b=some z)
  (hd:cB o.dst c.n) (hs:ay (cE o.dst (.int kd (kd.wrap z)) st) st') (h:C R H st'):bf P B c o R H st C :=
 Ox.mG (s:=λ ρ=>do eqGuard bo t x y (ρ x) (ρ y); binOp bo t (ρ x) (ρ y)) (by rw [au]; rfl) hd (λ ρ=>by simp only [execOp,au]) (λ ρ bl=>by
  rw [bl x _ hx,bl y _ hy]
  refine ai.bR (FX _ _ _ _ _ _ _ _) ?_
  cases bo <;> simp only [Vd,jl,reduceCtorEq] at hr <;> subst hr <;> simp only [binOp,ne_eq,jo,if_false,Op.intArith] <;> exact ai.bL _) hs h
def o7(a b:Int):Option Int:=if b=0 then none else some (i64 (a.tdiv b))
theorem Ox.quo{x y:Operand}{t u:TypeId}{a b z:Int}(au:o.op = .binOp .quo t x y u)(hx:bn st x=some (.int .i64 a))(hy:bn st y=some (.int .i64 b))(hr:o7 a b=some z)
  (hd:cB o.dst c.n) (hs:ay (cE o.dst (.int .i64 z) st) st') (h:C R H st'):bf P B c o R H st C :=
 Ox.mG (s:=λ ρ=>do eqGuard .quo t x y (ρ x) (ρ y); binOp .quo t (ρ x) (ρ y)) (by rw [au]; rfl) hd (λ ρ=>by simp only [execOp,au]) (λ ρ bl=>by
  rw [bl x _ hx,bl y _ hy]
  refine ai.bR (FX _ _ _ _ _ _ _ _) ?_
  unfold o7 at hr
  split at hr
  ·cases hr
  ·cases hr; simp only [binOp,ne_eq,jo,if_false,Op.intDiv, *]; exact ai.bL _) hs h
def Ay(kd:IntKind)(a b:Int):Option Int:=if b < 0 then none else some (kd.wrap (a * 2 ^ (min b.toNat kd.bits)))
def mD(kd:IntKind)(a b:Int):Option Int:=if b < 0 then none else some (a.fdiv (2 ^ (min b.toNat kd.bits)))
theorem Ox.shl{x y:Operand}{t u:TypeId}{a b z:Int}{kd yk:IntKind}(au:o.op = .binOp .shl t x y u)(hx:bn st x=some (.int kd a))(hy:bn st y=some (.int yk b))(hr:Ay kd a b=some z)
  (hd:cB o.dst c.n) (hs:ay (cE o.dst (.int kd z) st) st') (h:C R H st'):bf P B c o R H st C :=
 Ox.mG (s:=λ ρ=>do eqGuard .shl t x y (ρ x) (ρ y); binOp .shl t (ρ x) (ρ y)) (by rw [au]; rfl) hd (λ ρ=>by simp only [execOp,au]) (λ ρ bl=>by
  rw [bl x _ hx,bl y _ hy]
  refine ai.bR (FX _ _ _ _ _ _ _ _) ?_
  unfold Ay at hr
  split at hr
  ·cases hr
  ·cases hr; simp only [binOp,Op.shift,if_false, *]; exact ai.bL _) hs h
theorem Ox.shr{x y:Operand}{t u:TypeId}{a b z:Int}{kd yk:IntKind}(au:o.op = .binOp .shr t x y u)(hx:bn st x=some (.int kd a))(hy:bn st y=some (.int yk b))(hr:mD kd a b=some z)
  (hd:cB o.dst c.n) (hs:ay (cE o.dst (.int kd z) st) st') (h:C R H st'):bf P B c o R H st C :=
 Ox.mG (s:=λ ρ=>do eqGuard .shr t x y (ρ x) (ρ y); binOp .shr t (ρ x) (ρ y)) (by rw [au]; rfl) hd (λ ρ=>by simp only [execOp,au]) (λ ρ bl=>by
  rw [bl x _ hx,bl y _ hy]
  refine ai.bR (FX _ _ _ _ _ _ _ _) ?_
  unfold mD at hr
  split at hr
  ·cases hr
  ·cases hr; simp only [binOp,Op.shift,if_false, *]; exact ai.bL _) hs h
def fT(bo:BinOp)(kd:IntKind)(a b:Int):Option Int :=
 let a:=BitVec.ofInt kd.bits a
 let b:=BitVec.ofInt kd.bits b
 match bo with
 | .and=>some (kd.wrap (a &&& b).toNat)
 | .or=>some (kd.wrap (a ||| b).toNat)
 | .xor=>some (kd.wrap (a ^^^ b).toNat)
 | .andNot=>some (kd.wrap (a &&& ~~~b).toNat)
 | _=>none
theorem Ox.bits{x y:Operand}{bo:BinOp}{t u:TypeId}{a b z:Int}{kd:IntKind}(au:o.op = .binOp bo t x y u)(hx:bn st x=some (.int kd a))(hy:bn st y=some (.int kd b))(hr:fT bo kd a b=some z)
  (hd:cB o.dst c.n) (hs:ay (cE o.dst (.int kd z) st) st') (h:C R H st'):bf P B c o R H st C :=
 Ox.mG (s:=λ ρ=>do eqGuard bo t x y (ρ x) (ρ y); binOp bo t (ρ x) (ρ y)) (by rw [au]; rfl) hd (λ ρ=>by simp only [execOp,au]) (λ ρ bl=>by
  rw [bl x _ hx,bl y _ hy]
  refine ai.bR (FX _ _ _ _ _ _ _ _) ?_
  cases bo <;> simp only [fT,jl,reduceCtorEq] at hr <;> subst hr <;> simp only [binOp,ne_eq,jo,if_false,Op.intBits] <;> exact ai.bL _) hs h
def af0:BinOp→ByteArray→ByteArray→Option Bool
 | .eql,x,y=>some (x.toList == y.toList)
 | .neq,x,y=>some (!(x.toList == y.toList))
 | _,_,_=>none
theorem aQ2(op:BinOp)(t:TypeId)(x y:Operand)(a b:ByteArray):ai P (eqGuard op t x y (.string a) (.string b)) ():=by
 unfold eqGuard
 cases op <;> exact ai.bL _
theorem Ox.af1{x y:Operand}{bo:BinOp}{t u:TypeId}{a b:ByteArray}{r:Bool}(au:o.op = .binOp bo t x y u)(hx:bn st x=some (.string a))(hy:bn st y=some (.string b))(hr:af0 bo a b=some r)
  (hd:cB o.dst c.n) (hs:ay (cE o.dst (.bool r) st) st') (h:C R H st'):bf P B c o R H st C :=
 Ox.mG (s:=λ ρ=>do eqGuard bo t x y (ρ x) (ρ y); binOp bo t (ρ x) (ρ y)) (by rw [au]; rfl) hd (λ ρ=>by simp only [execOp,au]) (λ ρ bl=>by
  rw [bl x _ hx,bl y _ hy]
  refine ai.bR (aQ2 _ _ _ _ _ _) ?_
  cases bo <;> simp only [af0,jl,reduceCtorEq] at hr <;> subst hr <;> simp only [binOp,Op.stringOp] <;> exact ai.bL _) hs h
def Kx:BinOp→Bool→Bool→Option Bool
 | .eql,x,y=>some (x == y)
 | .neq,x,y=>some (!(x == y))
 | _,_,_=>none
theorem aQ1(op:BinOp)(t:TypeId)(x y:Operand)(a b:Bool):ai P (eqGuard op t x y (.bool a) (.bool b)) ():=by
 unfold eqGuard
 cases op <;> exact ai.bL _
theorem aQY{t:TypeId}(ht:P.underlying t=some .bool)(a b:Bool):ai P (Op.equal t (.bool a) (.bool b)) (a == b):=by
 unfold Op.equal Op.maxDepth
 rw [Op.equalIn]
 exact ai.bR (ai.underlying ht) (ai.bL _)
theorem Ox.afZ{x y:Operand}{bo:BinOp}{t u:TypeId}{a b r:Bool}(au:o.op = .binOp bo t x y u)(hx:bn st x=some (.bool a))(hy:bn st y=some (.bool b))(ht:P.underlying t=some .bool)(hr:Kx bo a b=some r)
  (hd:cB o.dst c.n) (hs:ay (cE o.dst (.bool r) st) st') (h:C R H st'):bf P B c o R H st C :=
 Ox.mG (s:=λ ρ=>do eqGuard bo t x y (ρ x) (ρ y); binOp bo t (ρ x) (ρ y)) (by rw [au]; rfl) hd (λ ρ=>by simp only [execOp,au]) (λ ρ bl=>by
  rw [bl x _ hx,bl y _ hy]
  refine ai.bR (aQ1 _ _ _ _ _ _) ?_
  cases bo <;> simp only [Kx,jl,reduceCtorEq] at hr <;> subst hr <;> simp only [binOp] <;> exact ai.bR (aQY ht a b) (ai.bL _)) hs h
theorem Ox.G2{x y:Operand}{bo:BinOp}{t u:TypeId}{a b:Array Value}{q:Bool}(au:o.op = .binOp bo t x y u)(hx:bn st x=some (.agg a))(hy:bn st y=some (.agg b))(hg:P.eqGuardType P.depth t=false)(hq:ai P (Op.equal t (.agg a) (.agg b)) q){r:Bool}(hr:Kx bo q true=some r)
  (hd:cB o.dst c.n) (hs:ay (cE o.dst (.bool r) st) st') (h:C R H st'):bf P B c o R H st C :=
 Ox.mG (s:=λ ρ=>do eqGuard bo t x y (ρ x) (ρ y); binOp bo t (ρ x) (ρ y)) (by rw [au]; rfl) hd (λ ρ=>by simp only [execOp,au]) (λ ρ bl=>by
  rw [bl x _ hx,bl y _ hy]
  have hgd:ai P (eqGuard bo t x y (.agg a) (.agg b)) ():=by
   unfold eqGuard
   cases bo <;> simp only [Kx,reduceCtorEq] at hr <;> exact ai.bR ai.program (ai.bR ai.program (by simp only [hg]; exact ai.bL _))
  refine ai.bR hgd ?_
  cases bo <;> simp only [Kx,jl,reduceCtorEq] at hr <;> subst hr <;> simp only [binOp]
  ·exact ai.bR hq (by cases q <;> exact ai.bL _)
  ·exact ai.bR hq (by cases q <;> exact ai.bL _)) hs h
def sU:Int→List Int→Int
 | x,[]=>x
 | x,y::r=>sU (if y > x then y else x) r
def CE:Int→List Int→Int
 | x,[]=>x
 | x,y::r=>CE (if y < x then y else x) r
theorem alW{kd:IntKind}:∀ (l:List Int) (x:Int),ai P ((l.map (Value.int kd)).foldlM Builtin.max2 (.int kd x)) (.int kd (sU x l))
 | [],x=>ai.bL _
 | y::r,x=>by
  simp only [List.map_cons,List.foldlM_cons,sU]
  exact ai.bR (a:=.int kd (if y > x then y else x)) (ai.bL _) (alW r _)
theorem alX{kd:IntKind}:∀ (l:List Int) (x:Int),ai P ((l.map (Value.int kd)).foldlM Builtin.min2 (.int kd x)) (.int kd (CE x l))
 | [],x=>ai.bL _
 | y::r,x=>by
  simp only [List.map_cons,List.foldlM_cons,CE]
  exact ai.bR (a:=.int kd (if y < x then y else x)) (ai.bL _) (alX r _)
theorem Ox.max{xs:Array Operand}{ts:Array TypeId}{kd:IntKind}{a:Int}{l:List Int}(au:o.op = .call ⟨.builtin .max,xs,ts⟩)(hx:jw st xs.toList=some (.int kd a::l.map (Value.int kd)))
  (hd:cB o.dst c.n) (hs:ay (cE o.dst (.int kd (sU a l)) st) st') (h:C R H st'):bf P B c o R H st C :=
 Ox.val (by rw [au]; rfl) hd (λ ρ bl=>by
  simp only [execOp,au]
  refine ai.bR (a:=⟨.builtin .max ts o.type (xs.map λ | .const _=>true | _=>false),xs.map ρ⟩) (ai.bL _) ?_
  simp only [invoke,builtin,Builtin.max_]
  have e:(xs.map ρ).toList = .int kd a::l.map (Value.int kd):=by simpa using Dy bl _ _ hx
  rw [e]
  exact ai.bR (alW l a) (ai.bL _)) hs h
theorem Ox.min{xs:Array Operand}{ts:Array TypeId}{kd:IntKind}{a:Int}{l:List Int}(au:o.op = .call ⟨.builtin .min,xs,ts⟩)(hx:jw st xs.toList=some (.int kd a::l.map (Value.int kd)))
  (hd:cB o.dst c.n) (hs:ay (cE o.dst (.int kd (CE a l)) st) st') (h:C R H st'):bf P B c o R H st C :=
 Ox.val (by rw [au]; rfl) hd (λ ρ bl=>by
  simp only [execOp,au]
  refine ai.bR (a:=⟨.builtin .min ts o.type (xs.map λ | .const _=>true | _=>false),xs.map ρ⟩) (ai.bL _) ?_
  simp only [invoke,builtin,Builtin.min_]
  have e:(xs.map ρ).toList = .int kd a::l.map (Value.int kd):=by simpa using Dy bl _ _ hx
  rw [e]
  exact ai.bR (alX l a) (ai.bL _)) hs h
theorem Ox.aqW{x:Operand}{t u:TypeId}{kd ks k0:IntKind}{a:Int}(au:o.op = .convert t u x)(hx:bn st x=some (.int ks a))(ht:P.underlying t=some (.int k0))(hu:P.underlying u=some (.int kd))
  (hd:cB o.dst c.n) (hs:ay (cE o.dst (.int kd (kd.wrap a)) st) st') (h:C R H st'):bf P B c o R H st C :=
 Ox.mG (s:=λ ρ=>convert t u (ρ x)) (by rw [au]; rfl) hd (λ ρ=>by simp only [execOp,au]) (λ ρ bl=>by
  rw [bl x _ hx]
  unfold convert
  refine ai.bR (ai.underlying ht) (ai.bR (ai.underlying hu) ?_)
  exact ai.bL _) hs h
theorem Ky{α:Type}{xs ys:List α}{lo hi:Int}(h:kQ xs lo hi=some ys):0≤lo∧lo≤hi∧hi≤xs.length∧ys=(xs.take hi.toNat).drop lo.toNat:=by
 unfold kQ at h
 split at h
 ·cases h; rename_i h; exact ⟨h.1,h.2.1,h.2.2,rfl⟩
 ·cases h
def M5(st:St):Option Operand→Option Int
 | none=>some 0
 | some x=>match bn st x with | some (.int _ i)=>some i | _=>none
def LH(st:St)(n:Nat):Option Operand→Option Int
 | none=>some n
 | some x=>match bn st x with | some (.int _ i)=>some i | _=>none
theorem Tv{kd:IntKind}{i:Int}{y:Nat}{cd:BoundsCode}(h:0≤i∧i≤y):ai P (Instr.sliceBound (.int kd i) y cd) i.toNat:=by
 unfold Instr.sliceBound
 refine ai.bR (a:=(kd,i)) (ai.bL _) ?_
 simp only [h,and_self,if_true]
 exact ai.bL _
theorem Tw{ρ:Operand→Value}(bl:Knows st ρ){len cap:Nat}{lo hi:Option Operand}{l h:Int}(hl:M5 st lo=some l)(hh:LH st len hi=some h)(hb:0≤l∧l≤h∧h≤len)(hc:len≤cap) :
  ai P (Instr.sliceBounds true len cap (lo.map ρ) (hi.map ρ) none) (l.toNat,h.toNat,cap):=by
 have h1:(lo=none∧l=0)∨∃ x kd,lo=some x∧ρ x = .int kd l:=by
  cases lo with
  | none=>simp only [M5,jl] at hl; exact .inl ⟨rfl,hl.symm⟩
  | some x =>
   simp only [M5] at hl
   cases hx:bn st x with
   | none=>simp [hx] at hl
   | some v =>
    cases v <;> simp [hx] at hl
    subst hl
    exact .inr ⟨x,_,rfl,bl x _ hx⟩
 have h2:(hi=none∧h=len)∨∃ x kd,hi=some x∧ρ x = .int kd h:=by
  cases hi with
  | none=>simp only [LH,jl] at hh; exact .inl ⟨rfl,hh.symm⟩
  | some x =>
   simp only [LH] at hh
   cases hx:bn st x with
   | none=>simp [hx] at hh
   | some v =>
    cases v <;> simp [hx] at hh
    subst hh
    exact .inr ⟨x,_,rfl,bl x _ hx⟩
 unfold Instr.sliceBounds
 rcases h1 with ⟨rfl,rfl⟩ | ⟨x,kx,rfl,hx⟩ <;> rcases h2 with ⟨rfl,rfl⟩ | ⟨y,ky,rfl,hy⟩ <;> simp only [Option.map_none,Option.map_some, *]
 ·exact ai.bR (a:=cap) (ai.bL _) (ai.bR (a:=(len:Int).toNat) (by rw [eD]; exact ai.bL _) (ai.bR (a:=(0:Int).toNat) (ai.bL _) (ai.bL _)))
 ·exact ai.bR (a:=cap) (ai.bL _) (ai.bR (a:=h.toNat) (Tv ⟨by omega,by omega⟩) (ai.bR (a:=(0:Int).toNat) (ai.bL _) (ai.bL _)))
 ·exact ai.bR (a:=cap) (ai.bL _) (ai.bR (a:=(len:Int).toNat) (by rw [eD]; exact ai.bL _) (ai.bR (a:=l.toNat) (Tv ⟨by omega,by omega⟩) (ai.bL _)))
 ·exact ai.bR (a:=cap) (ai.bL _) (ai.bR (a:=h.toNat) (Tv ⟨by omega,by omega⟩) (ai.bR (a:=l.toNat) (Tv ⟨by omega,by omega⟩) (ai.bL _)))
end
theorem FH:∀ (vs:List Value) (cs:Array Value) (o j:Nat),o+vs.length≤cs.size→(gx cs o vs)[j]? = if o≤j∧j < o+vs.length then vs[j - o]? else cs[j]?
 | [],cs,o,j,_=>by
  simp only [gx,List.length_nil,Nat.add_zero]
  rw [if_neg (by omega)]
 | v::r,cs,o,j,h=>by
  simp only [List.length_cons] at h
  simp only [gx]
  rw [FH r _ (o+1) j (by simp; omega)]
  by_cases h1:o+1≤j∧j < o+1+r.length
  ·rw [if_pos h1,if_pos (by simp only [List.length_cons]; omega)]
   have:j - o=(j - (o+1))+1:=by omega
   rw [this]; simp
  ·rw [if_neg h1]
   by_cases h2:o=j
   ·subst h2
    rw [if_pos (by simp only [List.length_cons]; omega)]
    rw [u6 (by omega)]
    simp
   ·rw [if_neg (by simp only [List.length_cons]; omega),nk h2]
structure u7 (P:Program) (t e k:Nat):Prop where
 sl:P.underlying t=some (.slice e)
 size:ai P (sizeOf e) k
 info:∃ i,P.info? e=some i∧i.bytes≤65536
 zero:∃ z,ai P (zeroValue e) z∧z.cells.size=k
section
variable {P:Program} {B:Base} {main:Bool} {ab:Jd P B main} {c:Ctx} {R:az} {H H':ah} {st st':St} {o:Oper}
theorem aS.weaken{α:Type}{s:Sem α}{K K':α→az→ah→Prop}(h:aS P B R H s K)(hk:∀ a R' H',K a R' H'→∃ cY eG,(∀ w,Fits B R' H' w→gu B R' H' w cY eG w)∧K' a cY eG):aS P B R H s K':=by
 intro w hw
 obtain ⟨a,w',R',H',h1,h2,h3,h4⟩:=h w hw
 obtain ⟨cY,eG,g1,g2⟩:=hk a R' H' h4
 exact ⟨a,w',cY,eG,h1,h2,h3.trans (g1 w' h3.fits),g2⟩
theorem aS.firstCells{α:Type}{K:cM α}{k:Nat}{u:Value}{ys:List α}{Q:Array Value→az→ah→Prop}(hu:qU K k R H u ys)(hQ:∀ es:List Value,bB K k R ys es→Q es.toArray R H):aS P B R H (Builtin.firstCells k ys.length u) Q:=by
 obtain ⟨A,cap,es,rfl,hE,hc⟩:=hu
 cases ys with
 | nil =>
  have e0:es=[]:=by have:=hE.len; simpa using this
  subst e0
  cases A with
  | none=>exact aS.eB (hQ [] hE)
  | some a =>
   simp only [Builtin.firstCells,List.length_nil,Nat.zero_mul,loadCells]
   exact aS.eB (hQ [] hE)
 | cons y ys =>
  obtain ⟨b,o,rfl,pF⟩:=hc (by simp)
  simp only [Builtin.firstCells,loadCells]
  rw [← hE.len]
  exact aS.loadCellsFrom es 0 #[] (by simpa using pF) (by simpa using hQ es hE)
theorem bt.arg{α:Type}{K:cM α}{k e:Nat}{G:ah→ah}(hG:lW G){v:Value}{xs:List α}{Hs:ah}(h:bt K k e R v xs Hs):qU K k R (G Hs) v xs:=by
 rcases h with ⟨A,rfl,rfl,_⟩ | ⟨b,cap,cs,es,rfl,rfl,h3,h4,h5,h6⟩
 ·exact ⟨A,0,[],rfl,.nil,λ h=>absurd rfl h⟩
 ·refine ⟨_,cap,es,rfl,h5,λ _=>⟨b,0,rfl,λ j w hj=>⟨rfl,cs,e,(0,0),.inr ?_,by simpa using h6 j w hj⟩⟩⟩
  obtain ⟨A,D,BC⟩:=hG
  rw [BC]; simp
theorem aNT{n m:Nat}(h:m < n)(hn:n≤16777216):Builtin.nextslicecap n m≤67108864:=by
 unfold Builtin.nextslicecap
 split
 ·omega
 ·split
  ·omega
  ·have:∀ (r c:Nat),c≤16777216→Builtin.growBy n r c≤67108864:=by
    intro r
    induction r with
    | zero=>intro c hc; simp only [Builtin.growBy]; omega
    | succ r ih =>
     intro c hc
     simp only [Builtin.growBy]
     split
     ·omega
     ·rename_i fw
      by_cases h2:c+(c+768) / 4≤16777216
      ·exact ih _ h2
      ·
       cases r with
       | zero=>simp only [Builtin.growBy]; omega
       | succ r=>simp only [Builtin.growBy]; rw [if_pos (by omega)]; omega
   exact this 4 m (by omega)
theorem aS.append{α:Type}{K:cM α}[CM K]{k t e xT T:Nat}{G:ah→ah}(hG:lW G){v u:Value}{xs ys:List α}{Hs:ah}{dx:TypeDesc}(ht:u7 P t e k)(hxT:P.underlying xT=some dx)(XO:∀ kd,dx ≠ .int kd)
  (hO:bt K k e R v xs Hs) (hu:qU K k R (G Hs) u ys) (hl:xs.length+ys.length≤16777216) {Q:Value→az→ah→Prop} (hk:∀ v' cK,bt K k e R v' (xs++ys) cK→Q v' R (G cK)) :
  aS P B R (G Hs) (Builtin.append_ #[t,xT] T #[v,u]) Q:=by
 obtain ⟨A2,a0T,es2,Mm⟩:=id hu
 have hv:∃ base cap,v = .slice base xs.length cap:=by
  rcases hO with ⟨A,rfl,rfl,_⟩ | ⟨b,cap,cs,es,rfl,_⟩
  ·exact ⟨A,0,rfl⟩
  ·exact ⟨_,cap,rfl⟩
 obtain ⟨base,cap,rfl⟩:=hv
 obtain ⟨i,hi,avJ⟩:=ht.info
 obtain ⟨z,hz,hzs⟩:=ht.zero
 have hlen:ai P (Builtin.lenOf u) ys.length:=by rw [Mm.1]; exact ai.bL _
 have run:aS P B R (G Hs) (do
   let Fv:=xs.length+ys.length
   if Fv≤cap then do
    let new ← Builtin.firstCells k ys.length u
    if let some a:=base then storeCells (a.add (xs.length * k)) new.toList
    Pure.pure (Value.slice base Fv cap)
   else do
    if (Fv:Int) > IntKind.i64.max∧(false=true∨(← typeInfo e).bytes=0) then runtimePanic (.error "growslice: len out of range")
    if Builtin.nextslicecap Fv cap * (← typeInfo e).bytes > 2 ^ 48 then (if false=true then runtimePanic (.error "growslice: len out of range") else do
     if !(← Builtin.mayShare k xs.length ys.length base u) then mark .noRoom
     unsupported (.resourceLimit "append: a slice or a string whose bytes no memory bears"))
    let CH ← Go.choose (Question.appendCap Fv cap e)
    askRoom (CH * (← typeInfo e).bytes)
    let old ← Builtin.firstCells k xs.length (.slice base xs.length cap)
    let new ← Builtin.firstCells k ys.length u
    let rest:=Builtin.zeroCells (← zeroValue e).cells (CH - Fv)
    Pure.pure (Value.slice (some (← newRow e (old++new++rest))) Fv CH)) Q:=by
  dsimp only
  by_cases hc:xs.length+ys.length≤cap
  ·rw [if_pos hc]
   refine aS.dK (aS.firstCells hu λ es hE=>?_)
   rcases hO with ⟨A,e1,rfl,rfl⟩ | ⟨b,a0S,cs,DO,e1,rfl,h3,h4,h5,h6⟩
   ·injection e1 with e1 e2 e3
    subst e1; subst e3
    have hy:ys=[]:=by simpa using hc
    subst hy
    have e0:es=[]:=by have:=hE.len; simpa using this
    subst e0
    have key:Q (.slice base ([]:List α).length 0) R (G []):=hk _ [] (.inl ⟨base,rfl,by simp,rfl⟩)
    cases base with
    | none=>exact aS.dK (aS.eB (aS.eB key))
    | some a=>exact aS.dK (aS.eB (aS.eB key))
   ·injection e1 with e1 _ e3
    subst e1; subst e3
    dsimp only
    rw [show (⟨b,0,none⟩:Addr).add (xs.length * k)=⟨b,0+xs.length * k,none⟩ from tE _ _ _,Nat.zero_add]
    refine aS.given λ dM=>aS.dK (aS.S8 es cs (xs.length * k) 0 (G [(b,.cells cs e (0,0))]) (G [(b,.cells (gx cs (xs.length * k) es) e (0,0))]) hE.one ?_ (by simpa using lW.set hG) dM (aS.eB ?_))
    ·rw [h3,hE.len,Nat.add_zero,← Nat.add_mul]; exact Nat.mul_le_mul_right k hc
    ·have zr:xs.length * k+es.length≤cs.size:=by rw [h3,hE.len,← Nat.add_mul]; exact Nat.mul_le_mul_right k hc
     refine hk _ _ (.inr ⟨b,cap,gx cs (xs.length * k) es,DO++es,by rw [kO],rfl,by rw [NY]; exact h3,by rw [kO]; exact hc,h5.append hE,λ j w hj=>?_⟩)
     rw [FH es cs _ _ zr]
     by_cases Ys:j < DO.length
     ·rw [rR Ys] at hj
      rw [if_neg (by rw [← h5.len]; omega)]
      exact h6 j w hj
     ·rw [oz (by omega)] at hj
      have:=(iF.1 hj).1
      rw [if_pos (by rw [← h5.len]; omega),← h5.len]
      exact hj
  ·rw [if_neg hc]
   have hnb:Builtin.nextslicecap (xs.length+ys.length) cap * i.bytes≤2 ^ 48:=by
    have h1:=aNT (n:=xs.length+ys.length) (m:=cap) (by omega) hl
    calc _≤67108864 * 65536:=Nat.mul_le_mul h1 avJ
     _≤2 ^ 48:=by decide
   have hni:¬ (((xs.length+ys.length:Nat):Int) > IntKind.i64.max∧(false=true∨i.bytes=0)):=by
    intro h
    have:IntKind.i64.max=9223372036854775807:=by decide
    omega
   refine ai.fv (ai.typeInfo hi) ?_
   rw [if_neg hni]
   refine ai.fv (ai.typeInfo hi) ?_
   rw [if_neg (by omega)]
   refine (aS.dK (aS.choose λ tape=>ai.fv (ai.typeInfo hi) (aS.dK ?_)))
   have avI:∀ (n:Nat) (Q':Unit→az→ah→Prop),Q' () R (G Hs)→aS P B R (G Hs) (askRoom n) Q':=by
    intro n Q' hq
    unfold askRoom
    split
    ·exact aS.aNJ hq
    ·exact aS.eB hq
   refine avI _ _ ?_
   simp only [Question.forced,oA,if_false,Question.cut]
   generalize zo:xs.length+ys.length+tape % (2 ^ 63 - (xs.length+ys.length))=CH
   refine aS.dK (aS.firstCells (bt.arg hG hO) λ DO hEx=>aS.dK (aS.firstCells hu λ P6 hEy=>ai.fv hz ?_))
   simp only [newRow]
   refine aS.dK (aS.dK (aS.weaken (aS.new (K:=λ r R' H'=>R'=R∧H'=(r,.cells (DO.toArray++P6.toArray++Builtin.zeroCells z.cells (CH - (xs.length+ys.length))) e (0,0))::G Hs) λ r _ _=>⟨rfl,rfl⟩) λ r R' H' hrh=>?_))
   obtain ⟨rfl,rfl⟩:=hrh
   refine ⟨R',G [(r,.cells (DO.toArray++P6.toArray++Builtin.zeroCells z.cells (CH - (xs.length+ys.length))) e (0,0))],λ w hw=>?_,aS.eB (aS.eB (hk _ _ (.inr ⟨r,CH,_,DO++P6,by rw [kO],rfl,?_,by rw [kO]; omega,hEx.append hEy,λ j w hj=>?_⟩)))⟩
   ·obtain ⟨A,D,BC⟩:=hG
    rw [BC,BC] at *
    have h1:=ac3 (H':=A++(Hs++((r,.cells (DO.toArray++P6.toArray++Builtin.zeroCells z.cells (CH - (xs.length+ys.length))) e (0,0))::D))) (by simpa using List.perm_middle (l₁:=A++Hs)) hw
    refine h1.trans (Tf ?_ h1.fits)
    exact List.Sublist.append_left (List.sublist_append_right _ _) _
   ·simp only [Array.size_append,List.size_toArray,hEx.len,hEy.len,Builtin.zeroCells,Array.size_map,Array.size_range,hzs]
    rw [← Nat.add_mul,← Nat.add_mul]
    congr 1; omega
   ·have:=(iF.1 hj).1
    rw [Array.getElem?_append_left (by simpa using this)]
    simpa using hj
 unfold Builtin.append_
 refine ai.fv (ai.underlying ht.sl) (ai.fv ht.size (ai.fv (ai.underlying hxT) (ai.fv (a:=false) (by cases dx <;> first | exact ai.bL _ | exact absurd rfl (XO _)) ?_)))
 exact ai.fv hlen run
theorem Ox.append{α:Type}{K:cM α}[CM K]{k t e xT:Nat}(G:ah→ah){x y:Operand}{v u:Value}{xs ys zs:List α}{Hs:ah}{dx:TypeDesc}{C:az→ah→St→Prop}(au:o.op = .call ⟨.builtin .append,#[x,y],#[t,xT]⟩)(hx:bn st x=some v)(hy:bn st y=some u)
  (ht:u7 P t e k) (hxT:P.underlying xT=some dx) (XO:∀ kd,dx ≠ .int kd) (hG:lW G) (hO:bt K k e R v xs Hs) (hu:qU K k R (G Hs) u ys) (hl:gk xs ys=some zs) (hd:cB o.dst c.n)
  (hC:∀ v' cK,bt K k e R v' zs cK→∃ st',ay (cE o.dst v' st) st'∧C R (G cK) st'):bf P B c o R (G Hs) st C:=by
 obtain ⟨vA,rfl⟩:=apV hl
 refine ⟨by rw [au]; rfl,hd,λ ρ bl=>?_⟩
 simp only [execOp,au]
 refine ai.fv (a:=⟨.builtin .append #[t,xT] o.type (#[x,y].map λ | .const _=>true | _=>false),#[x,y].map ρ⟩) (ai.bL _) ?_
 simp only [invoke,builtin]
 have e:(#[x,y].map ρ)=#[v,u]:=by simp [bl x _ hx,bl y _ hy]
 rw [e]
 refine aS.dK (aS.append hG ht hxT XO hO hu vA λ v' cK Qh=>aS.eB ?_)
 obtain ⟨st',hs,h⟩:=hC v' cK Qh
 exact ⟨v',.inl rfl,st',hs,h⟩
theorem At.oI{α:Type}{K:cM α}[CM K]{k e:Nat}{todo:List Item}(G:ah→ah)(hG:lW G){v:Value}{xs:List α}{Hs H2:ah}(h2:G []=H2)(hO:bt K k e R v xs Hs)(h:∀ R',aR R R'→aa K k R' v xs→At ab c R' H2 st todo):At ab c R (G Hs) st todo:=by
 subst h2
 rcases hO with ⟨A,rfl,rfl,rfl⟩ | ⟨b,cap,cs,es,rfl,rfl,h3,h4,h5,h6⟩
 ·exact h R (aR.refl R) .nil
 ·obtain ⟨A,D,BC⟩:=hG
  rw [BC] at h ⊢
  refine At.perm (H':=(b,.cells cs e (0,0))::(A++([]++D))) (by simpa using List.perm_middle.symm) (At.freeze λ R' hR hb=>h R' hR ?_)
  exact ⟨_,cap,es,rfl,h5.mono hR,h4,λ _=>⟨b,0,cs,e,(0,0),rfl,hb,λ j w hj=>by simpa using h6 j w hj⟩⟩
theorem At.ri{α:Type}{K:cM α}[CM K]{k e b n:Nat}{todo:List Item}(G:ah→ah)(hG:lW G){H2:ah}(h2:G []=H2){ys:List α}{cs:Array Value}(hE:bB K k R ys cs.toList)(hn:ys.length=n)(h:∀ R',aR R R'→aa K k R' (.slice (some ⟨b,0,none⟩) n n) ys→At ab c R' H2 st todo):At ab c R (G [(b,.cells cs e (0,0))]) st todo:=by
 subst hn h2
 obtain ⟨A,D,BC⟩:=hG
 rw [BC] at h ⊢
 refine At.perm (H':=(b,.cells cs e (0,0))::(A++([]++D))) (by simpa using List.perm_middle.symm) (At.freeze λ R' hR hb=>h R' hR ?_)
 exact ⟨_,ys.length,cs.toList,rfl,hE.mono hR,dD _,λ _=>⟨b,0,cs,e,(0,0),rfl,hb,λ j w hj=>by simpa using hj⟩⟩
theorem bt.lit{α:Type}{K:cM α}{k e b n:Nat}{ys:List α}{cs:Array Value}(hE:bB K k R ys cs.toList)(hn:ys.length=n):bt K k e R (.slice (some ⟨b,0,none⟩) n n) ys [(b,.cells cs e (0,0))]:=by
 subst hn
 exact .inr ⟨b,_,cs,cs.toList,rfl,rfl,by simpa using hE.len,dD _,hE,λ j w hj=>by simpa using hj⟩
end
theorem ay.one{dst:Option Tmp}{d:Tmp}{v:Value}{st:St}(h:dst=some d):ay (cE dst v st) [(d,v)]:=by
 subst h
 intro t u hu
 simp only [List.lookup_cons,List.lookup_nil] at hu
 simp only [cE,List.lookup_cons]
 split at hu
 ·exact hu
 ·cases hu
theorem fF.skip{Ks H H':ah}{b:Nat}{o o':Obj}(h:fF H b o o' H'):fF (Ks++H) b o o' (Ks++H'):=by
 induction Ks with
 | nil=>exact h
 | cons p Ks ih=>exact .there ih
theorem aU.box{R:az}{H:ah}{b:Nat}{e:TypeId}{fz:Nat × Nat}{L:List Value}(hm:(b,Obj.cells L.toArray e fz)∈H):aU R H b 0 L:=λ j v hj=>⟨rfl,_,e,fz,.inr hm,by simpa using hj⟩
theorem lW.id{D:ah}:lW (λ X=>X++D):=⟨[],D,λ _=>rfl⟩
theorem lW.cons{p:Nat × Obj}{G:ah→ah}(h:lW G):lW (λ X=>p::G X):=by
 obtain ⟨A,D,h⟩:=h
 exact ⟨p::A,D,λ X=>by show p::G X=_; rw [h]; rfl⟩
theorem lW.app{L:ah}{G:ah→ah}(h:lW G):lW (λ X=>L++G X):=by
 obtain ⟨A,D,h⟩:=h
 exact ⟨L++A,D,λ X=>by show L++G X=_; rw [h,List.append_assoc]⟩
theorem mP{place:Nat→Option (Nat × Nat)}{cells:Array Value}:Instr.fill place cells []=some cells:=rfl
theorem aO5(vc:List Value):∀ (cells:Array Value) (off j:Nat),(vc.zipIdx j).foldl (λ cs (c,i)=>cs.setIfInBounds (off+i) c) cells=gx cells (off+j) vc:=by
 induction vc with
 | nil=>intro cells off j; rfl
 | cons v r ih=>intro cells off j; simp only [List.zipIdx_cons,List.foldl_cons,gx]; rw [ih]; rfl
theorem aO6(vc cells:Array Value)(off:Nat):vc.zipIdx.foldl (λ cs (c,i)=>cs.setIfInBounds (off+i) c) cells=gx cells off vc.toList:=by
 have h:=aO5 vc.toList cells off 0
 rw [Nat.add_zero] at h
 rw [← h,← Array.foldl_toList]
 simp
theorem mO{place:Nat→Option (Nat × Nat)}{cells cells' out vc:Array Value}{i off size:Nat}{v:Value}{rest:List (Nat × Value)}(hp:place i=some (off,size))(hc:v.cells=vc)
  (hs:(vc.size == size && Nat.ble (off+vc.size) cells.size)=true) (nE:gx cells off vc.toList=cells') (h:Instr.fill place cells' rest=some out):Instr.fill place cells ((i,v)::rest)=some out:=by
 subst hc
 rw [jm] at hs
 have h1:v.cells.size=size:=by simpa using hs.1
 have h2:off+v.cells.size≤cells.size:=by simpa [Nat.ble_eq] using hs.2
 simp only [Instr.fill,hp]
 rw [if_neg (by simp [h1]; omega),aO6,nE]
 exact h
theorem cH:∀ u∈([]:List Value),u.oneCell'=true:=λ _ h=>by cases h
theorem b8{v:Value}{l:List Value}(h:v.oneCell'=true)(t:∀ u∈l,u.oneCell'=true):∀ u∈v::l,u.oneCell'=true:=λ u hu=>by
 rcases fR.1 hu with rfl | hu
 ·exact h
 ·exact t u hu
theorem fC{l m:List Value}(h:∀ u∈l,u.oneCell'=true)(t:∀ u∈m,u.oneCell'=true):∀ u∈l++m,u.oneCell'=true:=λ u hu=>(List.mem_append.1 hu).elim (h u) (t u)
theorem ma{α:Type}{f:α→Value}{xs:List α}(h:∀ x,(f x).oneCell'=true):∀ u∈xs.map f,u.oneCell'=true:=λ u hu=>by
 obtain ⟨x,_,rfl⟩:=List.mem_map.1 hu
 exact h x
theorem aU.part{R:az}{H:ah}{b o j n:Nat}{L vs:List Value}(h:aU R H b o L)(hv:(L.drop j).take n=vs):aU R H b (o+j) vs:=by
 intro i v hi
 subst hv
 rw [List.getElem?_take] at hi
 split at hi
 ·rw [List.getElem?_drop] at hi
  have:=h _ _ hi
  simpa [Nat.add_assoc] using this
 ·cases hi
theorem aU.arr{α:Type}{R:az}{H:ah}{b o k:Nat}{f:α→Value}{pre post:List Value}{xs:List α}{i:Int}{x:α}(h:aU R H b o (pre++(xs.map f++post)))(hi:idx xs i=some x)(hk:pre.length=k):Cell R H ⟨b,o+k+i.toNat * 1,none⟩ (f x):=by
 obtain ⟨_,_,h3⟩:=vS hi
 have bS:=(iF.1 h3).1
 have:=h (k+i.toNat) (f x) (by
  rw [oz (by omega),← hk,Nat.add_sub_cancel_left,rR (by simpa using bS)]
  simp [h3])
 simpa [Nat.add_assoc] using this
theorem aU.sub{R:az}{H H':ah}{b o:Nat}{L:List Value}(h:aU R H b o L)(hs:∀ p∈H,p∈H'):aU R H' b o L:=λ j v hj=>by
 obtain ⟨h1,cs,e,fz,h2,h3⟩:=h j v hj
 exact ⟨h1,cs,e,fz,h2.imp id (hs _),h3⟩
theorem aU.le{R R':az}{H:ah}{b o:Nat}{L:List Value}(h:aU R H b o L)(hs:aR R R'):aU R' H b o L:=λ j v hj=>by
 obtain ⟨h1,cs,e,fz,h2,h3⟩:=h j v hj
 exact ⟨h1,cs,e,fz,h2.imp (hs _ _) id,h3⟩
theorem Vh{α:Type}{f:α→Value}{pre post:List Value}{xs:List α}{i:Int}{x y:α}{k:Nat}(hi:idx xs i=some y)(hk:pre.length=k):((pre++(xs.map f++post)).toArray).setIfInBounds (k+i.toNat * 1) (f x)=(pre++((xs.set i.toNat x).map f++post)).toArray:=by
 obtain ⟨_,_,h3⟩:=vS hi
 have bS:=(iF.1 h3).1
 subst hk
 simp only [Nat.mul_one,List.setIfInBounds_toArray,List.map_set]
 congr 1
 rw [List.set_append_right _ _ (by omega),Nat.add_sub_cancel_left,List.set_append_left _ _ (by simpa using bS)]
theorem Vf{α:Type}{f:α→Value}{pre post:List Value}{xs:List α}{i:Int}{y:α}{k:Nat}(hi:idx xs i=some y)(hk:pre.length=k):Nat.blt (k+i.toNat * 1) ((pre++(xs.map f++post)).toArray).size=true:=by
 obtain ⟨_,_,h3⟩:=vS hi
 have bS:=(iF.1 h3).1
 rw [Nat.blt_eq]
 simp
 omega
theorem fE{L:List Value}{n:Nat}(h:L.length=n):(L.drop 0).take n=L:=by subst h; simp
theorem aQF{pre mid post:List Value}{k n:Nat}(hk:pre.length=k)(hn:mid.length=n):((pre++(mid++post)).drop k).take n=mid:=by subst hk; subst hn; simp
theorem pL{P:Program}{α:Type}{t e len k b m:Nat}{i:Int}{xs:List α}{x:α}(ht:xd P t len e k)(hl:xs.length=len)(hi:idx xs i=some x):y7 P t (.pointer (some ⟨b,m,none⟩)) i b (m+i.toNat * k):=by
 obtain ⟨h1,h2,_⟩:=vS hi
 exact aiO ht ⟨h1,by omega⟩
theorem aa.one{α:Type}{C:cM α}{k:Nat}{R:az}{v:Value}{xs:List α}(h:aa C k R v xs):v.oneCell'=true:=by
 obtain ⟨A,cap,es,rfl,_⟩:=h; rfl
theorem aa.cells{α:Type}{C:cM α}{k:Nat}{R:az}{v:Value}{xs:List α}(h:aa C k R v xs):v.cells=#[v]:=by
 obtain ⟨A,cap,es,rfl,_⟩:=h; rfl
theorem bt.cells{α:Type}{C:cM α}{k e:Nat}{R:az}{v:Value}{xs:List α}{Hs:ah}(h:bt C k e R v xs Hs):v.cells=#[v]:=by
 rcases h with ⟨A,rfl,_⟩ | ⟨b,cap,cs,es,rfl,_⟩ <;> rfl
theorem bt.one{α:Type}{C:cM α}{k e:Nat}{R:az}{v:Value}{xs:List α}{Hs:ah}(h:bt C k e R v xs Hs):v.oneCell'=true:=by
 rcases h with ⟨A,rfl,_⟩ | ⟨b,cap,cs,es,rfl,_⟩ <;> rfl
theorem bB.cons{α:Type}{C:cM α}{k:Nat}{R:az}{x:α}{xs:List α}{e1 es:List Value}(h:C R x e1)(hk:e1.length=k)(g:bB C k R xs es):bB C k R (x::xs) (e1++es):=(bB.single h hk).append g
theorem bB.le{α:Type}{C:cM α}{k:Nat}{R:az}{xs:List α}{es fs:List Value}(h:bB C k R xs es)(e:es=fs):bB C k R xs fs:=by subst e; exact h
section
variable {P:Program} {B:Base} {main:Bool} {ab:Jd P B main} {c:Ctx} {R:az} {H H':ah} {st st':St} {o:Oper} {k:List Item}
inductive qb (P:Program) (R:az) (H:ah) (st:St):List ResultVar→List Value→Prop
 | nil:qb P R H st [] []
 | tmp {t:Tmp} {v:Value} {r:List ResultVar} {vs:List Value}:st.lookup t=some v→qb P R H st r vs→qb P R H st (.tmp t::r) (v::vs)
 | one {a:Tmp} {t:TypeId} {b o:Nat} {v:Value} {r:List ResultVar} {vs:List Value}:st.lookup a=some (.pointer (some ⟨b,o,none⟩))→gG P t→Cell R H ⟨b,o,none⟩ v→qb P R H st r vs→qb P R H st (.cell a t::r) (v::vs)
 | agg {a:Tmp} {t:TypeId} {b o n:Nat} {us:List Value} {r:List ResultVar} {vs:List Value}:st.lookup a=some (.pointer (some ⟨b,o,none⟩))→np P t n→us.length=n→aU R H b o us→qb P R H st r vs→qb P R H st (.cell a t::r) (.agg us.toArray::vs)
theorem aPX{tmps:Array Value}{n:Nat}(ht:de n st tmps):∀ {l:List ResultVar} {vs:List Value},qb P R H st l vs→∀ {K:List Value→az→ah→Prop},K vs R H →
  aS P B R H (l.mapM (m:=Sem) λ
   | .tmp t=>pure (tmps.getD t undef)
   | .cell a t=>do loadVar t (← asAddr (tmps.getD a undef))) K:=by
 intro l vs h
 induction h with
 | nil=>intro K hk; exact aS.eB hk
 | @tmp t v r vs hl _ ih =>
  intro K hk
  rw [List.mapM_cons]
  have:tmps.getD t undef=v:=by simp [Array.getD_eq_getD_getElem?,ht.2 t v hl]
  refine ai.fv (a:=v) (by show ai P (pure (tmps.getD t undef)) v; rw [this]; exact ai.bL _) (aS.dK (ih (K:=λ us R' H'=>K (v::us) R' H') hk |>.mono λ us R' H' h=>aS.eB h))
 | @one a t b o v r vs hl Rn hc _ ih =>
  intro K hk
  rw [List.mapM_cons]
  have:tmps.getD a undef = .pointer (some ⟨b,o,none⟩):=by simp [Array.getD_eq_getD_getElem?,ht.2 a _ hl]
  simp only [this]
  refine aS.dK (ai.fv (a:=⟨b,o,none⟩) (ai.bL _) ?_)
  unfold loadVar
  refine ai.fv Rn.1 (aS.load hc (aS.dK (ih (K:=λ us R' H'=>K (v::us) R' H') hk |>.mono λ us R' H' h=>aS.eB h)))
 | @agg a t b o n us r vs hl Rn hn hc _ ih =>
  intro K hk
  rw [List.mapM_cons]
  have:tmps.getD a undef = .pointer (some ⟨b,o,none⟩):=by simp [Array.getD_eq_getD_getElem?,ht.2 a _ hl]
  simp only [this]
  refine aS.dK (ai.fv (a:=⟨b,o,none⟩) (ai.bL _) ?_)
  unfold loadVar
  refine ai.fv Rn.1 ?_
  simp only [if_true]
  subst hn
  refine ai.fv Rn.2 (aS.dK (aS.loadCellsFrom us 0 #[] (by simpa using hc) (aS.eB ?_)))
  simp only [List.append_toArray,List.nil_append]
  exact aS.dK (ih (K:=λ vs R' H'=>K (.agg us.toArray::vs) R' H') hk |>.mono λ us R' H' h=>aS.eB h)
theorem S1{fn:Func}{tmps:Array Value}{n:Nat}{vs:List Value}(ht:de n st tmps)(h:qb P R H st fn.results.toList vs):aS P B R H (results fn tmps) λ v R' H'=>v=iO vs∧R'=R∧H'=H:=by
 unfold results
 rw [← Array.toArray_toList (xs:=fn.results),List.mapM_toArray]
 refine aS.dK (aS.map (aPX ht h ?_))
 cases vs with
 | nil=>exact aS.eB ⟨rfl,rfl,rfl⟩
 | cons v r=>cases r with
  | nil=>exact aS.eB ⟨rfl,rfl,rfl⟩
  | cons _ _=>exact aS.eB ⟨rfl,rfl,rfl⟩
theorem At.FJ{fr:Frame}{cs:List Frame}{f:FuncId}{n:Nat}{fn:Func}{vs:List Value}(hf:P.funcs[f]? = some fn)(hr:qb P R H st fn.results.toList vs)(hj:ab.J R H (bc (fr.finish (iO vs)) cs)) :
  At ab ⟨f,.normal,none,n,[],fr::cs⟩ R H st (.code .ret::k):=λ tmps ht=>by
 refine Jd.ctl (g':=bc { (ba ⟨f,.normal,none,n,[],fr::cs⟩ tmps (.code .ret::k)) with mode:=.returning } (fr::cs)) rfl (λ w=>by simp [stepG,stepG.exec,bc,ba])
  (ab.step rfl λ w hw=>?_)
 obtain ⟨v,w',R',H',h1,h2,h3,rfl,rfl,rfl⟩:=S1 (P:=P) ht hr w hw
 refine ⟨bc (fr.finish (iO vs)) cs,w',seen P f ((results fn tmps).events P w #[]),R',H',?_,λ e he=>h2 e (mem_seen he),h3,hj⟩
 simp [stepG,unwind,doReturn,bc,ba,hf,h1,GStep.after]
theorem At.zf{fr:Frame}{cs:List Frame}{f:FuncId}{n:Nat}{fn:Func}{vs:List Value}(hf:P.funcs[f]? = some fn)(hr:qb P R H st fn.results.toList vs)(hj:ab.J R H (bc (fr.finish (iO vs)) cs)) :
  At ab ⟨f,.normal,none,n,[],fr::cs⟩ R H st []:=λ tmps ht=>by
 refine Jd.ctl (g':=bc { (ba ⟨f,.normal,none,n,[],fr::cs⟩ tmps []) with mode:=.returning } (fr::cs)) rfl (λ w=>by simp [stepG,stepG.exec,bc,ba])
  (ab.step rfl λ w hw=>?_)
 obtain ⟨v,w',R',H',h1,h2,h3,rfl,rfl,rfl⟩:=S1 (P:=P) ht hr w hw
 refine ⟨bc (fr.finish (iO vs)) cs,w',seen P f ((results fn tmps).events P w #[]),R',H',?_,λ e he=>h2 e (mem_seen he),h3,hj⟩
 simp [stepG,unwind,doReturn,bc,ba,hf,h1,GStep.after]
end
section
variable {P:Program} {B:Base} {main:Bool}
abbrev oE(α:Type):=az→α→Value→Prop
def p6(ab:Jd P B main)(R:az)(H:ah){α β:Type}(A:oE α)(D:oE β)(v:Value)(f:α→Option β):Prop :=
 ∃ iy first captured,v = .func (.func iy) first captured∧bj P iy∧∀ R' H',aR R R'→(∀ p∈H,p∈H')→∀ x r va,A R' x va→f x=some r→bd ab iy (first++#[va]++captured) R' H' λ v cY eG=>aR R' cY∧eG=H'∧D cY r v
def VI(kd:IntKind):oE Int:=λ _ x v=>v = .int kd x
def VB:oE Bool:=λ _ x v=>v = .bool x
def j7{α:Type}(C:cM α):oE α:=λ R x v=>∃ es,v = .agg (List.toArray es)∧C R x es
theorem p6.up{ab:Jd P B main}{R R':az}{H H':ah}{α β:Type}{A:oE α}{D:oE β}{v:Value}{f:α→Option β}(h:p6 ab R H A D v f)(hR:aR R R')(hH:∀ p∈H,p∈H'):p6 ab R' H' A D v f:=by
 obtain ⟨iy,first,captured,h1,h2,h3⟩:=h
 exact ⟨iy,first,captured,h1,h2,λ cY eG K0 hH'=>h3 cY eG (hR.trans K0) (λ p hp=>hH' p (hH p hp))⟩
end
theorem pR{h l1 l2:ah}(p:List.Sublist l1 l2):List.Sublist (h++l1) (h++l2):=List.Sublist.append (List.Sublist.refl _) p
theorem bq{h l1 l2:ah}(p:List.Sublist l1 l2):List.Sublist l1 (h++l2):=by
 induction h with
 | nil=>exact p
 | cons a h ih=>exact ih.cons a
def oB{α:Type}(f:α→Value)(n:Nat):cM (List α):=λ _ xs es=>xs.length=n∧es=[]++(xs.map f++[])
theorem lR{vs:List Value}{cs:Array Value}(h:vs.length=cs.size):gx cs 0 vs=vs.toArray:=by
 have hs:(gx cs 0 vs).size=cs.size:=NY _ _ _
 apply Array.ext_getElem?
 intro j
 rw [FH vs cs 0 j (by omega)]
 by_cases hj:j < vs.length
 ·rw [if_pos (by omega)]; simp
 ·rw [if_neg (by omega)]
  rw [Array.getElem?_eq_none (by omega)]
  simp [Nat.not_lt.1 hj]
section
variable {P:Program} {B:Base} {main:Bool} {ab:Jd P B main} {c:Ctx} {R:az} {H:ah} {st:St} {k:List Item} {o:Oper} {C:az→ah→St→Prop}
theorem At.aK1{S Q ρ:Type}{body:S→Option (S ⊕ Q)}{s0:S}{code:Code}{g:Q→Option ρ}{r:ρ}(hM:(Go.Lg.bD body s0).bind g=some r)(I:S→az→ah→St→Prop)(h0:I s0 R H st)(hb:∀ s R H st,I s R H st→∀ x,body s=some x→(∀ s',x=Sum.inl s'→∀ R' H' st',I s' R' H' st'→At ab c R' H' st' (.inLoop code::k))→(∀ p,x=(Sum.inr p)→g p=some r)→At ab c R H st (.code code :: .inLoop code::k)):At ab c R H st (.code (.loop code)::k):=At.bD hM I (λ s R H st hI x hx again out=>hb s R H st hI x hx again (λ _ hp=>out _ hp)) h0
theorem At.fJ{S P0 ρ:Type}{body:S→Option (S ⊕ P0)}{s0:S}{code:Code}{f0:P0→Option ρ}{r:ρ}{k0:List Item}(hM:(Go.Lg.bD body s0).bind f0=some r)(I:S→az→ah→St→Prop)(E0:P0→az→ah→St→Prop)(id0:Nat)(_:exitTo id0 k=some k0)(h0:I s0 R H st)(tU:∀ p R H st,E0 p R H st→f0 p=some r→At ab c R H st k0)(hb:∀ s R H st,I s R H st→∀ x,body s=some x→(∀ s',x=Sum.inl s'→∀ R' H' st',I s' R' H' st'→At ab c R' H' st' (.inLoop code::k))→(∀ p,x=(Sum.inr p)→∀ R' H' st',E0 p R' H' st'→At ab c R' H' st' k0)→At ab c R H st (.code code :: .inLoop code::k)):At ab c R H st (.code (.loop code)::k):=At.bD hM I (λ s R H st hI x hx again out=>hb s R H st hI x hx again (λ p hp R' H' st' hE=>tU p R' H' st' hE (out _ hp))) h0
theorem At.fL{S P0 Q ρ:Type}{body:S→Option (S ⊕ (P0 ⊕ Q))}{s0:S}{code:Code}{f0:P0→Option ρ}{g:Q→Option ρ}{r:ρ}{k0:List Item}(hM:(Go.Lg.bD body s0).bind (Sum.elim f0 g)=some r)(I:S→az→ah→St→Prop)(E0:P0→az→ah→St→Prop)(id0:Nat)(_:exitTo id0 k=some k0)(h0:I s0 R H st)(tU:∀ p R H st,E0 p R H st→f0 p=some r→At ab c R H st k0)(hb:∀ s R H st,I s R H st→∀ x,body s=some x→(∀ s',x=Sum.inl s'→∀ R' H' st',I s' R' H' st'→At ab c R' H' st' (.inLoop code::k))→(∀ p,x=(Sum.inr (Sum.inl p))→∀ R' H' st',E0 p R' H' st'→At ab c R' H' st' k0)→(∀ p,x=(Sum.inr (Sum.inr p))→g p=some r)→At ab c R H st (.code code :: .inLoop code::k)):At ab c R H st (.code (.loop code)::k):=At.bD hM I (λ s R H st hI x hx again out=>hb s R H st hI x hx again (λ p hp R' H' st' hE=>tU p R' H' st' hE (out _ hp)) (λ _ hp=>out _ hp)) h0
theorem At.gn{P0 ρ:Type}{A:Option P0}{it:Item}{f0:P0→Option ρ}{r:ρ}(hM:A.bind f0=some r)(E0:P0→az→ah→St→Prop)(tU:∀ p R H st,E0 p R H st→f0 p=some r→At ab c R H st k)(hb:∀ x,A=some x→(∀ p,x=p→∀ R' H' st',E0 p R' H' st'→At ab c R' H' st' k)→At ab c R H st (it::k)):At ab c R H st (it::k):=by
 obtain ⟨x,h1,h2⟩:=ag hM
 exact hb x h1 (λ p hp R' H' st' hE=>tU p R' H' st' hE (by subst hp; exact h2))
theorem At.aJQ{P0 Q ρ:Type}{A:Option (P0 ⊕ Q)}{it:Item}{f0:P0→Option ρ}{g:Q→Option ρ}{r:ρ}(hM:A.bind (Sum.elim f0 g)=some r)(E0:P0→az→ah→St→Prop)(tU:∀ p R H st,E0 p R H st→f0 p=some r→At ab c R H st k)(hb:∀ x,A=some x→(∀ p,x=(Sum.inl p)→∀ R' H' st',E0 p R' H' st'→At ab c R' H' st' k)→(∀ p,x=(Sum.inr p)→g p=some r)→At ab c R H st (it::k)):At ab c R H st (it::k):=by
 obtain ⟨x,h1,h2⟩:=ag hM
 exact hb x h1 (λ p hp R' H' st' hE=>tU p R' H' st' hE (by subst hp; exact h2)) (λ p hp=>by subst hp; exact h2)
theorem Ox.vl{α β:Type}{A:oE α}{D:oE β}{f:α→Option β}{x y:Operand}{ts:Array TypeId}{v va:Value}{a:α}{r:β}{H0:ah}(h:p6 ab R H0 A D v f)
  (au:o.op = .call ⟨.value x,#[y],ts⟩) (hx:bn st x=some v) (hy:bn st y=some va) (hA:A R a va) (hf:f a=some r) (hd:cB o.dst c.n) (hH:∀ p∈H0,p∈H)
  (hC:∀ w R',aR R R'→D R' r w→∃ st',ay (cE o.dst w st) st'∧C R' H st'):qa ab c o R H st C:=by
 obtain ⟨iy,first,captured,rfl,he,hk⟩:=h
 refine Ox.dV (vs:=[va]) au rfl hx (by simp [jw,hy]) he rfl hd ((hk R H (aR.refl _) hH a r va hA hf).mono λ w R' H' h=>?_)
 obtain ⟨h1,rfl,h3⟩:=h
 exact hC w R' h1 h3
end
def da{α:Type}(C:cM α)(k:Nat)(R:az)(H:ah)(v:Value)(xs:List α):Prop :=
 ∃ A cap es,v = .slice A xs.length cap∧bB C k R xs es∧xs.length≤cap∧(xs≠[]→∃ b o,A=some ⟨b,o,none⟩∧aU R H b o es)
theorem da.le{α:Type}{C:cM α}[CM C]{k:Nat}{R R':az}{H:ah}{v:Value}{xs:List α}(h:da C k R H v xs)(hR:aR R R'):da C k R' H v xs:=by
 obtain ⟨A,cap,es,h1,h2,h3,h4⟩:=h
 refine ⟨A,cap,es,h1,h2.mono hR,h3,λ hx=>?_⟩
 obtain ⟨b,o,g1,g2⟩:=h4 hx
 exact ⟨b,o,g1,g2.le hR⟩
theorem da.sub{α:Type}{C:cM α}{k:Nat}{R:az}{H H':ah}{v:Value}{xs:List α}(h:da C k R H v xs)(hs:∀ p∈H,p∈H'):da C k R H' v xs:=by
 obtain ⟨A,cap,es,h1,h2,h3,h4⟩:=h
 refine ⟨A,cap,es,h1,h2,h3,λ hx=>?_⟩
 obtain ⟨b,o,g1,g2⟩:=h4 hx
 exact ⟨b,o,g1,g2.sub hs⟩
theorem aa.rd{α:Type}{C:cM α}{k:Nat}{R:az}{H:ah}{v:Value}{xs:List α}(h:aa C k R v xs):da C k R H v xs:=by
 obtain ⟨A,cap,es,h1,h2,hc,h3⟩:=h
 refine ⟨A,cap,es,h1,h2,hc,λ hx=>?_⟩
 obtain ⟨b,o,arr,e,fz,g1,g2,g3⟩:=h3 hx
 exact ⟨b,o,g1,λ j w hj=>⟨rfl,arr,e,fz,.inl g2,g3 j w hj⟩⟩
theorem bt.rd{α:Type}{C:cM α}{k e:Nat}{R:az}{H:ah}{v:Value}{xs:List α}{Hs:ah}(h:bt C k e R v xs Hs)(hs:∀ p∈Hs,p∈H):da C k R H v xs:=by
 rcases h with ⟨A,rfl,rfl,rfl⟩ | ⟨b,cap,cs,es,rfl,rfl,h3,h4,h5,h6⟩
 ·exact ⟨A,0,[],rfl,.nil,dD _,λ h=>absurd rfl h⟩
 ·exact ⟨_,cap,es,rfl,h5,h4,λ _=>⟨b,0,rfl,λ j w hj=>⟨rfl,cs,e,(0,0),.inr (hs _ (by simp)),by simpa using h6 j w hj⟩⟩⟩
theorem da.lit{α:Type}{C:cM α}{k e n b:Nat}{R:az}{H:ah}{ys:List α}{cs:Array Value}{fz:Nat × Nat}(hm:(b,Obj.cells cs e fz)∈H)(hE:bB C k R ys cs.toList)(hn:ys.length=n):da C k R H (.slice (some ⟨b,0,none⟩) n n) ys:=by
 subst hn
 exact ⟨_,ys.length,cs.toList,rfl,hE,dD _,λ _=>⟨b,0,rfl,λ j w hj=>⟨rfl,cs,e,fz,.inr hm,by simpa using hj⟩⟩⟩
theorem da.arg{α:Type}{C:cM α}{k:Nat}{R:az}{H:ah}{v:Value}{xs:List α}(h:da C k R H v xs):qU C k R H v xs:=by
 obtain ⟨A,cap,es,h1,h2,_,h3⟩:=h
 exact ⟨A,cap,es,h1,h2,h3⟩
theorem da.elem{P:Program}{α:Type}{K:cM α}{k t e:Nat}{R:az}{H:ah}{v:Value}{xs:List α}{i:Int}{x:α}(h:da K k R H v xs)(ht:nW P t e k)(hi:idx xs i=some x) :
  ∃ b n es,K R x es∧aU R H b n es∧y7 P t v i b n:=by
 obtain ⟨h1,h2,h3⟩:=vS hi
 obtain ⟨A,cap,es,rfl,hE,_,hc⟩:=h
 obtain ⟨b,o,rfl,g2⟩:=hc (by rintro rfl; simp at h3)
 obtain ⟨e1,f1,f2,f3⟩:=hE.at_ _ _ h3
 refine ⟨b,o+i.toNat * k,e1,f1,λ j w hj=>?_,λ kd=>?_⟩
 ·have:=g2 _ _ (f3 j w hj)
  simpa [Nat.add_assoc] using this
 ·have:=ac8 (P:=P) (b:=b) (m:=o) (cap:=cap) (kd:=kd) ht (j:=i.toNat) (len:=xs.length) (by omega)
  rwa [Int.toNat_of_nonneg h1] at this
theorem rN(a b:Nat × Obj)(l:ah):List.Perm (a::b::l) (b::a::l):=List.Perm.swap _ _ _
section
variable {P:Program} {B:Base} {main:Bool} {ab:Jd P B main} {c:Ctx} {R:az} {H H':ah} {st st':St} {o:Oper} {C:az→ah→St→Prop} {k:List Item}
theorem Ox.abw{α:Type}{K:cM α}{k:Nat}{x:Operand}{t e:TypeId}{v:Value}{xs:List α}{H0:ah}(au:o.op = .call ⟨.builtin .len,#[x],#[t]⟩)(hx:bn st x=some v)(hl:da K k R H0 v xs)(ht:P.underlying t=some (.slice e))
  (hd:cB o.dst c.n) (hs:ay (cE o.dst (.int .i64 (xs.length:Int)) st) st') (h:C R H st'):bf P B c o R H st C:=by
 obtain ⟨A,cap,es,rfl,_⟩:=hl
 exact Ox.len au hx ht hd hs h
theorem At.cut{it:Item}(E:az→ah→St→Prop)(h1:∀ R' H' st',E R' H' st'→At ab c R' H' st' k)(h2:(∀ R' H' st',E R' H' st'→At ab c R' H' st' k)→At ab c R H st (it::k)):At ab c R H st (it::k):=h2 h1
theorem Any.aQO{S:Nat→ah}{ops:Array Oper}{n:Nat}{rem ra rb:List Nat}{i j:Nat}{a b:Oper}(ha:ops[i]? = some a)(hb:ops[j]? = some b)(lI:rem.filter (nO ops rem)=[i,j])(Mo:cX ops st a=some true)(Mq:cX ops st b=some true)(dM:rem.Nodup)(En:rem.erase i=ra)(YV:rem.erase j=rb)
  (h1:qa ab c a R H st λ R' H' st'=>aR R R'∧(∀ p∈S i,p∈H→p∈H')∧Any ab c S ops k n ra R' H' st')
  (h2:qa ab c b R H st λ R' H' st'=>aR R R'∧(∀ p∈S j,p∈H→p∈H')∧Any ab c S ops k n rb R' H' st'):Any ab c S ops k (n+1) rem R H st:=by
 subst En YV
 refine ⟨dM,λ tmps ht=>.inr ⟨(λ e=>by rw [e] at lI; cases lI),λ _ x hx hxr=>?_⟩⟩
 have:x∈rem.filter (nO ops rem):=List.mem_filter.2 ⟨hx,hxr⟩
 rw [lI] at this
 simp only [fR,List.not_mem_nil,or_false] at this
 rcases this with rfl | rfl
 ·exact h1.II ha (ln ht Mo) ht
 ·exact h2.II hb (ln ht Mq) ht
theorem Any.Tb{S:Nat→ah}{ops:Array Oper}{n:Nat}{rem ra rb rc:List Nat}{i j l:Nat}{a b d:Oper}(ha:ops[i]? = some a)(hb:ops[j]? = some b)(hd:ops[l]? = some d)(lI:rem.filter (nO ops rem)=[i,j,l])(Mo:cX ops st a=some true)(Mq:cX ops st b=some true)(hwd:cX ops st d=some true)(dM:rem.Nodup)(En:rem.erase i=ra)(YV:rem.erase j=rb)(hrc:rem.erase l=rc)
  (h1:qa ab c a R H st λ R' H' st'=>aR R R'∧(∀ p∈S i,p∈H→p∈H')∧Any ab c S ops k n ra R' H' st')
  (h2:qa ab c b R H st λ R' H' st'=>aR R R'∧(∀ p∈S j,p∈H→p∈H')∧Any ab c S ops k n rb R' H' st')
  (h3:qa ab c d R H st λ R' H' st'=>aR R R'∧(∀ p∈S l,p∈H→p∈H')∧Any ab c S ops k n rc R' H' st'):Any ab c S ops k (n+1) rem R H st:=by
 subst En YV hrc
 refine ⟨dM,λ tmps ht=>.inr ⟨(λ e=>by rw [e] at lI; cases lI),λ _ x hx hxr=>?_⟩⟩
 have:x∈rem.filter (nO ops rem):=List.mem_filter.2 ⟨hx,hxr⟩
 rw [lI] at this
 simp only [fR,List.not_mem_nil,or_false] at this
 rcases this with rfl | rfl | rfl
 ·exact h1.II ha (ln ht Mo) ht
 ·exact h2.II hb (ln ht Mq) ht
 ·exact h3.II hd (ln ht hwd) ht
end
section
variable {P:Program} {d:Nat} {xs ys:Array Value}
inductive JN (P:Program) (d:Nat) (xs ys:Array Value):List Field→Bool→Prop
 | nil:JN P d xs ys [] true
 | cons {f:Field} {rest:List Field} {a b:Value} {r r':Bool}:(f.name == "_")=false→ai P (part f.type xs f.offset) a→ai P (part f.type ys f.offset) b→ai P (Op.equalIn d f.type a b) r→JN P d xs ys rest r'→JN P d xs ys (f::rest) (r && r')
def s5(r:Bool):Option Bool × Unit:=(if r then none else some false,())
theorem aQ0{fs:List Field}{r:Bool}(h:JN P d xs ys fs r) :
  ai P (forIn fs ((none:Option Bool),()) λ f (_:Option Bool × Unit) =>
      if f.name ≠ "_" then do
       let a ← part f.type xs f.offset
       let b ← part f.type ys f.offset
       let q ← Op.equalIn d f.type a b
       if (!q)=true then pure (ForInStep.done (some false,())) else pure (ForInStep.yield (none,()))
      else pure (ForInStep.yield (none,()))) (s5 r):=by
 induction h with
 | nil=>rw [List.forIn_nil]; exact ai.bL _
 | @cons f rest a b r r' hn ha hb hq _ ih =>
  have zu:f.name ≠ "_":=by simpa using hn
  rw [List.forIn_cons]
  simp only [zu,ne_eq,not_false_iff,if_true,bind_assoc]
  refine ai.bR ha (ai.bR hb (ai.bR hq ?_))
  cases r with
  | false=>simp only [Bool.not_false,if_true,pure_bind,Bool.false_and]; exact ai.bL _
  | true =>
   simp only [Bool.not_true,oA,if_false,pure_bind,Bool.true_and]
   simpa only [ne_eq] using ih
theorem alT{t:TypeId}{fields:Array Field}{r:Bool}(hu:P.underlying t=some (.struct fields))(dc:P.stoodInHeld t=false)(h:JN P d xs ys fields.toList r):ai P (Op.equalIn (d+1) t (.agg xs) (.agg ys)) r:=by
 rw [Op.equalIn]
 refine ai.bR (ai.underlying hu) ?_
 dsimp only
 refine ai.bR ai.program ?_
 simp only [dc,oA,if_false]
 rw [← Array.forIn_toList]
 refine ai.bR (aQ0 h) ?_
 cases r <;> exact ai.bL _
theorem Ty{t:TypeId}{kd:IntKind}{a b:Int}(hu:P.underlying t=some (.int kd)):ai P (Op.equalIn (d+1) t (.int kd a) (.int kd b)) (a == b):=by
 rw [Op.equalIn]
 refine ai.bR (ai.underlying hu) ?_
 simp only [if_true]
 exact ai.bL _
theorem Tx{t:TypeId}{a b:Bool}(hu:P.underlying t=some .bool):ai P (Op.equalIn (d+1) t (.bool a) (.bool b)) (a == b):=by
 rw [Op.equalIn]
 exact ai.bR (ai.underlying hu) (ai.bL _)
inductive JM (P:Program) (d:Nat) (elem:TypeId) (n:Nat) (xs ys:Array Value):List Nat→Bool→Prop
 | nil:JM P d elem n xs ys [] true
 | cons {i:Nat} {rest:List Nat} {a b:Value} {r r':Bool}:ai P (part elem xs (i * n)) a→ai P (part elem ys (i * n)) b→ai P (Op.equalIn d elem a b) r→JM P d elem n xs ys rest r'→JM P d elem n xs ys (i::rest) (r && r')
theorem aQZ{elem:TypeId}{n:Nat}{is:List Nat}{r:Bool}(h:JM P d elem n xs ys is r) :
  ai P (forIn is ((none:Option Bool),()) λ i (_:Option Bool × Unit)=>do
      let a ← part elem xs (i * n)
      let b ← part elem ys (i * n)
      let q ← Op.equalIn d elem a b
      if (!q)=true then pure (ForInStep.done (some false,())) else pure (ForInStep.yield (none,()))) (s5 r):=by
 induction h with
 | nil=>rw [List.forIn_nil]; exact ai.bL _
 | @cons i rest a b r r' ha hb hq _ ih =>
  rw [List.forIn_cons]
  simp only [bind_assoc]
  refine ai.bR ha (ai.bR hb (ai.bR hq ?_))
  cases r with
  | false=>simp only [Bool.not_false,if_true,pure_bind,Bool.false_and]; exact ai.bL _
  | true =>
   simp only [Bool.not_true,oA,if_false,pure_bind,Bool.true_and]
   exact ih
theorem aQX{n len:Nat}{t elem:TypeId}{r:Bool}(hu:P.underlying t=some (.array len elem))(hs:ai P (sizeOf elem) n)(h:JM P d elem n xs ys (List.range len) r):ai P (Op.equalIn (d+1) t (.agg xs) (.agg ys)) r:=by
 rw [Op.equalIn]
 refine ai.bR (ai.underlying hu) ?_
 dsimp only
 refine ai.bR hs ?_
 rw [Std.Legacy.Range.forIn_eq_forIn_range']
 simp only [Std.Legacy.Range.size,Nat.sub_zero,Nat.add_sub_cancel,Nat.div_one]
 rw [← List.range_eq_range']
 refine ai.bR (aQZ h) ?_
 cases r <;> exact ai.bL _
end
def iC(s:ByteArray):List Int:=s.data.toList.map λ b=>(b.toNat:Int)
def wU(s:ByteArray)(i:Int):Option Int:=idx (iC s) i
section
variable {P:Program} {B:Base} {main:Bool} {ab:Jd P B main} {c:Ctx} {R:az} {H H':ah} {st st':St} {o:Oper} {C:az→ah→St→Prop} {k:List Item}
theorem Ox.RE{x y:Operand}{t:TypeId}{s:ByteArray}{kd:IntKind}{i z:Int}(au:o.op = .index t x y)(hx:bn st x=some (.string s))(hy:bn st y=some (.int kd i))(ht:P.underlying t=some .string)(hz:wU s i=some z)
  (hd:cB o.dst c.n) (hs:ay (cE o.dst (.int .u8 z) st) st') (h:C R H st'):bf P B c o R H st C :=
 Ox.mG (s:=λ ρ=>Instr.index t (ρ x) (ρ y)) (by rw [au]; rfl) hd (λ ρ=>by simp only [execOp,au]) (λ ρ bl=>by
  rw [bl x _ hx,bl y _ hy]
  obtain ⟨h1,h2,h3⟩:=vS hz
  unfold iC at h3
  rw [List.getElem?_map] at h3
  obtain ⟨b,hb,rfl⟩:=Option.map_eq_some_iff.1 h3
  unfold Instr.index
  refine ai.bR (a:=(kd,i)) (ai.bL _) (ai.bR (ai.underlying ht) ?_)
  have e:(if 0≤i then s[i.toNat]? else none)=some b:=by
   rw [if_pos h1]
   have gI:s.data[i.toNat]? = some b:=by simpa using hb
   rw [← gI]
   rfl
  simp only [e]
  exact ai.bL _) hs h
def ad1(P:Program)(t:TypeId)(z:Array Value):Prop:=jv P t z∧∃ n e m,P.underlying t=some (.array n e)∧ai P (sizeOf e) m
theorem Ox.Px{t:TypeId}{z:Array Value}(au:o.op = .build t #[])(ht:ad1 P t z)
  (hd:cB o.dst c.n) (hs:ay (cE o.dst (.agg z) st) st') (h:C R H st'):bf P B c o R H st C :=
 Ox.mG (s:=λ _=>Instr.build t #[]) (by rw [au]; rfl) hd (λ ρ=>by simp [execOp,au]) (λ ρ bl=>by
  obtain ⟨⟨z0,hz,rfl⟩,n,e,m,h1,h2⟩:=ht
  unfold Instr.build
  exact ai.bR hz (ai.bR (ai.underlying h1) (ai.bR h2 (ai.bL _)))) hs h
def GA(P:Program)(t _:Nat)(v:Value)(len l h:Int)(v':Value):Prop :=
 ∀ (ρ:Operand→Value) (st:St) (x:Operand) (lo hi:Option Operand),Knows st ρ→ρ x=v→M5 st lo=some l→LH st len.toNat hi=some h→ai P (Instr.sliceAt t (ρ x) (lo.map ρ) (hi.map ρ) none) v'
theorem da.cut{α:Type}{K:cM α}{k t e:Nat}{xs ys:List α}{v:Value}{l h:Int}{H0:ah}(hS:da K k R H0 v xs)(ht:nW P t e k)(hc:kQ xs l h=some ys):∃ v',da K k R H0 v' ys∧GA P t k v (xs.length:Int) l h v':=by
 obtain ⟨h1,h2,h3,rfl⟩:=Ky hc
 obtain ⟨A,cap,es,rfl,hE,zo,hm⟩:=hS
 refine ⟨(.slice (if cap=l.toNat then A else A.map (·.add (l.toNat * k))) (h.toNat - l.toNat) (cap - l.toNat)),?_,?_⟩
 ·have BQ:((xs.take h.toNat).drop l.toNat).length=h.toNat - l.toNat:=by
   simp only [List.length_drop,jP]
   omega
  refine ⟨(if cap=l.toNat then A else A.map (·.add (l.toNat * k))),cap - l.toNat,(es.take (h.toNat * k)).drop (l.toNat * k),by rw [BQ],hE.take.drop,by rw [BQ]; omega,λ cU=>?_⟩
  have bS:l.toNat < h.toNat:=by
   apply Classical.byContradiction
   intro hn
   apply cU
   apply List.eq_nil_of_length_eq_zero
   simp only [List.length_drop,jP]
   omega
  obtain ⟨b,o',rfl,g2⟩:=hm (by rintro rfl; simp at h3; omega)
  refine ⟨b,o'+l.toNat * k,?_,λ j w hj=>?_⟩
  ·rw [if_neg (by omega)]; simp [tE]
  ·rw [List.getElem?_drop,List.getElem?_take] at hj
   split at hj
   ·have:=g2 _ _ hj
    simpa [Nat.add_assoc] using this
   ·cases hj
 ·intro ρ st x lo hi bl hx hl hh
  rw [eD] at hh
  rw [hx]
  unfold Instr.sliceAt
  refine ai.bR (ai.underlying ht.1) ?_
  unfold Instr.slice
  refine ai.bR (ai.underlying ht.1) (ai.bR (Tw bl hl hh ⟨h1,h2,h3⟩ zo) (ai.bR ht.2 (ai.bL _)))
theorem aa.cut{α:Type}{K:cM α}{k t e:Nat}{xs ys:List α}{v:Value}{l h:Int}(hS:aa K k R v xs)(ht:nW P t e k)(hc:kQ xs l h=some ys):∃ v',aa K k R v' ys∧GA P t k v (xs.length:Int) l h v':=by
 obtain ⟨h1,h2,h3,rfl⟩:=Ky hc
 obtain ⟨A,cap,es,rfl,hE,zo,hm⟩:=hS
 refine ⟨(.slice (if cap=l.toNat then A else A.map (·.add (l.toNat * k))) (h.toNat - l.toNat) (cap - l.toNat)),?_,?_⟩
 ·have BQ:((xs.take h.toNat).drop l.toNat).length=h.toNat - l.toNat:=by
   simp only [List.length_drop,jP]
   omega
  refine ⟨(if cap=l.toNat then A else A.map (·.add (l.toNat * k))),cap - l.toNat,(es.take (h.toNat * k)).drop (l.toNat * k),by rw [BQ],hE.take.drop,by rw [BQ]; omega,λ cU=>?_⟩
  have bS:l.toNat < h.toNat:=by
   apply Classical.byContradiction
   intro hn
   apply cU
   apply List.eq_nil_of_length_eq_zero
   simp only [List.length_drop,jP]
   omega
  obtain ⟨b,o',arr,e',fz,rfl,g2,g3⟩:=hm (by rintro rfl; simp at h3; omega)
  refine ⟨b,o'+l.toNat * k,arr,e',fz,?_,g2,λ j w hj=>?_⟩
  ·rw [if_neg (by omega)]; simp [tE]
  ·rw [List.getElem?_drop,List.getElem?_take] at hj
   split at hj
   ·have:=g3 _ _ hj
    simpa [Nat.add_assoc] using this
   ·cases hj
 ·intro ρ st x lo hi bl hx hl hh
  rw [eD] at hh
  rw [hx]
  unfold Instr.sliceAt
  refine ai.bR (ai.underlying ht.1) ?_
  unfold Instr.slice
  refine ai.bR (ai.underlying ht.1) (ai.bR (Tw bl hl hh ⟨h1,h2,h3⟩ zo) (ai.bR ht.2 (ai.bL _)))
theorem Ox.DG{x:Operand}{t k:Nat}{lo hi:Option Operand}{v v':Value}{len l h:Int}(au:o.op = .slice t x lo hi none)(hx:bn st x=some v)(hl:M5 st lo=some l)(hh:LH st len.toNat hi=some h)(hc:GA P t k v len l h v')(hd:cB o.dst c.n)
  (hs:ay (cE o.dst v' st) st') (hC:C R H st'):bf P B c o R H st C :=
 Ox.mG (s:=λ ρ=>Instr.sliceAt t (ρ x) (lo.map ρ) (hi.map ρ) none) (by rw [au]; rfl) hd (λ ρ=>by simp only [execOp,au]; rfl) (λ ρ bl=>hc ρ st x lo hi bl (bl x _ hx) hl hh) hs hC
theorem bt.il{α:Type}{K:cM α}{k t e:Nat}{v:Value}{xs:List α}{Hs:ah}{i:Int}{x:α}(h:bt K k e R v xs Hs)(ht:nW P t e k)(hi:idx xs i=some x) :
  ∃ b cs es,K R x es∧Hs=[(b,.cells cs e (0,0))]∧aU R Hs b (i.toNat * k) es∧(∀ (j:Nat) (w:Value),es[j]? = some w→cs[i.toNat * k+j]? = some w)∧y7 P t v i b (i.toNat * k)∧es.length=k∧i.toNat * k+k≤cs.size ∧
   ∀ x' vn,K R x' vn→vn.length=k→bt K k e R v (xs.set i.toNat x') [(b,.cells (gx cs (i.toNat * k) vn) e (0,0))]:=by
 obtain ⟨h1,h2,h3⟩:=vS hi
 rcases h with ⟨A,rfl,rfl,rfl⟩ | ⟨b,cap,cs,es,rfl,rfl,g3,g4,g5,g6⟩
 ·simp at h3
 obtain ⟨e1,f1,f2,f3⟩:=g5.at_ _ _ h3
 have bS:i.toNat < xs.length:=(iF.1 h3).1
 have gm:i.toNat * k+k≤xs.length * k:=by
  calc i.toNat * k+k=(i.toNat+1) * k:=by rw [Nat.add_mul,Nat.one_mul]
   _≤xs.length * k:=Nat.mul_le_mul_right k bS
 have pF:xs.length * k≤cs.size:=by rw [g3]; exact Nat.mul_le_mul_right k g4
 refine ⟨b,cs,e1,f1,rfl,λ j w hj=>⟨rfl,cs,e,(0,0),.inr (by simp),g6 _ _ (f3 j w hj)⟩,λ j w hj=>g6 _ _ (f3 j w hj),λ kd=>?_,f2,by omega,λ x' vn B6 hl'=>?_⟩
 ·have:=ac8 (P:=P) (b:=b) (m:=0) (cap:=cap) (kd:=kd) ht (j:=i.toNat) (len:=xs.length) bS
  rw [Int.toNat_of_nonneg h1] at this
  simpa using this
 ·refine .inr ⟨b,cap,_,(es.take (i.toNat * k))++(vn++es.drop (i.toNat * k+k)),by rw [List.length_set],rfl,by rw [NY]; exact g3,by rw [List.length_set]; exact g4,?_,?_⟩
  ·have mq:=g5.len
   refine ⟨?_,λ j y hy=>?_⟩
   ·simp only [kO,jP,List.length_drop,List.length_set,hl',mq]
    omega
   ·rw [List.getElem?_set] at hy
    split at hy
    ·rename_i gR
     subst gR
     cases hy
     refine ⟨vn,B6,hl',λ a w hw=>?_⟩
     have ha:=(iF.1 hw).1
     rw [oz (by simp only [jP]; omega)]
     simp only [jP,mq]
     rw [show i.toNat * k+a - min (i.toNat * k) (xs.length * k)=a by omega,rR ha]
     exact hw
    ·rename_i gR
     obtain ⟨e2,q1,q2,q3⟩:=g5.at_ _ _ hy
     refine ⟨e2,q1,q2,λ a w hw=>?_⟩
     have ha:=(iF.1 hw).1
     rw [q2] at ha
     have hold:=q3 a w hw
     rcases Nat.lt_or_ge j i.toNat with ah5 | tV
     ·have:j * k+k≤i.toNat * k:=by
       calc j * k+k=(j+1) * k:=by rw [Nat.add_mul,Nat.one_mul]
        _≤i.toNat * k:=Nat.mul_le_mul_right k ah5
      rw [rR (by simp only [jP,mq]; omega),List.getElem?_take,if_pos (by omega)]
      exact hold
     ·have:i.toNat * k+k≤j * k:=by
       calc i.toNat * k+k=(i.toNat+1) * k:=by rw [Nat.add_mul,Nat.one_mul]
        _≤j * k:=Nat.mul_le_mul_right k (by omega)
      rw [oz (by simp only [jP]; omega),oz (by simp only [jP,mq,hl']; omega),List.getElem?_drop]
      simp only [jP,mq,hl']
      rw [show i.toNat * k+k+(j * k+a - min (i.toNat * k) (xs.length * k) - k)=j * k+a by omega]
      exact hold
  ·intro j w hj
   have mq:=g5.len
   rw [FH vn cs (i.toNat * k) j (by rw [hl']; omega)]
   rw [List.getElem?_append] at hj
   simp only [jP,mq] at hj
   split at hj
   ·rename_i ah5
    rw [List.getElem?_take] at hj
    split at hj
    ·rw [if_neg (by omega)]
     exact g6 _ _ hj
    ·cases hj
   ·rw [List.getElem?_append] at hj
    split at hj
    ·rename_i h5 h6
     rw [if_pos (by omega),← hj]
     congr 1
     omega
    ·rename_i h5 h6
     rw [hl'] at h6
     rw [if_neg (by rw [hl']; omega)]
     rw [List.getElem?_drop,hl'] at hj
     have:=g6 _ _ hj
     rwa [show i.toNat * k+k+(j - min (i.toNat * k) (xs.length * k) - k)=j by omega] at this
theorem acx:∀ (vs ws:List Value) (cs:Array Value) (o:Nat),gx cs o (vs++ws)=gx (gx cs o vs) (o+vs.length) ws
 | [],ws,cs,o=>by simp [gx]
 | v::vs,ws,cs,o=>by
  simp only [List.cons_append,gx,List.length_cons]
  rw [acx vs ws]
  congr 1
  omega
theorem acy:∀ (vs:List Value) (cs:Array Value) (o:Nat),(∀ j w,vs[j]? = some w→cs[o+j]? = some w)→gx cs o vs=cs
 | [],cs,o,_=>rfl
 | v::vs,cs,o,h=>by
  have h0:cs[o]? = some v:=h 0 v rfl
  have bS:=(Array.getElem?_eq_some_iff.1 h0).1
  have e:cs.setIfInBounds o v=cs:=by
   apply Array.ext_getElem?
   intro j
   by_cases hj:o=j
   ·subst hj; rw [u6 bS,h0]
   ·rw [nk hj]
  simp only [gx,e]
  exact acy vs cs (o+1) λ j w hj=>by
   have:=h (j+1) w (by simpa using hj)
   rwa [show o+(j+1)=o+1+j by omega] at this
theorem Ox.iu{α:Type}{K:cM α}{k e t b j n:Nat}{x y:Operand}{G:ah→ah}{v w:Value}{xs:List α}{i:Int}{x':α}{cs:Array Value}{pre mid post vs:List Value}(hG:lW G)
  (au:o.op = .store t x y) (hx:bn st x=some (.pointer (some ⟨b,i.toNat * k+j,none⟩))) (hy:bn st y=some w) (hw:w.cells.toList=vs) (ht:ai P (sizeOf t) n) (hn:vs.length=n) (h1:∀ u∈vs,u.oneCell'=true)
  (hc:∀ (j:Nat) (w:Value),(pre++(mid++post))[j]? = some w→cs[i.toNat * k+j]? = some w) (hj:pre.length=j) (hm:mid.length=n) (hk:(pre++(mid++post)).length=k) (gm:i.toNat * k+k≤cs.size)
  (hO:∀ x' vn,K R x' vn→vn.length=k→bt K k e R v (xs.set i.toNat x') [(b,.cells (gx cs (i.toNat * k) vn) e (0,0))]) (hK:K R x' (pre++(vs++post)))
  (hd:o.dst=none) (Ma:ay st st') (h:∀ cK,bt K k e R v (xs.set i.toNat x') cK→C R (G cK) st'):bf P B c o R (G [(b,.cells cs e (0,0))]) st C:=by
 have nE:gx cs (i.toNat * k+j) vs=gx cs (i.toNat * k) (pre++(vs++post)):=by
  rw [acx,acy pre cs _ (λ a u ha=>hc a u (by rw [rR (iF.1 ha).1]; exact ha)),acx,hj,hn]
  rw [acy post]
  intro a u ha
  have h2:=hc (j+n+a) u (by
   rw [oz (by omega),oz (by omega)]
   rw [show j+n+a - pre.length - mid.length=a by omega]
   exact ha)
  have bS:=(Array.getElem?_eq_some_iff.1 h2).1
  rw [FH vs cs (i.toNat * k+j) _ (by rw [hn]; have:=hk; simp only [kO] at this; omega),if_neg (by omega)]
  rwa [show i.toNat * k+(j+n+a)=i.toNat * k+j+n+a by omega] at h2
 have hlen:(pre++(vs++post)).length=k:=by
  simp only [kO] at hk ⊢
  omega
 have Qh:=hO x' _ hK hlen
 rw [← nE] at Qh
 refine Ox.Se (s:=λ ρ=>Instr.storeAt t (ρ x) (ρ y)) (by rw [au]; rfl) hd (λ ρ=>by simp only [execOp,au]) Ma (λ ρ bl=>?_)
 rw [bl x _ hx,bl y _ hy]
 simp only [Instr.storeAt,Instr.sureAddr]
 refine ai.fv (ai.bL _) ?_
 have aEr:w.cells.size=n:=by rw [← hn,← hw]; simp
 refine aS.storeVar (cs:=cs) (e:=e) ht aEr (by rw [hw]; exact h1) (by simp only [kO] at hk; omega) ?_ (h _ Qh)
 rw [hw]
 exact hG.set
def G4{α:Type}(xs ys:List α):List α:=ys.take xs.length++xs.drop ys.length
end
section
variable {P:Program} {B:Base} {main:Bool} {ab:Jd P B main} {c:Ctx} {R:az} {H:ah} {st:St} {k:List Item}
theorem aS.getLoop{l:Nat}{r:Loop}{K:Loop→az→ah→Prop}(h:(l,Obj.loop r)∈H)(hk:K r R H):aS P B R H (Instr.getLoop l) K:=by
 unfold Instr.getLoop
 exact aS.dK (aS.getObj rfl (.inr h) (aS.eB hk))
theorem fF.at_{b:Nat}{o o':Obj}{T:ah}:∀ {Hs:ah},fF (Hs++(b,o)::T) b o o' (Hs++(b,o')::T)
 | []=>.here
 | _::_=>.there fF.at_
def J7(ab:Jd P B main)(v:Value)(args:Array Value)(R:az)(H:ah)(Post:Value→az→ah→Prop):Prop :=
 ∃ l r,v = .func (.yield l) #[] #[]∧(l,Obj.loop r)∈H∧r.params.size=args.size ∧
  ∀ fr cs,(∀ w R' H',Post w R' H'→ab.J R' H' (bc (fr.finish w) cs)) →
   ab.J R H (bc (Frame.round l r.fn ((r.params.zip args).foldl (λ tmps (t,a)=>tmps.setIfInBounds t a) r.tmps) r.assign r.body .normal) (fr::cs))
theorem J7.mono{v:Value}{args:Array Value}{Post J3:Value→az→ah→Prop}(h:J7 ab v args R H Post)(hp:∀ w R' H',Post w R' H'→J3 w R' H'):J7 ab v args R H J3:=by
 obtain ⟨l,r,h1,h2,h3,h4⟩:=h
 exact ⟨l,r,h1,h2,h3,λ fr cs hk=>h4 fr cs λ w R' H' hw=>hk w R' H' (hp _ _ _ hw)⟩
theorem apW{fr:Frame}{cs:List Frame}{s:Sem Next}{w w':World}{l:Nat}{f:FuncId}{tmps:Array Value}{assign body:Code}(hk:fr.kind ≠ .early)(hr:s.run P w = .ok (.round l f tmps assign body) w') :
  stepG.apply P true fr cs none s w = .go (bc (Frame.round l f tmps assign body .normal) (fr::cs)) w' (seen P fr.fn (s.events P w #[])):=by
 have dP:(fr.kind == CallKind.early)=false:=by simpa using hk
 simp [stepG.apply,hr,bc,dP,GStep.after]
theorem At.alz{ops:Array Oper}{i:Nat}{rest:List Nat}{o:Oper}{ca:Call}{x:Operand}{v:Value}{vs:List Value}(ho:ops[i]? = some o)(hw:cX ops st o=some true)(hk:(c.kind == CallKind.early)=false)
  (au:o.op = .call ca) (hc:ca.callee = .value x) (hx:bn st x=some v) (ha:jw st ca.args.toList=some vs) (mi:cB o.dst c.n)
  (h:J7 ab v vs.toArray R H λ w R' H'=>∃ st',ay (cE o.dst w st) st'∧At ab c R' H' st' (.inRegion ops rest::k)) :
  At ab c R H st (.inRegion ops (i::rest)::k):=by
 intro tmps ht
 obtain ⟨l,r,rfl,hl,gm,hj⟩:=h
 have iZ:=ht.knows c (.inRegion ops (i::rest)::k)
 have hd:nG o.op=false:=by rw [au]; rfl
 have hs:aS P B R H (execOp (ba c tmps (.inRegion ops (i::rest)::k)).eval o) λ nx R' H'=>nx = .round l r.fn ((r.params.zip vs.toArray).foldl (λ tmps (t,a)=>tmps.setIfInBounds t a) r.tmps) r.assign r.body∧R'=R∧H'=H:=by
  simp only [execOp,au,resolve,hc,iZ x _ hx,Deferred.ofValue]
  have e:ca.args.map (ba c tmps (.inRegion ops (i::rest)::k)).eval=vs.toArray:=by apply Array.ext'; simpa using Dy iZ _ _ ha
  refine ai.fv (a:=⟨.fn (.yield l) #[],#[]++vs.toArray⟩) (by rw [e]; exact ai.bL _) ?_
  simp only [invoke,Instr.yield]
  refine aS.dK (aS.getLoop hl ?_)
  simp only [Array.empty_append,gm,ne_eq,jo,if_false]
  exact aS.eB ⟨rfl,rfl,rfl⟩
 refine ab.step rfl λ w rv=>?_
 obtain ⟨nx,w',R',H',h1,h2,h3,rfl,rfl,rfl⟩:=hs w rv
 refine ⟨_,w',seen P c.fn ((execOp (ba c tmps (.inRegion ops (i::rest)::k)).eval o).events P w #[]),R',H',?_,λ e he=>h2 e (mem_seen he),h3,hj (ba c tmps (.inRegion ops (i::rest)::k)) c.cs λ u cY eG hp=>?_⟩
 ·rw [qN ho (ln ht hw) hd]
  exact apW (by simpa [ba] using hk) h1
 ·obtain ⟨st',hs',kl⟩:=hp
  rw [rf ho]
  exact kl _ ((ht.put u mi).sub hs')
structure mJ (ab:Jd P B main) (R:az) {α S:Type} (A:oE α) (v:Value) (y:α→S→Option (S × Bool)) (Inv:S→az→ah→Prop):Prop where
 fn:∃ l,v = .func (.yield l) #[] #[]
 mono:∀ {s:S} {R1 R2:az} {Hy:ah},aR R R1→aR R1 R2→Inv s R1 Hy→Inv s R2 Hy
 call:∀ (Hf:ah) {R':az} {Hy:ah} {s:S} {x:α} {va:Value} {z:S × Bool},aR R R'→Inv s R' Hy→A R' x va→y x s=some z →
  J7 ab v #[va] R' (Hf++Hy) λ w cY eG=>aR R' cY∧w = .bool z.2∧∃ Bi,Inv z.1 cY Bi∧eG=Hf++Bi
theorem mJ.up{R':az}{α S:Type}{A:oE α}{v:Value}{y:α→S→Option (S × Bool)}{Inv:S→az→ah→Prop}(h:mJ ab R A v y Inv)(hR:aR R R'):mJ ab R' A v y Inv :=
 ⟨h.fn,λ h1 h2=>h.mono (hR.trans h1) h2,λ Hf=>λ h1=>h.call Hf (hR.trans h1)⟩
theorem mJ.cells{α S:Type}{A:oE α}{v:Value}{y:α→S→Option (S × Bool)}{Inv:S→az→ah→Prop}(h:mJ ab R A v y Inv):v.cells=#[v]:=by
 obtain ⟨l,rfl⟩:=h.fn; rfl
def gV{α S O:Type}(body:α→S→Option (S ⊕ O))(x:α):S ⊕ O→Option ((S ⊕ O) × Bool)
 | .inl s=>(body x s).map λ z=>(z,z.isLeft)
 | .inr _=>none
def Shape(I:az→ah→ah→Prop):Prop:=∀ R T H,I R T H→∃ Hs,H=Hs++T∧∀ R' T',aR R R'→I R' T' (Hs++T')
theorem aPV{l:Nat}{jump:Option Code}{r:Loop}{Hs T:ah}:aS P B R (Hs++(l,.loop r)::T) (Instr.endRound l jump) λ v R' H'=>v = .bool jump.isNone∧R'=R∧H'=Hs++(l,.loop { r with state:=if jump.isNone then .ready else .done,pending:=jump })::T:=by
 unfold Instr.endRound
 exact aS.dK (aS.getLoop (by simp) (aS.dK (aS.setObj rfl rfl fF.at_ (aS.eB ⟨rfl,rfl,rfl⟩))))
theorem aPU{l:Nat}{r:Loop}{Hs T:ah}(hb:(r.state == .busy)=false):aS P B R (Hs++(l,.loop r)::T) (Instr.endLoop l) λ v R' H'=>v=r.pending∧R'=R∧H'=Hs++(l,.loop { r with state:=.exhausted })::T:=by
 unfold Instr.endLoop
 refine aS.dK (aS.getLoop (r:=r) (by simp) ?_)
 simp only [hb]
 exact aS.dK (aS.setObj rfl rfl fF.at_ (aS.eB ⟨rfl,rfl,rfl⟩))
theorem aPT{l:Nat}{r:Loop}{H':ah}(hs:fF H l (.loop r) (.loop { r with state:=.busy }) H')(hr:r.state = .ready):aS P B R H (do Instr.beginRound l; pure Next.skip) λ v cY eG=>v = .skip∧cY=R∧eG=H':=by
 unfold Instr.beginRound
 refine aS.dK (aS.dK (aS.getLoop hs.mem (aS.dK (aS.setObj rfl rfl hs ?_))))
 simp only [hr]
 exact aS.eB (aS.eB ⟨rfl,rfl,rfl⟩)
theorem At.beginRound{l:Nat}{r:Loop}{H':ah}(kT:c.ro=some l)(hk:(c.kind == CallKind.early)=false)(hs:fF H l (.loop r) (.loop { r with state:=.busy }) H')(hr:r.state = .ready)(h:At ab c R H' st k):At ab c R H st (.beginRound::k):=λ tmps ht=>by
 refine ab.step rfl λ w hw=>?_
 obtain ⟨v,w',R',eG,h1,h2,h3,rfl,rfl,rfl⟩:=aPT (P:=P) hs hr w hw
 refine ⟨bc (ba c tmps k) c.cs,w',seen P c.fn ((do Instr.beginRound l; pure Next.skip:Sem Next).events P w #[]),R',eG,?_,λ e he=>h2 e (mem_seen he),h3,h tmps ht⟩
 have e:=Vb (P:=P) (fr:=ba c tmps (.beginRound::k)) (cs:=c.cs) (by simpa [ba] using hk) h1
 simpa [stepG,stepG.exec,bc,ba,kT,Frame.finish] using e
def Leaves(todo:List Item)(jump:Option Code):Prop :=
 (todo=[]∧jump=none)∨(∃ k',todo = .code .ret::k'∧jump=some .ret)∨(∃ id k',todo = .code (.exit id)::k'∧exitTo id k'=none∧jump=some (.exit id))
theorem ai7{l f:Nat}{n:Nat}{cs:List Frame}{fr:Frame}{tmps:Array Value}{todo:List Item}{jump:Option Code}{r:Loop}{Hs T:ah}(hl:Leaves todo jump)
  (h:ab.J R (Hs++(l,.loop { r with state:=if jump.isNone then .ready else .done,pending:=jump })::T) (bc (fr.finish (.bool jump.isNone)) cs)) :
  ab.J R (Hs++(l,.loop r)::T) (bc (ba ⟨f,.normal,some l,n,[],fr::cs⟩ tmps todo) (fr::cs)):=by
 refine ab.step rfl λ w hw=>?_
 obtain ⟨v,w',R',H',h1,h2,h3,rfl,rfl,rfl⟩:=aPV (P:=P) (jump:=jump) w hw
 refine ⟨bc (fr.finish (.bool jump.isNone)) cs,w',seen P f ((Instr.endRound l jump).events P w #[]),R',_,?_,λ e he=>h2 e (mem_seen he),h3,h⟩
 rcases hl with ⟨rfl,rfl⟩ | ⟨k',rfl,rfl⟩ | ⟨id,k',rfl,dP,rfl⟩
 ·simp at h1; simp [stepG,stepG.exec,ba,h1,doReturn,GStep.after,bc]
 ·simp at h1; simp [stepG,stepG.exec,ba,h1,doReturn,GStep.after,bc]
 ·simp at h1; simp [stepG,stepG.exec,ba,h1,dP,doReturn,GStep.after,bc]
def vZ(fn:FuncId)(tmps:Array Value)(t:Tmp)(assign body:Code)(d:Nat):Loop:={ state:=.ready,pending:=none,fn,tmps,params:=#[t],assign,body,defers:=d }
theorem acw{p:Nat × Obj}{Hf Hs D:ah}:List.Perm (Hs++p::(Hf++D)) (Hf++(Hs++p::D)):=by
 have h1:List.Perm (Hs++p::(Hf++D)) (p::(Hs++(Hf++D))):=List.perm_middle
 have h2:List.Perm (Hf++(Hs++p::D)) (p::(Hf++(Hs++D))):=by
  rw [← List.append_assoc,← List.append_assoc]
  exact List.perm_middle
 refine h1.trans (List.Perm.trans (List.Perm.cons _ ?_) h2.symm)
 rw [← List.append_assoc,← List.append_assoc]
 exact List.perm_append_comm.append_right D
section
variable {α S O:Type} {A:oE α} {body:α→S→Option (S ⊕ O)} {t:Tmp} {assign j9:Code}
 (I:S→az→ah→ah→Prop) (E:O→az→ah→ah→Prop) (jc:O→Code)
def RInv(R:az)(l:Nat)(r:Loop)(D:ah):S ⊕ O→az→ah→Prop
 | .inl s,R',Hy=>aR R R'∧I s R' ((l,.loop r)::D) Hy
 | .inr o,R',Hy=>aR R R'∧E o R' ((l,.loop { r with state:=.done,pending:=some (jc o) })::D) Hy
def aer(ab:Jd P B main)(c:Ctx)(R:az)(H:ah)(st:St)(A:oE α)(body:α→S→Option (S ⊕ O))(t:Tmp)(assign j9:Code):Prop :=
 ∀ (va:Value) (x:α) (s:S) (z:S ⊕ O) (R':az) (T H':ah) (l:Nat) (ld:Loop) (cs:List Frame),aR R R'→List.Sublist H T→A R' x va→I s R' ((l,.loop ld)::T) H'→ld.state = .ready→body x s=some z →
  (∀ s' cY eG pb,z = .inl s'→aR R' cY→I s' cY ((l,.loop { ld with state:=.busy })::T) eG→At ab ⟨c.fn,.normal,some l,c.n,[],cs⟩ cY eG pb []) →
  (∀ o cY eG pb B9,z = .inr o→aR R' cY→E o cY ((l,.loop { ld with state:=.busy })::T) eG→Leaves (.code (jc o)::B9) (some (jc o))→At ab ⟨c.fn,.normal,some l,c.n,[],cs⟩ cY eG pb (.code (jc o)::B9)) →
  At ab ⟨c.fn,.normal,some l,c.n,[],cs⟩ R' H' ((t,va)::st) [.code assign,.beginRound,.code j9]
variable {I E jc}
theorem avH{D:ah}{l:Nat}{d:Nat}{tmps:Array Value}(vq:∀ s,Shape (I s))(DV:∀ o,Shape (E o))(ht:de c.n st tmps)(hd:Nat.blt t c.n=true)(hH:List.Sublist H D)
  (hb:aer I E jc ab c R H st A body t assign j9) :
  mJ ab R A (.func (.yield l) #[] #[]) (gV body) (RInv I E jc R l (vZ c.fn tmps t assign j9 d) D) where
 fn:=⟨l,rfl⟩
 mono:=by
  intro s R1 R2 Hy h1 h2 hI
  cases s with
  | inl s =>
   obtain ⟨hr,hI⟩:=hI
   obtain ⟨Hs,rfl,h⟩:=vq s _ _ _ hI
   exact ⟨hr.trans h2,h _ _ h2⟩
  | inr o =>
   obtain ⟨hr,hI⟩:=hI
   obtain ⟨Hs,rfl,h⟩:=DV o _ _ _ hI
   exact ⟨hr.trans h2,h _ _ h2⟩
 call:=by
  intro Hf R' Hy s x va z hR hI hA hy
  cases s with
  | inr o=>cases hy
  | inl s =>
   simp only [gV,Option.map_eq_some_iff] at hy
   obtain ⟨z',hz,rfl⟩:=hy
   obtain ⟨hr,hI⟩:=hI
   obtain ⟨Hs,rfl,br⟩:=vq s _ _ _ hI
   refine ⟨l,vZ c.fn tmps t assign j9 d,rfl,by simp,rfl,λ fr cs hk=>?_⟩
   refine J.perm (H':=Hs++(l,.loop (vZ c.fn tmps t assign j9 d))::(Hf++D)) acw ?_
   have YW:de c.n ((t,va)::st) (((vZ c.fn tmps t assign j9 d).params.zip #[va]).foldl (λ tmps (t,a)=>tmps.setIfInBounds t a) (vZ c.fn tmps t assign j9 d).tmps):=by
    have:=ht.put (dst:=some t) va hd
    simpa [vZ,cE,gb] using this
   refine hb va x s z' R' (Hf++D) _ l (vZ c.fn tmps t assign j9 d) (fr::cs) hR (hH.trans (List.sublist_append_right _ _)) hA (br R' _ (aR.refl _)) rfl hz (λ s' cY eG pb hz' tP au7=>?_) (λ o cY eG pb B9 hz' tP au6 hl=>?_) _ YW
   ·subst hz'
    obtain ⟨cK,rfl,Eo⟩:=vq s' _ _ _ au7
    intro bg _
    refine ai7 (jump:=none) (.inl ⟨rfl,rfl⟩) ?_
    refine J.perm acw.symm ?_
    exact hk _ _ _ ⟨tP,rfl,_,⟨hR.trans tP,Eo cY _ (aR.refl _)⟩,rfl⟩
   ·subst hz'
    obtain ⟨cK,rfl,Eo⟩:=DV o _ _ _ au6
    intro bg _
    refine ai7 (jump:=some (jc o)) hl ?_
    refine J.perm acw.symm ?_
    exact hk _ _ _ ⟨tP,rfl,_,⟨hR.trans tP,Eo cY _ (aR.refl _)⟩,rfl⟩
theorem aPW{fn:FuncId}{tmps:Array Value}{ps:Array Tmp}{assign j9:Code}:aS P B R H (Instr.enterLoop fn tmps ps assign j9 none) λ q R' H'=>R'=R∧∃ r,q.2=[⟨.collected r,#[]⟩]∧H'=(q.1,.loop ⟨.ready,none,fn,tmps,ps,assign,j9,r⟩)::(r,.deferred (some []))::H:=by
 unfold Instr.enterLoop
 refine aS.dK (aS.new λ r _ _=>aS.dK (aS.eB ?_))
 refine aS.dK (aS.new λ l _ _=>aS.eB ?_)
 exact ⟨rfl,r,rfl,rfl⟩
theorem At.as0{x:Operand}{iy:FuncId}{first cap:Array Value}(hx:bn st x=some (.func (.func iy) first cap))(he:bj P iy)(hk:(c.kind == CallKind.early)=false){K:Nat × List Deferred→az→ah→Prop}
  (QD:∀ tmps,aS P B R H (Instr.enterLoop c.fn tmps #[t] assign j9 c.ro) λ q R' H'=>R'=R∧∃ d Hm,H'=(q.1,.loop (vZ c.fn tmps t assign j9 d))::Hm∧K q R Hm)
  (h:∀ l mark d Hm tmps,de c.n st tmps→K (l,mark) R Hm→ab.J R ((l,.loop (vZ c.fn tmps t assign j9 d))::Hm) (bc (Frame.enter P iy (first++#[.func (.yield l) #[] #[]]++cap) .normal) (ba ⟨c.fn,c.kind,c.ro,c.n,mark++c.defers,c.cs⟩ tmps (.inRangeFunc l::k)::c.cs))) :
  At ab c R H st (.code (.rangeFunc x #[t] assign j9)::k):=by
 intro tmps ht
 refine ab.step rfl λ w hw=>?_
 obtain ⟨⟨l,mark⟩,w',R',H',h1,h2,h3,rfl,d,Hm,rfl,hK⟩:=QD tmps w hw
 have iZ:=ht.knows ⟨c.fn,c.kind,c.ro,c.n,mark++c.defers,c.cs⟩ (.inRangeFunc l::k)
 have hv:ai P (do let d ← resolve (ba ⟨c.fn,c.kind,c.ro,c.n,mark++c.defers,c.cs⟩ tmps (.inRangeFunc l::k)).eval { callee:=.value x,args:=#[.const (.func (.yield l) #[] #[])],argTypes:=#[] } 0; invoke d.target d.args) (.enter iy (first++#[.func (.yield l) #[] #[]]++cap)):=by
  obtain ⟨fn,e1,e2,e3⟩:=he.ex
  simp only [resolve,iZ x _ hx,Deferred.ofValue]
  refine ai.bR (a:=⟨.fn (.func iy) cap,first++#[.func (.yield l) #[] #[]]⟩) (by simpa [Frame.eval] using ai.bL _) ?_
  simp only [invoke]
  exact FW e1 e2 e3
 have hj:=h l mark d Hm tmps ht hK
 refine ⟨_,w',seen P c.fn ((Instr.enterLoop c.fn tmps #[t] assign j9 c.ro).events P w #[]),R',_,?_,λ e LC=>h2 e (mem_seen LC),h3,hj⟩
 have Mn:=hv w'
 simp only [ba] at Mn
 have dP:(c.kind == CallKind.early)=false:=hk
 simp [stepG,stepG.exec,stepG.apply,bc,ba,h1,Mn.1,Mn.2,GStep.after,dP,seen]
theorem At.agj{l:Nat}{r:Loop}{Hs T:ah}{pend:Option Code}(hb:(r.state == .busy)=false)(hp:r.pending=pend)(h:At ab c R (Hs++T) st ((pend.map Item.code).toList++k)):At ab c R (Hs++(l,.loop r)::T) st (.endRangeFunc l::k):=λ tmps ht=>by
 subst hp
 refine ab.step rfl λ w hw=>?_
 obtain ⟨v,w',R',H',h1,h2,h3,rfl,rfl,rfl⟩:=aPU (P:=P) hb w hw
 refine ⟨bc (ba c tmps ((r.pending.map Item.code).toList++k)) c.cs,w',seen P c.fn ((Instr.endLoop l).events P w #[]),R',_,?_,λ e he=>h2 e (mem_seen he),h3,J.drop ?_ (h tmps ht)⟩
 ·simp [stepG,stepG.exec,bc,ba,h1,GStep.after]
 ·exact (List.sublist_cons_self _ _).append_left _
theorem auM{tmps:Array Value}{l:Nat}{w:Value}:(ba c tmps (.inRangeFunc l::k)).finish w=ba c tmps (.endRangeFunc l::k):=rfl
theorem At.ak5{ρ:Type}{uu:(α→(S ⊕ O)→Option ((S ⊕ O) × Bool))→(S ⊕ O)→Option (S ⊕ O)}{cont:S ⊕ O→Option ρ}{s0:S}{rr:ρ}{x:Operand}{iy:FuncId}{first cap:Array Value}{H1:ah}
  (hM:(uu (gV body) (.inl s0)).bind cont=some rr) (hx:bn st x=some (.func (.func iy) first cap)) (he:bj P iy) (hk:(c.kind == CallKind.early)=false) (kT:c.ro=none) (hd:Nat.blt t c.n=true)
  (I:S→az→ah→ah→Prop) (E:O→az→ah→ah→Prop) (jc:O→Code) (vq:∀ s,Shape (I s)) (DV:∀ o,Shape (E o))
  (L3:∀ v Inv Hy z,mJ ab R A v (gV body) Inv→Inv (.inl s0) R Hy→uu (gV body) (.inl s0)=some z→bd ab iy (first++#[v]++cap) R Hy λ _ R' H'=>aR R R'∧Inv z R' H')
  (h0:I s0 R H H1)
  (ha:∀ r s R' H',aR R R'→I s R' ((r,.deferred (some []))::H) H'→cont (.inl s)=some rr→At ab ⟨c.fn,c.kind,none,c.n,⟨.collected r,#[]⟩::c.defers,c.cs⟩ R' H' st k)
  (hz:∀ r o R' H',aR R R'→E o R' ((r,.deferred (some []))::H) H'→cont (.inr o)=some rr→At ab ⟨c.fn,c.kind,none,c.n,⟨.collected r,#[]⟩::c.defers,c.cs⟩ R' H' st (.code (jc o)::k))
  (hb:aer I E jc ab c R H st A body t assign j9) :
  At ab c R H1 st (.code (.rangeFunc x #[t] assign j9)::k):=by
 obtain ⟨z,hm,hc⟩:=ag hM
 refine At.as0 hx he hk (K:=λ q R' Hm=>∃ r,q.2=[⟨.collected r,#[]⟩]∧Hm=(r,.deferred (some []))::H1) (λ tmps=>?_) ?_
 ·rw [kT]
  exact aPW.mono λ q R' H' ⟨h1,r,h2,h3⟩=>⟨h1,r,_,h3,r,h2,rfl⟩
 rintro l mark d Hm tmps ht ⟨r,Yz,rfl⟩
 have Yz:mark=[⟨.collected r,#[]⟩]:=Yz
 subst Yz
 obtain ⟨Hs,rfl,br⟩:=vq s0 _ _ _ h0
 have ax5:mJ ab R A (.func (.yield l) #[] #[]) (gV body) (RInv I E jc R l (vZ c.fn tmps t assign j9 d) ((r,.deferred (some []))::H)):=avH vq DV ht hd (List.sublist_cons_self _ _) hb
 refine J.perm (H':=Hs++(l,.loop (vZ c.fn tmps t assign j9 d))::(r,.deferred (some []))::H) ?_ ?_
 ·exact List.perm_middle.trans (List.Perm.cons _ List.perm_middle)
 refine L3 _ _ _ z ax5 ⟨aR.refl R,br R _ (aR.refl R)⟩ hm _ _ λ v R' H' hv=>?_
 rw [auM]
 obtain ⟨hR,hI⟩:=hv
 cases z with
 | inl s =>
  obtain ⟨_,hI⟩:=hI
  obtain ⟨cK,rfl,Eo⟩:=vq s _ _ _ hI
  rw [kT]
  exact At.agj (c:=⟨c.fn,c.kind,none,c.n,⟨.collected r,#[]⟩::c.defers,c.cs⟩) rfl rfl (ha r s R' _ hR (Eo R' _ (aR.refl R')) hc) tmps ht
 | inr o =>
  obtain ⟨_,hI⟩:=hI
  obtain ⟨cK,rfl,Eo⟩:=DV o _ _ _ hI
  rw [kT]
  exact At.agj (c:=⟨c.fn,c.kind,none,c.n,⟨.collected r,#[]⟩::c.defers,c.cs⟩) rfl rfl (hz r o R' _ hR (Eo R' _ (aR.refl R')) hc) tmps ht
theorem At.acA{ρ:Type}{body:α→S→Option (S ⊕ Empty)}(uu:(α→(S ⊕ Empty)→Option ((S ⊕ Empty) × Bool))→(S ⊕ Empty)→Option (S ⊕ Empty)){f:S→Option ρ}{g:Empty→Option ρ}{s0:S}{rr:ρ}{x:Operand}{iy:FuncId}{first cap:Array Value}{H1:ah}
  (hM:(uu (gV body) (.inl s0)).bind (Sum.elim f g)=some rr) (hx:bn st x=some (.func (.func iy) first cap)) (he:bj P iy) (hk:(c.kind == CallKind.early)=false) (kT:c.ro=none) (hd:Nat.blt t c.n=true)
  (I:S→az→ah→ah→Prop) (vq:∀ s,Shape (I s))
  (L3:∀ v Inv Hy z,mJ ab R A v (gV body) Inv→Inv (.inl s0) R Hy→uu (gV body) (.inl s0)=some z→bd ab iy (first++#[v]++cap) R Hy λ _ R' H'=>aR R R'∧Inv z R' H')
  (h0:I s0 R H H1)
  (ha:∀ r s R' H',aR R R'→I s R' ((r,.deferred (some []))::H) H'→f s=some rr→At ab ⟨c.fn,c.kind,none,c.n,⟨.collected r,#[]⟩::c.defers,c.cs⟩ R' H' st k)
  (hb:∀ (va:Value) (x:α) (s:S) (R':az) (T H':ah) (l:Nat) (ld:Loop) (cs:List Frame),aR R R'→List.Sublist H T→A R' x va→I s R' ((l,.loop ld)::T) H'→ld.state = .ready→∀ z,body x s=some z →
   (∀ s',z = .inl s'→∀ cY eG pb,aR R' cY→I s' cY ((l,.loop { ld with state:=.busy })::T) eG→At ab ⟨c.fn,.normal,some l,c.n,[],cs⟩ cY eG pb []) →
   At ab ⟨c.fn,.normal,some l,c.n,[],cs⟩ R' H' ((t,va)::st) [.code assign,.beginRound,.code j9]) :
  At ab c R H1 st (.code (.rangeFunc x #[t] assign j9)::k) :=
 At.ak5 (uu:=uu) hM hx he hk kT hd I (λ o=>o.elim) (λ o=>o.elim) vq (λ o=>o.elim) L3 h0 ha (λ _ o=>o.elim)
  (λ va x s z R' T H' l ld cs h1 h2 h3 h4 h5 h6 h7 _=>hb va x s R' T H' l ld cs h1 h2 h3 h4 h5 z h6 λ s' hz cY eG pb=>h7 s' cY eG pb hz)
theorem At.acB{ρ:Type}(uu:(α→(S ⊕ O)→Option ((S ⊕ O) × Bool))→(S ⊕ O)→Option (S ⊕ O)){f:S→Option ρ}{g:O→Option ρ}{s0:S}{rr:ρ}{x:Operand}{iy:FuncId}{first cap:Array Value}{H1:ah}(jc:Code)
  (hM:(uu (gV body) (.inl s0)).bind (Sum.elim f g)=some rr) (hx:bn st x=some (.func (.func iy) first cap)) (he:bj P iy) (hk:(c.kind == CallKind.early)=false) (kT:c.ro=none) (hd:Nat.blt t c.n=true)
  (I:S→az→ah→ah→Prop) (E:O→az→ah→ah→Prop) (vq:∀ s,Shape (I s)) (DV:∀ s,Shape (E s))
  (L3:∀ v Inv Hy z,mJ ab R A v (gV body) Inv→Inv (.inl s0) R Hy→uu (gV body) (.inl s0)=some z→bd ab iy (first++#[v]++cap) R Hy λ _ R' H'=>aR R R'∧Inv z R' H')
  (h0:I s0 R H H1)
  (ha:∀ r s R' H',aR R R'→I s R' ((r,.deferred (some []))::H) H'→f s=some rr→At ab ⟨c.fn,c.kind,none,c.n,⟨.collected r,#[]⟩::c.defers,c.cs⟩ R' H' st k)
  (hz:∀ r o R' H',aR R R'→E o R' ((r,.deferred (some []))::H) H'→g o=some rr→At ab ⟨c.fn,c.kind,none,c.n,⟨.collected r,#[]⟩::c.defers,c.cs⟩ R' H' st (.code jc::k))
  (hb:∀ (va:Value) (x:α) (s:S) (R':az) (T H':ah) (l:Nat) (ld:Loop) (cs:List Frame),aR R R'→List.Sublist H T→A R' x va→I s R' ((l,.loop ld)::T) H'→ld.state = .ready→∀ z,body x s=some z →
   (∀ s',z = .inl s'→∀ cY eG pb,aR R' cY→I s' cY ((l,.loop { ld with state:=.busy })::T) eG→At ab ⟨c.fn,.normal,some l,c.n,[],cs⟩ cY eG pb []) →
   (∀ o,z = .inr o→∀ cY eG pb B9,aR R' cY→E o cY ((l,.loop { ld with state:=.busy })::T) eG→Leaves (.code jc::B9) (some jc)→At ab ⟨c.fn,.normal,some l,c.n,[],cs⟩ cY eG pb (.code jc::B9)) →
   At ab ⟨c.fn,.normal,some l,c.n,[],cs⟩ R' H' ((t,va)::st) [.code assign,.beginRound,.code j9]) :
  At ab c R H1 st (.code (.rangeFunc x #[t] assign j9)::k) :=
 At.ak5 (uu:=uu) hM hx he hk kT hd I E (λ _=>jc) vq DV L3 h0 ha hz
  (λ va x s z R' T H' l ld cs h1 h2 h3 h4 h5 h6 h7 h8=>hb va x s R' T H' l ld cs h1 h2 h3 h4 h5 z h6 (λ s' hz cY eG pb=>h7 s' cY eG pb hz) (λ o hz cY eG pb B9=>h8 o cY eG pb B9 hz))
theorem aPY{r:Nat}{H':ah}(hs:fF H r (.deferred (some [])) (.deferred none) H'):aS P B R H (Instr.takeDeferred r) λ v cY eG=>v=[]∧cY=R∧eG=H':=by
 unfold Instr.takeDeferred
 exact aS.dK (aS.getObj rfl (.inr hs.mem) (aS.dK (aS.setObj rfl rfl hs (aS.eB ⟨rfl,rfl,rfl⟩))))
theorem aPu{fr:Frame}{cs:List Frame}{f:FuncId}{n r:Nat}{H':ah}{tmps:Array Value}{todo:List Item}(hs:fF H r (.deferred (some [])) (.deferred none) H')
  (h:ab.J R H' (bc { (ba ⟨f,.normal,none,n,[],fr::cs⟩ tmps todo) with mode:=.returning } (fr::cs))) :
  ab.J R H (bc { (ba ⟨f,.normal,none,n,[⟨.collected r,#[]⟩],fr::cs⟩ tmps todo) with mode:=.returning } (fr::cs)):=by
 refine ab.step rfl λ w hw=>?_
 obtain ⟨v,w',R',H',h1,h2,h3,rfl,rfl,rfl⟩:=aPY (P:=P) hs w hw
 refine ⟨_,w',seen P f ((Instr.takeDeferred r).events P w #[]),R',_,?_,λ e he=>h2 e (mem_seen he),h3,h⟩
 simp [stepG,unwind,bc,ba,h1,GStep.after]
theorem aPt{fr:Frame}{cs:List Frame}{f:FuncId}{n:Nat}{fn:Func}{vs:List Value}{tmps:Array Value}{todo:List Item}(hf:P.funcs[f]? = some fn)(ht:de n st tmps)(hr:qb P R H st fn.results.toList vs)(hj:ab.J R H (bc (fr.finish (iO vs)) cs)) :
  ab.J R H (bc { (ba ⟨f,.normal,none,n,[],fr::cs⟩ tmps todo) with mode:=.returning } (fr::cs)):=by
 refine ab.step rfl λ w hw=>?_
 obtain ⟨v,w',R',H',h1,h2,h3,rfl,rfl,rfl⟩:=S1 (P:=P) ht hr w hw
 refine ⟨bc (fr.finish (iO vs)) cs,w',seen P f ((results fn tmps).events P w #[]),R',H',?_,λ e he=>h2 e (mem_seen he),h3,hj⟩
 simp [stepG,unwind,doReturn,bc,ba,hf,h1,GStep.after]
theorem At.Aq{fr:Frame}{cs:List Frame}{f:FuncId}{n r:Nat}{H':ah}{fn:Func}{vs:List Value}(hs:fF H r (.deferred (some [])) (.deferred none) H')(hf:P.funcs[f]? = some fn)(hr:qb P R H' st fn.results.toList vs)(hj:ab.J R H' (bc (fr.finish (iO vs)) cs)) :
  At ab ⟨f,.normal,none,n,[⟨.collected r,#[]⟩],fr::cs⟩ R H st (.code .ret::k):=λ tmps ht=>by
 refine Jd.ctl (g':=bc { (ba ⟨f,.normal,none,n,[⟨.collected r,#[]⟩],fr::cs⟩ tmps (.code .ret::k)) with mode:=.returning } (fr::cs)) rfl (λ w=>by simp [stepG,stepG.exec,bc,ba]) ?_
 exact aPu hs (aPt hf ht hr hj)
end
theorem bd.hole{f:FuncId}{args:Array Value}{G:ah→ah}{Hs:ah}(hG:lW G){Q:Value→az→ah→Prop}(h:bd ab f args R (Hs++G []) λ v R' H'=>∃ cK,Q v R' cK∧H'=cK++G []) :
  bd ab f args R (G Hs) λ v R' H'=>∃ cK,Q v R' cK∧H'=G cK:=by
 obtain ⟨A,D,hG⟩:=hG
 have key:∀ X:ah,List.Perm (X++G []) (G X):=λ X=>by
  rw [hG,hG,List.nil_append,← List.append_assoc,← List.append_assoc]
  exact List.perm_append_comm.append_right D
 intro fr cs hk
 refine J.perm (key Hs) (h fr cs λ v R' H' hv=>?_)
 obtain ⟨cK,hq,rfl⟩:=hv
 exact J.perm (key cK).symm (hk v R' _ ⟨cK,hq,rfl⟩)
theorem Ox.xu{x y:Operand}{t u e:TypeId}{o:Oper}{C:az→ah→St→Prop}{A:Option Addr}{n cap:Nat}{b:Bool}{st':St}(au:o.op = .binOp .eql t x y u)(hx:bn st x=some (.slice A n cap))(hy:bn st y=some (.slice none 0 0))(ht:P.underlying t=some (.slice e))(hb:A.isNone=b)
  (hd:cB o.dst c.n) (hs:ay (cE o.dst (.bool b) st) st') (h:C R H st'):bf P B c o R H st C :=
 Ox.mG (s:=λ ρ=>do eqGuard .eql t x y (ρ x) (ρ y); binOp .eql t (ρ x) (ρ y)) (by rw [au]; rfl) hd (λ ρ=>by simp only [execOp,au]) (λ ρ bl=>by
  rw [bl x _ hx,bl y _ hy]
  refine ai.bR (a:=()) (ai.bL _) ?_
  simp only [binOp]
  refine ai.bR (a:=b) ?_ (ai.bL _)
  unfold Op.equal Op.maxDepth Op.equalIn
  refine ai.bR (ai.underlying ht) ?_
  cases A with
  | none=>subst hb; exact ai.bL _
  | some a=>subst hb; exact ai.bL _) hs h
theorem da.NL{α:Type}{K:cM α}{k:Nat}{v:Value}{xs:List α}(h:da K k R H v xs):(∃ cap,v = .slice none 0 cap∧xs=[])∨∃ a n cap,v = .slice (some a) n cap:=by
 obtain ⟨A,cap,es,rfl,h2,h3,h4⟩:=h
 cases A with
 | some a=>exact .inr ⟨a,_,cap,rfl⟩
 | none =>
  cases xs with
  | nil=>exact .inl ⟨cap,rfl,rfl⟩
  | cons x xs =>
   obtain ⟨b,o,g,_⟩:=h4 (by simp)
   cases g
theorem Ox.EL{x y:Operand}{t e len:Nat}{cs:Array Value}{v:Value}{kd:IntKind}{i:Int}{o:Oper}{C:az→ah→St→Prop}{st':St}(au:o.op = .index t x y)(hx:bn st x=some (.agg cs))(hy:bn st y=some (.int kd i))(ht:xd P t len e 1)(he:ai P (isAgg e) false)(hi:0≤i∧i < len)(hv:cs[i.toNat * 1]? = some v)
  (hd:cB o.dst c.n) (hs:ay (cE o.dst v st) st') (h:C R H st'):bf P B c o R H st C :=
 Ox.mG (s:=λ ρ=>Instr.index t (ρ x) (ρ y)) (by rw [au]; rfl) hd (λ ρ=>by simp only [execOp,au]) (λ ρ bl=>by
  rw [bl x _ hx,bl y _ hy]
  unfold Instr.index
  refine ai.bR (a:=(kd,i)) (ai.bL _) (ai.bR (ai.underlying ht.1) ?_)
  simp only [hi,and_self,if_true]
  refine ai.bR ht.2 ?_
  unfold part
  refine ai.bR he ?_
  simp only [hv]
  exact ai.bL _) hs h
theorem At.rh{todo:List Item}{b:Nat}{cs:Array Value}{e:TypeId}{fz:Nat × Nat}(G:ah→ah)(hG:lW G){H2:ah}(h2:G []=H2)(h:∀ R',aR R R'→aU R' [] b 0 cs.toList→At ab c R' H2 st todo):At ab c R (G [(b,.cells cs e fz)]) st todo:=by
 obtain ⟨A,D,hG⟩:=hG
 refine At.perm (H':=(b,.cells cs e fz)::(A++D)) ?_ (At.freeze λ R' hR hb=>?_)
 ·rw [hG]; exact List.perm_middle.symm
 ·have e2:A++D=H2:=by rw [← h2,hG]; rfl
  rw [e2]
  exact h R' hR (aU.known (n:=cs.toList.length) hb (by rw [List.drop_zero,List.take_length]))
def Dt(ab:Jd P B main)(R:az){α S:Type}(A:oE α)(v:Value)(q:(α→S→Option (S × Bool))→S→Option S):Prop :=
 ∃ iy first cap,v = .func (.func iy) first cap∧bj P iy∧∀ R',aR R R'→∀ (w:Value) (y:α→S→Option (S × Bool)) (Inv:S→az→ah→Prop) (Hy:ah) (s z:S),mJ ab R' A w y Inv→Inv s R' Hy→q y s=some z →
  bd ab iy (first++#[w]++cap) R' Hy λ _ cY H'=>aR R' cY∧Inv z cY H'
theorem Dt.mono{R':az}{α S:Type}{A:oE α}{v:Value}{q:(α→S→Option (S × Bool))→S→Option S}(h:Dt ab R A v q)(hR:aR R R'):Dt ab R' A v q:=by
 obtain ⟨iy,first,cap,h1,h2,h3⟩:=h
 exact ⟨iy,first,cap,h1,h2,λ cY K0=>h3 cY (hR.trans K0)⟩
theorem mJ.frame{α S:Type}{A:oE α}{v:Value}{y:α→S→Option (S × Bool)}{Inv:S→az→ah→Prop}(h:mJ ab R A v y Inv)(Hf:ah):mJ ab R A v y λ s R' H'=>∃ Hy,Inv s R' Hy∧H'=Hf++Hy where
 fn:=h.fn
 mono:=λ h1 h2 ⟨Hy,hi,e⟩=>⟨Hy,h.mono h1 h2 hi,e⟩
 call:=by
  intro H2 R' Hy s x va z hR hI hA hy
  obtain ⟨Hy,hI,rfl⟩:=hI
  have:=h.call (H2++Hf) hR hI hA hy
  rw [List.append_assoc] at this
  refine this.mono λ w cY eG ⟨h1,h2,Bi,h3,h4⟩=>⟨h1,h2,Hf++Bi,⟨Bi,h3,rfl⟩,by rw [h4,List.append_assoc]⟩
theorem Ox.nilCheck{x:Operand}{a:Addr}{o:Oper}{C:az→ah→St→Prop}{st':St}(au:o.op = .nilCheck x)(hx:bn st x=some (.pointer (some a)))(hd:cB o.dst c.n)
  (hs:ay (cE o.dst (.pointer (some a)) st) st') (h:C R H st'):bf P B c o R H st C :=
 Ox.val (by rw [au]; rfl) hd (λ ρ bl=>by simp only [execOp,au,bl x _ hx]; exact ai.bL _) hs h
def many(a:ah):List (Nat × ah)→Nat→ah
 | [],_=>a
 | (q,l)::r,j=>if j=q then l else many a r j
section
variable {a N:ah} {ex:List (Nat × ah)} {rem D:List Nat} {i q:Nat} {l H':ah}
theorem bK(ha:∀ p∈N,p∈a):∀ j∈rem,j≠i→j ∉ D→∀ p∈N,p∈many a [] j:=λ _ _ _ _ p hp=>ha p hp
theorem aT(hd:(D.contains q || q == i || !rem.contains q)=true)(h:∀ j∈rem,j≠i→j ∉ D→∀ p∈N,p∈many a ex j):∀ j∈rem,j≠i→j ∉ D→∀ p∈N,p∈many a ((q,l)::ex) j:=by
 intro j hj gR sA p hp
 unfold many
 split
 ·subst_vars
  simp only [Bool.or_eq_true,Bool.not_eq_true',List.contains_iff_mem,beq_iff_eq] at hd
  rcases hd with (x | x) | x
  ·exact absurd x sA
  ·exact absurd x gR
  ·have:rem.contains j=true:=List.contains_iff_mem.2 hj
   rw [this] at x; cases x
 ·exact h j hj gR sA p hp
theorem aj6(hl:∀ p∈N,p∈l)(h:∀ j∈rem,j≠i→j ∉ D→∀ p∈N,p∈many a ex j):∀ j∈rem,j≠i→j ∉ D→∀ p∈N,p∈many a ((q,l)::ex) j:=by
 intro j hj gR sA p hp
 unfold many
 split
 ·exact hl p hp
 ·exact h j hj gR sA p hp
theorem dH(he:many a ex i=l)(h:∀ p∈l,p∈H'):∀ p∈many a ex i,p∈H→p∈H':=by
 rw [he]; exact λ p hp _=>h p hp
end
end
def gw(p:Int):Value:=.int .i64 p
theorem RD{p p':Int}(h:gw p=gw p'):p=p':=by
 simpa [gw] using h
def uL(m:Int→Int)(p z:Int):Int→Int:=λ a=>if a=p then z else m a
structure Bf (es:List MapEntry) (m:Int→Int) (clock:Nat):Prop where
 PR:∀ e∈es,∃ p,e.key=gw p∧e.val = .int .i64 (m p)
 zero:∀ p,(∀ e∈es,e.key≠gw p)→m p=0
 keys:∀ (i j:Nat) (a b:MapEntry),es[i]? = some a→es[j]? = some b→a.key=b.key→i=j
 old:∀ e∈es,e.born < clock
 afj:∀ (i j:Nat) (a b:MapEntry),es[i]? = some a→es[j]? = some b→a.born=b.born→i=j
def Dn(v:Value)(m:Int→Int)(Hs:ah):Prop:=∃ b es clock,v = .map (some b)∧Hs=[(b,.map es clock)]∧Bf es.toList m clock
structure Pa (P:Program) (t kt et:TypeId):Prop where
 ty:P.underlying t=some (.map kt et)
 key:P.underlying kt=some (.int .i64)
 gl:∀ (e:Bool) (a:Int),ai P (Instr.checkKey e 10000 kt (gw a)) ()
 zero:ai P (zeroValue et) (.int .i64 0)
section
variable {P:Program} {B:Base} {main:Bool} {ab:Jd P B main} {c:Ctx} {R:az} {H:ah} {st st':St} {o:Oper} {C:az→ah→St→Prop}
def anz(es:List MapEntry)(p:Int)(r:Option (Nat × Value)):Prop :=
 (r=none∧∀ e∈es,e.key≠gw p)∨∃ (i:Nat) (e:MapEntry),es[i]? = some e∧e.key=gw p∧r=some (i,e.val)
theorem aht(p:Int):∀ (es:List MapEntry) (i:Nat),(∀ e∈es,∃ p,e.key=gw p)→∃ r,Instr.findNow (.int .i64) (gw p) es i=some r∧((r=none∧∀ e∈es,e.key≠gw p)∨∃ (j:Nat) (e:MapEntry),es[j]? = some e∧e.key=gw p∧r=some (i+j,e.val))
 | [],i,h=>⟨none,rfl,.inl ⟨rfl,λ e he=>(by cases he)⟩⟩
 | e::es,i,h=>by
  obtain ⟨p',hk⟩:=h e (by simp)
  by_cases heq:p=p'
  ·subst heq
   refine ⟨some (i,e.val),?_,.inr ⟨0,e,rfl,hk,rfl⟩⟩
   unfold Instr.findNow
   rw [hk]
   simp [gw,Instr.sameNow]
  ·obtain ⟨r,hr,hc⟩:=aht p es (i+1) (λ e he=>h e (by simp [he]))
   refine ⟨r,?_,?_⟩
   ·unfold Instr.findNow
    rw [hk]
    simp only [gw] at hr ⊢
    have hb:(p == p')=false:=by simpa using heq
    simp [Instr.sameNow,hb,hr]
   ·rcases hc with ⟨rfl,hc⟩ | ⟨j,e',h1,h2,rfl⟩
    ·refine .inl ⟨rfl,λ x hx=>?_⟩
     rcases fR.1 hx with rfl | hx
     ·intro e2
      exact heq (RD (hk.symm.trans e2)).symm
     ·exact hc x hx
    ·exact .inr ⟨j+1,e',by simpa using h1,h2,by simp; omega⟩
theorem alU{t kt et:TypeId}(ht:Pa P t kt et)(p:Int){es:List MapEntry}{m:Int→Int}{cl:Nat}(h:Bf es m cl):∃ r,ai P (Instr.findKey kt (gw p) es) r∧anz es p r:=by
 obtain ⟨r,hr,hc⟩:=aht p es 0 (λ e he=>let ⟨p,hk,_⟩:=h.PR e he; ⟨p,hk⟩)
 refine ⟨r,?_,?_⟩
 ·unfold Instr.findKey
  refine ai.bR (ai.underlying ht.key) ?_
  rw [hr]
  exact ai.bL _
 ·rcases hc with hc | ⟨j,e',h1,h2,h3⟩
  ·exact .inl hc
  ·exact .inr ⟨j,e',h1,h2,by simpa using h3⟩
theorem Ox.aNF{t:TypeId}(au:o.op = .makeMap t none)(hd:cB o.dst c.n)
  (hC:∀ v Hs,Dn v (λ _=>0) Hs→∃ st',ay (cE o.dst v st) st'∧C R (Hs++H) st'):bf P B c o R H st C :=
 Ox.mem (s:=λ ρ=>Instr.makeMap t none) (by rw [au]; rfl) hd (λ ρ=>by simp only [execOp,au]; rfl) (λ ρ bl=>by
  unfold Instr.makeMap
  refine aS.dK (aS.new λ b _ _=>aS.eB ?_)
  exact hC (.map (some b)) [(b,.map #[] 0)] ⟨b,#[],0,rfl,rfl,⟨λ e he=>(by cases he),λ _ _=>rfl,λ i j a b ha=>(by simp at ha),λ e he=>(by cases he),λ i j a b ha=>(by simp at ha)⟩⟩)
theorem Ox.ajb{x y:Operand}{t kt et:TypeId}{v:Value}{m:Int→Int}{p:Int}{Hs:ah}(au:o.op = .lookup t x y false)(hx:bn st x=some v)(hy:bn st y=some (gw p))(ht:Pa P t kt et)(hm:Dn v m Hs)(hH:∀ q∈Hs,q∈H)
  (hd:cB o.dst c.n) (hs:ay (cE o.dst (.int .i64 (m p)) st) st') (h:C R H st'):bf P B c o R H st C :=
 Ox.mem (s:=λ ρ=>Instr.lookup t (ρ x) (ρ y) false) (by rw [au]; rfl) hd (λ ρ=>by simp only [execOp,au]) (λ ρ bl=>by
  rw [bl x _ hx,bl y _ hy]
  unfold Instr.lookup
  refine ai.fv (ai.underlying ht.ty) ?_
  obtain ⟨b,es,cl,rfl,rfl,he⟩:=hm
  refine aS.dK (aS.getObj rfl (.inr (hH (b,.map es cl) (by simp))) ?_)
  refine aS.dK (aS.eB ?_)
  obtain ⟨r,hr,hf⟩:=alU ht p he
  refine ai.fv (ht.gl _ p) (ai.fv hr ?_)
  rcases hf with ⟨rfl,hn⟩ | ⟨i,e,h1,h2,rfl⟩
  ·refine ai.fv ht.zero (aS.dK (aS.eB (aS.eB ?_)))
   rw [he.zero p hn] at hs
   exact ⟨st',hs,h⟩
  ·obtain ⟨p',hk,hv⟩:=he.PR e (List.mem_of_getElem? h1)
   obtain rfl:=RD (hk.symm.trans h2)
   rw [hv]
   exact aS.dK (aS.eB (aS.eB ⟨st',hs,h⟩)))
theorem aPS(p:Int):Instr.sameBits 10000 (gw p) (gw p)=true:=by
 simp [Instr.sameBits,gw]
theorem Bf.push{es:Array MapEntry}{m:Int→Int}{cl:Nat}{p z:Int}(h:Bf es.toList m cl)(hn:∀ e∈es.toList,e.key≠gw p) :
  Bf (es.push { key:=gw p,val:=.int .i64 z,born:=cl }).toList (uL m p z) (cl+1):=by
 rw [Array.toList_push]
 refine ⟨λ e he=>?_,λ p' cU=>?_,λ i j a b ha hb bN=>?_,λ e he=>?_,λ i j a b ha hb bN=>?_⟩
 ·rcases List.mem_append.1 he with he | he
  ·obtain ⟨p',h1,h2⟩:=h.PR e he
   refine ⟨p',h1,?_⟩
   unfold uL
   rw [if_neg (λ e2=>hn e he (by rw [h1,e2])),h2]
  ·rcases List.mem_singleton.1 he with rfl
   exact ⟨p,rfl,by simp [uL]⟩
 ·have h1:=h.zero p' λ e he=>cU e (List.mem_append.2 (.inl he))
  unfold uL
  rw [if_neg,h1]
  rintro rfl
  exact cU { key:=gw p',val:=.int .i64 z,born:=cl } (List.mem_append.2 (.inr (by simp))) rfl
 ·rw [List.getElem?_append] at ha hb
  split at ha <;> split at hb
  ·exact h.keys i j a b ha hb bN
  ·have:b={ key:=gw p,val:=.int .i64 z,born:=cl }:=by
    have:=List.mem_of_getElem? hb; simpa using this
   subst this
   exact absurd bN (hn a (List.mem_of_getElem? ha))
  ·have:a={ key:=gw p,val:=.int .i64 z,born:=cl }:=by
    have:=List.mem_of_getElem? ha; simpa using this
   subst this
   exact absurd bN.symm (hn b (List.mem_of_getElem? hb))
  ·have h1:=(iF.1 ha).1
   have h2:=(iF.1 hb).1
   simp only [List.length_singleton,Array.length_toList] at *
   omega
 ·rcases List.mem_append.1 he with he | he
  ·have:=h.old e he; omega
  ·rcases List.mem_singleton.1 he with rfl
   exact Nat.lt_succ_self _
 ·rw [List.getElem?_append] at ha hb
  split at ha <;> split at hb
  ·exact h.afj i j a b ha hb bN
  ·have:b={ key:=gw p,val:=.int .i64 z,born:=cl }:=by
    have:=List.mem_of_getElem? hb; simpa using this
   subst this
   have:=h.old a (List.mem_of_getElem? ha)
   simp only at bN
   omega
  ·have:a={ key:=gw p,val:=.int .i64 z,born:=cl }:=by
    have:=List.mem_of_getElem? ha; simpa using this
   subst this
   have:=h.old b (List.mem_of_getElem? hb)
   simp only at bN
   omega
  ·have h1:=(iF.1 ha).1
   have h2:=(iF.1 hb).1
   simp only [List.length_singleton,Array.length_toList] at *
   omega
theorem KT{α:Type}{a:Array α}{j:Nat}{x:α}(h:a.toList[j]? = some x):a[j]? = some x:=by rwa [Array.getElem?_toList] at h
theorem Bf.uK{es:Array MapEntry}{m:Int→Int}{cl i:Nat}{p z:Int}{e:MapEntry}(he:Bf es.toList m cl)(hi:es[i]? = some e)(hk:e.key=gw p) :
  Bf (es.modify i λ e=>{ e with key:=gw p,val:=.int .i64 z }).toList (uL m p z) cl:=by
 have vy:∀ j a,(es.modify i λ e=>{ e with key:=gw p,val:=.int .i64 z })[j]? = some a→∃ a0,es[j]? = some a0∧a.key=a0.key∧a.born=a0.born∧a.val=if i=j then .int .i64 z else a0.val:=by
  intro j a ha
  rw [Array.getElem?_modify] at ha
  by_cases hj:i=j
  ·subst hj
   rw [hi] at ha
   simp only [if_true,Option.map_some,jl] at ha
   subst ha
   exact ⟨e,hi,hk.symm,rfl,by simp⟩
  ·simp only [hj,if_false] at ha
   exact ⟨a,ha,rfl,rfl,by simp [hj]⟩
 have nD:∀ a∈(es.modify i λ e=>{ e with key:=gw p,val:=.int .i64 z }).toList,∃ j,(es.modify i λ e=>{ e with key:=gw p,val:=.int .i64 z })[j]? = some a:=λ a ha=>by
  obtain ⟨j,hj⟩:=List.mem_iff_getElem?.1 ha
  exact ⟨j,KT hj⟩
 refine ⟨λ a ha=>?_,λ p' cU=>?_,λ j k a b' ha hb bN=>?_,λ a ha=>?_,λ j k a b' ha hb bN=>?_⟩
 ·obtain ⟨j,hj⟩:=nD a ha
  obtain ⟨a0,h1,h2,h3,h4⟩:=vy j a hj
  obtain ⟨p',dP,Mn⟩:=he.PR a0 (by rw [← Array.mem_def]; exact Array.mem_of_getElem? h1)
  refine ⟨p',h2.trans dP,?_⟩
  rw [h4]
  by_cases fY:i=j
  ·subst fY
   rw [hi] at h1; cases h1
   obtain rfl:=RD (hk.symm.trans dP)
   simp [uL]
  ·rw [if_neg fY,Mn]
   unfold uL
   rw [if_neg]
   rintro rfl
   exact fY (he.keys i j e a0 (by simpa using hi) (by simpa using h1) (hk.trans dP.symm))
 ·unfold uL
  by_cases YM:p'=p
  ·subst YM
   exfalso
   obtain ⟨bS,tV⟩:=Array.getElem?_eq_some_iff.1 hi
   refine cU { e with key:=gw p',val:=.int .i64 z } ?_ rfl
   rw [← Array.mem_def]
   exact Array.mem_of_getElem? (i:=i) (by rw [Array.getElem?_modify]; simp [hi])
  ·rw [if_neg YM]
   refine he.zero p' λ a ha=>?_
   obtain ⟨j,hj⟩:=List.mem_iff_getElem?.1 ha
   have BO:es[j]? = some a:=by simpa using hj
   by_cases fY:i=j
   ·subst fY
    rw [hi] at BO; cases BO
    intro e2
    exact YM (RD (hk.symm.trans e2)).symm
   ·exact cU a (by rw [← Array.mem_def]; exact Array.mem_of_getElem? (i:=j) (by rw [Array.getElem?_modify]; simp [fY,BO]))
 ·obtain ⟨a0,h1,h2,_⟩:=vy j a (KT ha)
  obtain ⟨b0,k1,k2,_⟩:=vy k b' (KT hb)
  exact he.keys j k a0 b0 (by simpa using h1) (by simpa using k1) (h2.symm.trans (bN.trans k2))
 ·obtain ⟨j,hj⟩:=nD a ha
  obtain ⟨a0,h1,h2,h3,h4⟩:=vy j a hj
  rw [h3]
  exact he.old a0 (by rw [← Array.mem_def]; exact Array.mem_of_getElem? h1)
 ·obtain ⟨a0,h1,_,h3,_⟩:=vy j a (KT ha)
  obtain ⟨b0,k1,_,k3,_⟩:=vy k b' (KT hb)
  exact he.afj j k a0 b0 (by simpa using h1) (by simpa using k1) (h3.symm.trans (bN.trans k3))
theorem Ox.aNH{x y u:Operand}{t kt et:TypeId}{v:Value}{m:Int→Int}{p z:Int}{Hs:ah}(G:ah→ah)(au:o.op = .mapUpdate t x y u)(hx:bn st x=some v)(hy:bn st y=some (gw p))(hz:bn st u=some (.int .i64 z))(ht:Pa P t kt et)(hG:lW G)(hm:Dn v m Hs)
  (hd:o.dst=none) (dc:ay st st') (hC:∀ cK,Dn v (uL m p z) cK→C R (G cK) st'):bf P B c o R (G Hs) st C :=
 Ox.Se (s:=λ ρ=>Instr.mapUpdate t (ρ x) (ρ y) (ρ u)) (by rw [au]; rfl) hd (λ ρ=>by simp only [execOp,au]) dc (λ ρ bl=>by
  rw [bl x _ hx,bl y _ hy,bl u _ hz]
  unfold Instr.mapUpdate
  refine ai.fv (ai.underlying ht.ty) ?_
  obtain ⟨b,es,cl,rfl,rfl,he⟩:=hm
  refine aS.dK (aS.getObj rfl (.inr (hG.set (o':=.map es cl)).mem) ?_)
  obtain ⟨r,hr,hf⟩:=alU ht p he
  refine ai.fv (ht.gl _ p) (ai.fv hr ?_)
  rcases hf with ⟨rfl,hn⟩ | ⟨i,e,h1,h2,rfl⟩
  ·exact aS.setObj rfl rfl hG.set (hC _ ⟨b,_,_,rfl,rfl,he.push hn⟩)
  ·have Hh:es[i]? = some e:=by simpa using h1
   have dc:ai P (Instr.keyThatStays (((es[i]?).map (·.key)).getD (gw p)) (gw p)) (gw p):=by
    rw [Hh]
    simp only [Option.map_some,nm,h2,Instr.keyThatStays,aPS,if_true]
    exact ai.bL _
   exact ai.fv dc (aS.setObj rfl rfl hG.set (hC _ ⟨b,_,_,rfl,rfl,he.uK Hh h2⟩)))
end
def iB{α:Type}(m:Nat)(xs:List α)(i:Int):Option (List α):=if 0≤i∧i.toNat * m+m≤xs.length then some ((xs.drop (i.toNat * m)).take m) else none
def qL{α:Type}(m:Nat)(xs:List α)(i k:Int)(x:α):List α:=xs.set (i.toNat * m+k.toNat) x
def C4{α:Type}(m:Nat)(xs:List α)(i:Int)(r:List α):List α:=xs.take (i.toNat * m)++(r++xs.drop (i.toNat * m+m))
section
variable {α:Type} {m n:Nat} {xs r g:List α} {i k:Int} {x y:α}
theorem Au(h:iB m xs i=some r):0≤i∧i.toNat * m+m≤xs.length∧r=(xs.drop (i.toNat * m)).take m:=by
 unfold iB at h
 split at h
 ·rename_i hc; cases h; exact ⟨hc.1,hc.2,rfl⟩
 ·cases h
theorem pP(h:iB m xs i=some r):r.length=m:=by
 obtain ⟨_,h2,rfl⟩:=Au h
 simp only [jP,List.length_drop]
 omega
theorem Ja(h:xs.length=n):(qL m xs i k x).length=n:=by simpa [qL] using h
theorem aPZ(h:iB m xs i=some r)(hx:xs.length=n)(hg:g.length=m):(C4 m xs i g).length=n:=by
 obtain ⟨_,h2,_⟩:=Au h
 simp only [C4,kO,jP,List.length_drop]
 omega
theorem yh{P:Program}{t e len K b o:Nat}(ht:xd P t len e K)(hl:xs.length=len * m)(hm:0 < m)(h:iB m xs i=some r):y7 P t (.pointer (some ⟨b,o,none⟩)) i b (o+i.toNat * K):=by
 obtain ⟨h1,h2,_⟩:=Au h
 refine aiO ht ⟨h1,?_⟩
 rw [hl] at h2
 have h3:(i.toNat+1) * m≤len * m:=by rw [Nat.add_mul]; omega
 have:=Nat.le_of_mul_le_mul_right h3 hm
 omega
theorem aPO{pre post:List Value}{f:α→Value}{p:Nat}(h:iB m xs i=some r)(hp:pre.length=p):∃ a c,pre++(xs.map f++post)=a++(r.map f++c)∧a.length=p+i.toNat * m:=by
 obtain ⟨_,h2,rfl⟩:=Au h
 refine ⟨pre++(xs.take (i.toNat * m)).map f,(xs.drop (i.toNat * m+m)).map f++post,?_,by simp [hp]; omega⟩
 have e:xs=xs.take (i.toNat * m)++((xs.drop (i.toNat * m)).take m++xs.drop (i.toNat * m+m)):=by
  rw [← List.drop_drop,List.take_append_drop,List.take_append_drop]
 conv=>lhs; rw [e]
 simp
theorem aU.row{R:az}{H:ah}{b o p:Nat}{f:α→Value}{pre post:List Value}(hc:aU R H b o (pre++(xs.map f++post)))(h:iB m xs i=some r)(hp:pre.length=p):aU R H b (o+p+i.toNat * m) ([]++(r.map f++[])):=by
 obtain ⟨a,c,e,ha⟩:=aPO (post:=post) (f:=f) h hp
 rw [e] at hc
 have:=hc.part (j:=a.length) (n:=(r.map f).length) (aQF rfl rfl)
 rw [ha] at this
 simpa [Nat.add_assoc] using this
theorem Vg{pre post:List Value}{f:α→Value}{p:Nat}(h:iB m xs i=some r)(hk:idx r k=some y)(hp:pre.length=p):Nat.blt (p+i.toNat * m+k.toNat * 1) ((pre++(xs.map f++post)).toArray).size=true:=by
 obtain ⟨_,h2,_⟩:=Au h
 obtain ⟨_,h4,h5⟩:=vS hk
 have:=pP h
 have:=(iF.1 h5).1
 rw [Nat.blt_eq]
 simp
 omega
theorem Vi{pre post:List Value}{f:α→Value}{p:Nat}(h:iB m xs i=some r)(hk:idx r k=some y)(hp:pre.length=p):((pre++(xs.map f++post)).toArray).setIfInBounds (p+i.toNat * m+k.toNat * 1) (f x)=(pre++((qL m xs i k x).map f++post)).toArray:=by
 obtain ⟨_,h2,_⟩:=Au h
 obtain ⟨_,h4,h5⟩:=vS hk
 have:=pP h
 have:=(iF.1 h5).1
 subst hp
 unfold qL
 simp only [Nat.mul_one,List.setIfInBounds_toArray,List.map_set]
 congr 1
 rw [List.set_append_right _ _ (by omega),show pre.length+i.toNat * m+k.toNat - pre.length=i.toNat * m+k.toNat by omega,List.set_append_left _ _ (by simp; omega)]
theorem aPM{pre post:List Value}{f:α→Value}{p:Nat}(h:iB m xs i=some r)(hp:pre.length=p):Nat.ble (p+i.toNat * m+m) ((pre++(xs.map f++post)).toArray).size=true:=by
 obtain ⟨_,h2,_⟩:=Au h
 rw [Nat.ble_eq]
 simp
 omega
theorem aO3{a c vs ws:List Value}{cs:Array Value}{off:Nat}(pF:cs=(a++(vs++c)).toArray)(ha:a.length=off)(hl:ws.length=vs.length):gx cs off ws=(a++(ws++c)).toArray:=by
 subst pF ha
 apply Array.ext_getElem?
 intro j
 rw [FH ws _ _ j (by simp; omega)]
 by_cases hj:a.length≤j∧j < a.length+ws.length
 ·rw [if_pos hj]
  simp only [List.getElem?_toArray]
  rw [oz hj.1,rR (by omega)]
 ·rw [if_neg hj]
  simp only [List.getElem?_toArray]
  by_cases h1:j < a.length
  ·rw [rR h1,rR h1]
  ·rw [oz (by omega),oz (by omega),oz (by omega),oz (by omega),hl]
theorem aPQ{pre post:List Value}{f:α→Value}{p:Nat}(h:iB m xs i=some r)(hg:g.length=m)(hp:pre.length=p):gx ((pre++(xs.map f++post)).toArray) (p+i.toNat * m) (([]:List Value)++(g.map f++[]))=(pre++((C4 m xs i g).map f++post)).toArray:=by
 obtain ⟨_,h2,_⟩:=Au h
 have hr:=pP h
 have e:xs=xs.take (i.toNat * m)++(r++xs.drop (i.toNat * m+m)):=by
  obtain ⟨_,_,rfl⟩:=Au h
  rw [← List.drop_drop,List.take_append_drop,List.take_append_drop]
 have e2:(pre++(xs.map f++post)).toArray=((pre++(xs.take (i.toNat * m)).map f)++(r.map f++((xs.drop (i.toNat * m+m)).map f++post))).toArray:=by
  conv=>lhs; rw [e]
  simp
 have:=aO3 (ws:=([]:List Value)++(g.map f++[])) (off:=p+i.toNat * m) e2 (by simp [hp]; omega) (by simp [hg,hr])
 rw [this]
 simp [C4]
end
section
variable {P:Program} {B:Base} {main:Bool} {c:Ctx} {R:az} {H:ah} {st st':St} {o:Oper} {C:az→ah→St→Prop}
theorem Ox.abm{α:Type}{x y:Operand}{t e len:Nat}{f:α→Value}{xs:List α}{a:α}{kd:IntKind}{i:Int}(au:o.op = .index t x y) (hx:bn st x=some (.agg (List.toArray ([]++(xs.map f++[]))))) (hy:bn st y=some (.int kd i)) (ht:xd P t len e 1) (he:ai P (isAgg e) false) (hl:xs.length=len) (hi:idx xs i=some a)
  (hd:cB o.dst c.n) (hs:ay (cE o.dst (f a) st) st') (h:C R H st'):bf P B c o R H st C:=by
 obtain ⟨h1,h2,h3⟩:=vS hi
 exact Ox.EL au hx hy ht he ⟨h1,by omega⟩ (by simp [h3]) hd hs h
end
instance {n:Nat}:CM (oB Value.bool n):=⟨λ _ h=>h,λ ⟨_,h⟩ u hu=>by
 subst h
 simp only [List.nil_append,List.append_nil,List.mem_map] at hu
 obtain ⟨_,_,rfl⟩:=hu
 rfl⟩
instance {n:Nat} {kd:IntKind}:CM (oB (Value.int kd) n):=⟨λ _ h=>h,λ ⟨_,h⟩ u hu=>by
 subst h
 simp only [List.nil_append,List.append_nil,List.mem_map] at hu
 obtain ⟨_,_,rfl⟩:=hu
 rfl⟩
section
variable {P:Program} {B:Base} {main:Bool} {c:Ctx} {R:az} {H:ah} {st st':St} {o:Oper} {C:az→ah→St→Prop}
theorem Ox.aO9{t:TypeId}{x:Operand}{s:ByteArray}(au:o.op = .range t x)(hx:bn st x=some (.string s))(hu:P.underlying t=some .string)(hd:cB o.dst c.n)
  (hC:∀ b,R b=none→(∀ y,(b,y) ∉ H)→∃ st',ay (cE o.dst (.pointer (some ⟨b,0,none⟩)) st) st'∧C R ((b,.stringIter s 0)::H) st'):bf P B c o R H st C :=
 Ox.mem (s:=λ ρ=>Instr.range t (ρ x)) (by rw [au]; rfl) hd (λ ρ=>by simp only [execOp,au]) (λ ρ bl=>by
  rw [bl x _ hx]
  unfold Instr.range
  refine ai.fv (ai.underlying hu) (ai.fv (ai.bL _) ?_)
  exact aS.dK (aS.new λ b h1 h2=>aS.eB (hC b h1 h2)))
theorem Ox.aNP{x:Operand}{b:Nat}{s:ByteArray}{pos:Nat}(au:o.op = .next x true)(hx:bn st x=some (.pointer (some ⟨b,0,none⟩)))(hb:(b,Obj.stringIter s pos)∈H)(hp:¬ pos < s.size)(hd:cB o.dst c.n)
  (hs:ay (cE o.dst (.tuple #[.bool false]) st) st') (h:C R H st'):bf P B c o R H st C :=
 Ox.mem (s:=λ ρ=>Instr.next (ρ x) true o.type) (by rw [au]; rfl) hd (λ ρ=>by simp only [execOp,au]) (λ ρ bl=>by
  rw [bl x _ hx]
  unfold Instr.next
  refine aS.dK (aS.getObj rfl (.inr hb) ?_)
  simp only [hp,if_false]
  exact aS.eB ⟨st',hs,h⟩)
theorem Ox.aNQ{x:Operand}{b:Nat}{s:ByteArray}{pos:Nat}{H':ah}(au:o.op = .next x true)(hx:bn st x=some (.pointer (some ⟨b,0,none⟩)))(hb:fF H b (.stringIter s pos) (.stringIter s (pos+(Utf8.decode s pos).2)) H')(hp:pos < s.size)(hd:cB o.dst c.n)
  (hs:ay (cE o.dst (.tuple #[.bool true,.int .i64 (pos:Int),.int .i32 ((Utf8.decode s pos).1:Int)]) st) st') (h:C R H' st'):bf P B c o R H st C :=
 Ox.mem (s:=λ ρ=>Instr.next (ρ x) true o.type) (by rw [au]; rfl) hd (λ ρ=>by simp only [execOp,au]) (λ ρ bl=>by
  rw [bl x _ hx]
  unfold Instr.next
  refine aS.dK (aS.getObj rfl (.inr hb.mem) ?_)
  simp only [hp,if_true]
  exact aS.dK (aS.setObj rfl rfl hb (aS.eB ⟨st',hs,h⟩)))
end
class ns (P:Program) where
 off:Nat→Nat→Option Nat
 ok:∀ s f n,off s f=some n→gO P s f n
def SV(fo:Nat→Nat→Option Nat)(st:St)(o:Oper):Option Value :=
 match o.op with
 | .move x=>bn st x
 | .assign x=>bn st x
 | .pick x y z=>match bn st x with
  | some (.bool true)=>bn st y
  | some (.bool false)=>bn st z
  | _=>none
 | .extract x j=>match bn st x with
  | some (.tuple vs)=>vs[j]?
  | _=>none
 | .unOp .not _ x=>match bn st x with
  | some (.bool a)=>some (.bool (!a))
  | _=>none
 | .binOp bo _ x y _=>match bn st x,bn st y with
  | some (.int kd a),some (.int EM b)=>if kd=EM then (match VU bo a b with
   | some r=>some (.bool r)
   | none=>match Vd bo a b with
    | some z=>some (.int kd (kd.wrap z))
    | none=>none) else none
  | _,_=>none
 | .fieldAddr s x f=>match bn st x,fo s f with
  | some (.pointer (some ⟨b,n,none⟩)),some off=>some (.pointer (some ⟨b,n+off,none⟩))
  | _,_=>none
 | _=>none
section
variable {P:Program} [ns P] {B:Base} {main:Bool} {ab:Jd P B main} {c:Ctx} {R:az} {H:ah} {st st':St} {o:Oper} {C:az→ah→St→Prop} {k:List Item}
theorem ak4{v:Value}(h:SV (ns.off P) st o=some v)(hd:cB o.dst c.n)(hs:ay (cE o.dst v st) st')(hC:C R H st'):bf P B c o R H st C:=by
 unfold SV at h
 split at h
 ·rename_i x au; exact Ox.move au h hd hs hC
 ·rename_i x au; exact Ox.assign au h hd hs hC
 ·rename_i x y z au
  split at h
  ·rename_i hx; exact Ox.aOZ au hx h hd hs hC
  ·rename_i hx; exact Ox.aOY au hx h hd hs hC
  ·cases h
 ·rename_i x j au
  split at h
  ·rename_i hx; exact Ox.extract au hx h hd hs hC
  ·cases h
 ·rename_i t x au
  split at h
  ·rename_i hx; cases h; exact Ox.not au hx hd hs hC
  ·cases h
 ·rename_i bo t x y u au
  split at h
  ·rename_i kd a EM b hx hy
   split at h
   ·rename_i e; subst e
    split at h
    ·rename_i r hr; cases h; exact Ox.cmp au hx hy hr hd hs hC
    ·split at h
     ·rename_i z hz; cases h; exact Ox.ar au hx hy hz hd hs hC
     ·cases h
   ·cases h
  ·cases h
 ·rename_i s x f au
  split at h
  ·rename_i hx hf; cases h; exact Ox.fieldAddr au hx (ns.ok s f _ hf) hd hs hC
  ·cases h
 ·cases h
def acT(fo:Nat→Nat→Option Nat)(ops:Array Oper)(n:Nat)(st:St)(i:Nat):Option St :=
 match ops[i]? with
 | none=>none
 | some o=>match cX ops st o with
  | some true=>match SV fo st o,o.dst with
   | some v,some d=>if Nat.blt d n=true then some ((d,v)::st) else none
   | _,_=>none
  | some false=>match nG o.op,o.dst with
   | false,some d=>if Nat.blt d n=true then some ((d,undef)::st) else none
   | false,none=>some st
   | _,_=>none
  | none=>none
def CU(fo:Nat→Nat→Option Nat)(ops:Array Oper)(n:Nat):List Nat→St→Option St
 | [],st=>some st
 | i::is,st=>match acT fo ops n st i with
  | some st'=>CU fo ops n is st'
  | none=>none
theorem aly{ops:Array Oper}{n i:Nat}{fo:Nat→Nat→Option Nat}(h:acT fo ops n st i=some st'):∃ o,ops[i]? = some o ∧
  ((cX ops st o=some true∧∃ v d,SV fo st o=some v∧o.dst=some d∧cB (some d) n∧st'=(d,v)::st) ∨
   (cX ops st o=some false∧nG o.op=false∧cB o.dst n∧st'=cE o.dst undef st)):=by
 unfold acT at h
 split at h
 ·cases h
 ·rename_i o ho
  refine ⟨o,ho,?_⟩
  split at h
  ·rename_i hw
   split at h
   ·rename_i v d hv hd
    split at h
    ·rename_i hl; cases h; exact .inl ⟨hw,v,d,hv,hd,hl,rfl⟩
    ·cases h
   ·cases h
  ·rename_i hw
   split at h
   ·rename_i d mS hd
    split at h
    ·rename_i hl; cases h; exact .inr ⟨hw,mS,by rw [hd]; exact hl,by rw [hd]; rfl⟩
    ·cases h
   ·rename_i mS hd
    cases h; exact .inr ⟨hw,mS,by rw [hd]; rfl,by rw [hd]; rfl⟩
   ·cases h
  ·cases h
theorem At.run{ops:Array Oper}(hk:(c.kind == CallKind.early)=false):∀ {is rest:List Nat} {st:St},CU (ns.off P) ops c.n is st=some st'→At ab c R H st' (.inRegion ops rest::k)→At ab c R H st (.inRegion ops (is++rest)::k)
 | [],rest,st,h,ha=>by cases h; exact ha
 | i::is,rest,st,h,ha=>by
  unfold CU at h
  split at h
  ·rename_i m7 h1
   have ih:=At.run hk h ha
   obtain ⟨o,ho,⟨hw,v,d,hv,hd,hl,rfl⟩ | ⟨hw,mS,hl,rfl⟩⟩:=aly h1
   ·exact At.jb ho hw hk (ak4 hv (by rw [hd]; exact hl) (by rw [hd]; exact ay.refl _) ih)
   ·exact At.unwanted ho hw hl (ay.refl _) ih
  ·cases h
theorem At.vs(m:Nat){ops:Array Oper}{is sN:List Nat}(h:CU (ns.off P) ops c.n (is.take m) st=some st')(hr:is.drop m=sN)(ha:At ab c R H st' (.inRegion ops sN::k))(hk:(c.kind == CallKind.early)=false:=by rfl):At ab c R H st (.inRegion ops is::k):=by
 subst hr
 have:=At.run (rest:=is.drop m) hk h ha
 rwa [List.take_append_drop] at this
def af9(ops:Array Oper)(rem:List Nat)(i:Nat):Nat→List Nat→List Nat
 | 0,D=>D
 | n+1,D=>af9 ops rem i n (rem.filter λ j=>j != i && (D.contains j || match ops[j]? with | some o=>o.after.any λ e=>Region.binds .any e && (e.on == i || D.contains e.on) | none=>false))
def KC(ops:Array Oper)(rem:List Nat)(i:Nat):List Nat:=af9 ops rem i rem.length []
def PJ(ops:Array Oper):List Nat→List Nat→Bool
 | _,[]=>true
 | rem,i::is=>decide rem.Nodup && qO ops rem i (KC ops rem i) && PJ ops (rem.erase i) is
theorem Any.vs'{S:Nat→ah}{ops:Array Oper}{n:Nat}:∀ (is:List Nat) {rem:List Nat} {st:St},CU (ns.off P) ops c.n is st=some st'→PJ ops rem is=true→Any ab c S ops k n (is.foldl List.erase rem) R H st'→Any ab c S ops k (n+is.length) rem R H st
 | [],rem,st,h,_,ha=>by cases h; exact ha
 | i::is,rem,st,h,hc,ha=>by
  unfold CU at h
  split at h
  ·rename_i m7 h1
   simp only [PJ,jm,decide_eq_true_eq] at hc
   obtain ⟨⟨dM,jH⟩,hc⟩:=hc
   have ih:=Any.vs' is h hc ha
   obtain ⟨o,ho,⟨hw,v,d,hv,hd,hl,rfl⟩ | ⟨hw,mS,hl,rfl⟩⟩:=aly h1
   ·exact Any.FQ (N:=[]) _ ho hd hw jH (λ _ _ _ _ p hp=>by cases hp) (λ p hp=>by cases hp) (λ R' H' _ _=>ak4 hv (by rw [hd]; exact hl) (.one hd) ⟨rfl,rfl,rfl⟩) (ay.refl _) dM rfl ih
   ·exact Any.aQB _ ho jH mS hl hw (ay.refl _) dM rfl ih
  ·cases h
theorem Any.vs{S:Nat→ah}{ops:Array Oper}{n:Nat}(m:Nat)(is:List Nat){rem:List Nat}{st:St}(h:CU (ns.off P) ops c.n is st=some st')(ha:Any ab c S ops k n (is.foldl List.erase rem) R H st')(hc:PJ ops rem is=true:=by decide +kernel)(hm:is.length=m:=by rfl):Any ab c S ops k (n+m) rem R H st:=by
 subst hm
 exact Any.vs' is h hc ha
end
section
variable {P:Program} {B:Base} {main:Bool} {ab:Jd P B main} {c:Ctx} {R:az} {H:ah} {st st':St} {o:Oper} {C:az→ah→St→Prop} {k:List Item}
theorem At.rg(is:List Nat){id:Nat}{ops:Array Oper}(h:At ab c R H st (.inRegion ops is::k))(hn:ops.size=is.length:=by rfl)(mT:List.range is.length=is:=by rfl):At ab c R H st (.code (.region id ops false)::k):=At.aPq hn mT h
theorem At.dw(is:List Nat){id:Nat}{ops:Array Oper}(hm:P.follows .mixedOrders=true)(h:Any ab c (λ _=>H) ops k is.length is R H st)(hk:(c.kind == CallKind.early)=false:=by rfl)(hb:backward ops=true:=by decide +kernel)(hn:ops.size=is.length:=by rfl)(mT:List.range is.length=is:=by rfl):At ab c R H st (.code (.region id ops true)::k):=At.arc hm hk hb hn mT h
theorem Any.tk(i:Nat){N:ah}{ops:Array Oper}{n d:Nat}{rem:List Nat}{v:Value}(ho:ops[i]? = some o)(hS:∀ p∈N,p∈H)(hf:∀ R' H',aR R R'→(∀ p∈N,p∈H')→bf P B c o R' H' st λ R1 H1 m7=>R1=R'∧H1=H'∧m7=[(d,v)])
  (h:Any ab c (λ _=>N) ops k n (rem.erase i) R H ((d,v)::st)) (om:o.dst=some d:=by rfl) (hw:cX ops st o=some true:=by rfl) (jH:qO ops rem i (KC ops rem i)=true:=by decide +kernel) (dM:rem.Nodup:=by decide):Any ab c (λ _=>N) ops k (n+1) rem R H st :=
 Any.FQ _ ho om hw jH (λ _ _ _ _ _ hp=>hp) hS hf (ay.refl _) dM rfl h
theorem At.cv{ops:Array Oper}{i d:Nat}{rest:List Nat}{ca:Call}{x:Operand}{f:FuncId}{first captured:Array Value}{vs:List Value}{args:Array Value}{Post:Value→az→ah→Prop}(he:bj P f)(hf:bd ab f args R H Post)
  (h:∀ v R' H',Post v R' H'→At ab c R' H' ((d,v)::st) (.inRegion ops rest::k))
  (ho:ops[i]? = some o:=by rfl) (hw:cX ops st o=some true:=by rfl) (hk:(c.kind == CallKind.early)=false:=by rfl) (au:o.op = .call ca:=by rfl) (hc:ca.callee = .value x:=by rfl) (hx:bn st x=some (.func (.func f) first captured):=by rfl)
  (ha:jw st ca.args.toList=some vs:=by rfl) (Hu:first++vs.toArray++captured=args:=by rfl) (hd:o.dst=some d:=by rfl) (hl:Nat.blt d c.n=true:=by rfl):At ab c R H st (.inRegion ops (i::rest)::k) :=
 At.step ho hw hk (Ox.dV au hc hx ha he Hu (by rw [hd]; exact hl) (hf.mono λ v R' H' hp=>⟨_,.put hd,h v R' H' hp⟩))
theorem Any.cv(i:Nat){S:Nat→ah}{ops:Array Oper}{n d:Nat}{rem:List Nat}{ca:Call}{x:Operand}{f:FuncId}{first captured:Array Value}{vs:List Value}{args:Array Value}{Post:Value→az→ah→Prop}(he:bj P f)(hf:bd ab f args R H Post)
  (h:∀ v R' H',Post v R' H'→aR R R'∧(∀ p∈S i,p∈H→p∈H')∧Any ab c S ops k n (rem.erase i) R' H' ((d,v)::st))
  (ho:ops[i]? = some o:=by rfl) (hw:cX ops st o=some true:=by rfl) (au:o.op = .call ca:=by rfl) (hc:ca.callee = .value x:=by rfl) (hx:bn st x=some (.func (.func f) first captured):=by rfl)
  (ha:jw st ca.args.toList=some vs:=by rfl) (Hu:first++vs.toArray++captured=args:=by rfl) (hd:o.dst=some d:=by rfl) (hl:Nat.blt d c.n=true:=by rfl) (lI:rem.filter (nO ops rem)=[i]:=by decide +kernel) (dM:rem.Nodup:=by decide):Any ab c S ops k (n+1) rem R H st :=
 Any.one ho lI hw dM rfl (Ox.dV au hc hx ha he Hu (by rw [hd]; exact hl) (hf.mono λ v R' H' hp=>⟨_,.put hd,h v R' H' hp⟩))
theorem Any.on(i:Nat){S:Nat→ah}{ops:Array Oper}{n:Nat}{rem:List Nat}(ho:ops[i]? = some o)(hw:cX ops st o=some true)
  (h:qa ab c o R H st λ R' H' st'=>aR R R'∧(∀ p∈S i,p∈H→p∈H')∧Any ab c S ops k n (rem.erase i) R' H' st') (lI:rem.filter (nO ops rem)=[i]:=by decide +kernel) (dM:rem.Nodup:=by decide):Any ab c S ops k (n+1) rem R H st:=Any.one ho lI hw dM rfl h
theorem At.ld{ops:Array Oper}{i d:Nat}{rest:List Nat}{x:Operand}{t:TypeId}{b off:Nat}{v:Value}(ht:gG P t)(hc:Cell R H ⟨b,off,none⟩ v)(h:At ab c R H ((d,v)::st) (.inRegion ops rest::k))
  (ho:ops[i]? = some o:=by rfl) (hw:cX ops st o=some true:=by rfl) (hk:(c.kind == CallKind.early)=false:=by rfl) (au:o.op = .load t x:=by rfl) (hx:bn st x=some (.pointer (some ⟨b,off,none⟩)):=by rfl) (hd:o.dst=some d:=by rfl) (hl:Nat.blt d c.n=true:=by rfl):At ab c R H st (.inRegion ops (i::rest)::k) :=
 At.jb ho hw hk (Ox.sP au hx ht hc (by rw [hd]; exact hl) (.put hd) h)
theorem At.kn(t:Nat){x b:Bool}{todo:List Item}(hb:x=b)(h:At ab c R H ((t,.bool b)::st) todo)(hx:st.lookup t=some (.bool x):=by rfl):At ab c R H st todo:=At.known hx hb h
theorem At.s{ops:Array Oper}{i:Nat}{rest:List Nat}(ho:ops[i]? = some o)(hw:cX ops st o=some true)(h:bf P B c o R H st λ R' H' st'=>At ab c R' H' st' (.inRegion ops rest::k))(hk:(c.kind == CallKind.early)=false:=by rfl):At ab c R H st (.inRegion ops (i::rest)::k):=At.jb ho hw hk h
end
abbrev aC:List Nat:=[0]
abbrev aP:List Nat:=[0,1]
abbrev aX:List Nat:=[0,1,2]
abbrev bZ:List Nat:=[0,1,2,3]
abbrev cN:List Nat:=[0,1,2,3,4]
abbrev fD:List Nat:=[0,1,2,3,4,5]
abbrev eW:List Nat:=[0,1,2,3,4,5,6]
abbrev fQ:List Nat:=[0,1,2,3,4,5,6,7]
abbrev lj:List Nat:=[0,1,2,3,4,5,6,7,8]
abbrev mb:List Nat:=[0,1,2,3,4,5,6,7,8,9]
abbrev wF:List Nat:=[0,1,2,3,4,5,6,7,8,9,10]
abbrev wG:List Nat:=[0,1,2,3,4,5,6,7,8,9,10,11]
abbrev acC:List Nat:=[0,1,2,3,4,5,6,7,8,9,10,11,12]
abbrev Ar:List Nat:=[0,1,2,3,4,5,6,7,8,9,10,11,12,13]
abbrev yB:List Nat:=[0,1,2,3,4,5,6,7,8,9,10,11,12,13,14]
abbrev FK:List Nat:=[0,1,2,3,4,5,6,7,8,9,10,11,12,13,14,15]
abbrev acD:List Nat:=[0,1,2,3,4,5,6,7,8,9,10,11,12,13,14,15,16,17]
abbrev ak6:List Nat:=[0,1,2,3,4,5,6,7,8,9,10,11,12,13,14,15,16,17,18]
abbrev aPv:List Nat:=[0,1,2,3,4,5,6,7,8,9,10,11,12,13,14,15,16,17,18,19]
abbrev ak7:List Nat:=[0,1,2,3,4,5,6,7,8,9,10,11,12,13,14,15,16,17,18,19,20,21,22,23,24]
abbrev aPw:List Nat:=[0,1,2,3,4,5,6,7,8,9,10,11,12,13,14,15,16,17,18,19,20,21,22,23,24,25]
abbrev ak8:List Nat:=[0,1,2,3,4,5,6,7,8,9,10,11,12,13,14,15,16,17,18,19,20,21,22,23,24,25,26]
abbrev aPx:List Nat:=[0,1,2,3,4,5,6,7,8,9,10,11,12,13,14,15,16,17,18,19,20,21,22,23,24,25,26,27]
abbrev aPy:List Nat:=[0,1,2,3,4,5,6,7,8,9,10,11,12,13,14,15,16,17,18,19,20,21,22,23,24,25,26,27,28]
abbrev aPz:List Nat:=[0,1,2,3,4,5,6,7,8,9,10,11,12,13,14,15,16,17,18,19,20,21,22,23,24,25,26,27,28,29,30,31]
abbrev aPA:List Nat:=[0,1,2,3,4,5,6,7,8,9,10,11,12,13,14,15,16,17,18,19,20,21,22,23,24,25,26,27,28,29,30,31,32,33,34,35,36,37]
abbrev aPB:List Nat:=[0,1,2,3,4,5,6,7,8,9,10,11,12,13,14,15,16,17,18,19,20,21,22,23,24,25,26,27,28,29,30,31,32,33,34,35,36,37,38,39,40,41]
abbrev aPC:List Nat:=[0,1,2,3,4,5,6,7,8,9,10,11,12,13,14,15,16,17,18,19,20,21,22,23,24,25,26,27,28,29,30,31,32,33,34,35,36,37,38,39,40,41,42]
abbrev aPD:List Nat:=[0,1,2,3,4,5,6,7,8,9,10,11,12,13,14,15,16,17,18,19,20,21,22,23,24,25,26,27,28,29,30,31,32,33,34,35,36,37,38,39,40,41,42,43,44]
abbrev aPE:List Nat:=[0,1,2,3,4,5,6,7,8,9,10,11,12,13,14,15,16,17,18,19,20,21,22,23,24,25,26,27,28,29,30,31,32,33,34,35,36,37,38,39,40,41,42,43,44,45,46,47,48,49,50,51]
section
variable {α:Type} {a Py Vs afw aqN a0O a0P a0Q a0R x:α} {l l₁ wh:List α}
theorem so(h:List.Sublist l₁ wh):List.Sublist l₁ (a::wh):=h.cons a
theorem sk(h:List.Sublist l₁ wh):List.Sublist (a::l₁) (a::wh):=List.Sublist.cons_cons a h
theorem sr:List.Sublist l l:=.refl _
theorem sn:List.Sublist [] l:=List.nil_sublist _
theorem su(h:List.Sublist l₁ wh):∀ p∈l₁,p∈wh:=λ _ hp=>h.subset hp
theorem pp:∀ p∈l,p∈l:=λ _ h=>h
theorem z0:x∈x::l:=.head _
theorem z1:x∈a::x::l:=.tail _ z0
theorem z2:x∈a::Py::x::l:=.tail _ z1
theorem z3:x∈a::Py::Vs::x::l:=.tail _ z2
theorem z4:x∈a::Py::Vs::afw::x::l:=.tail _ z3
theorem z5:x∈a::Py::Vs::afw::aqN::x::l:=.tail _ z4
end
section
variable {P:Program} {B:Base} {main:Bool} {ab:Jd P B main} {c:Ctx} {R:az} {H:ah} {st st':St} {o:Oper} {k:List Item}
theorem sq{x y:Code}(h:At ab c R H st (.code x :: .code y::k)):At ab c R H st (.code (.seq x y)::k):=At.seq h
theorem er{ops:Array Oper}(h:At ab c R H st k):At ab c R H st (.inRegion ops []::k):=At.aV h
theorem es{ops:Array Oper}{x y:Code}(h:At ab c R H st (.code x :: .code y::k)):At ab c R H st (.inRegion ops [] :: .code (.seq x y)::k):=At.aV (At.seq h)
theorem sg(is:List Nat){id:Nat}{ops:Array Oper}{y:Code}(h:At ab c R H st (.inRegion ops is :: .code y::k))(hn:ops.size=is.length:=by rfl)(mT:List.range is.length=is:=by rfl):At ab c R H st (.code (.seq (.region id ops false) y)::k):=At.seq (At.rg is h hn mT)
theorem nx(is:List Nat){id:Nat}{os ops:Array Oper}{y:Code}(h:At ab c R H st (.inRegion ops is :: .code y::k))(hn:ops.size=is.length:=by rfl)(mT:List.range is.length=is:=by rfl):At ab c R H st (.inRegion os [] :: .code (.seq (.region id ops false) y)::k):=At.aV (sg is h hn mT)
theorem sp(h:At ab c R H st k):At ab c R H st (.code .skip::k):=At.skip h
theorem vs[ns P](m:Nat){ops:Array Oper}{is sN:List Nat}(ha:At ab c R H st' (.inRegion ops sN::k))(h:CU (ns.off P) ops c.n (is.take m) st=some st':=by rfl)(hr:is.drop m=sN:=by rfl)(hk:(c.kind == CallKind.early)=false:=by rfl):At ab c R H st (.inRegion ops is::k):=At.vs m h hr ha hk
theorem ld(j:Nat){ops:Array Oper}{i d:Nat}{rest:List Nat}{x:Operand}{t e:TypeId}{b:Nat}{fz:Nat × Nat}{L:List Value}{v:Value}(ht:gG P t)(hm:(b,Obj.cells L.toArray e fz)∈H)(h:At ab c R H ((d,v)::st) (.inRegion ops rest::k))(hj:L[j]? = some v:=by rfl)
  (ho:ops[i]? = some o:=by rfl) (hw:cX ops st o=some true:=by rfl) (hk:(c.kind == CallKind.early)=false:=by rfl) (au:o.op = .load t x:=by rfl) (hx:bn st x=some (.pointer (some ⟨b,0+j,none⟩)):=by rfl) (hd:o.dst=some d:=by rfl) (hl:Nat.blt d c.n=true:=by rfl):At ab c R H st (.inRegion ops (i::rest)::k) :=
 At.ld ht ((aU.box hm).one hj) h ho hw hk au hx hd hl
theorem lN(vs:List Value)(j n:Nat){ops:Array Oper}{i d:Nat}{rest:List Nat}{x:Operand}{t e:TypeId}{b:Nat}{fz:Nat × Nat}{L:List Value}{m:Nat}(ht:np P t m)(hm:(b,Obj.cells L.toArray e fz)∈H)(h:At ab c R H ((d,.agg vs.toArray)::st) (.inRegion ops rest::k))(hv:(L.drop j).take n=vs:=by rfl)
  (ho:ops[i]? = some o:=by rfl) (hw:cX ops st o=some true:=by rfl) (hk:(c.kind == CallKind.early)=false:=by rfl) (au:o.op = .load t x:=by rfl) (hx:bn st x=some (.pointer (some ⟨b,0+j,none⟩)):=by rfl) (hn:vs.length=m:=by rfl) (hd:o.dst=some d:=by rfl) (hl:Nat.blt d c.n=true:=by rfl):At ab c R H st (.inRegion ops (i::rest)::k) :=
 At.s ho hw (Ox.cG au hx ht hn ((aU.box hm).part hv) (by rw [hd]; exact hl) (.put hd) h) hk
theorem bx{ops:Array Oper}{i d:Nat}{rest:List Nat}{x:Operand}{t:TypeId}{vs:Array Value}(h:∀ b,At ab c R ((b,.cells vs t)::H) ((d,.pointer (some ⟨b,0,none⟩))::st) (.inRegion ops rest::k))
  (ho:ops[i]? = some o:=by rfl) (hw:cX ops st o=some true:=by rfl) (hk:(c.kind == CallKind.early)=false:=by rfl) (au:o.op = .box t x:=by rfl) (hx:bn st x=some (.agg vs):=by rfl) (hd:o.dst=some d:=by rfl) (hl:Nat.blt d c.n=true:=by rfl):At ab c R H st (.inRegion ops (i::rest)::k) :=
 At.s ho hw (Ox.afk au hx (by rw [hd]; exact hl) λ b _ _=>⟨_,.put hd,h b⟩) hk
theorem sc{α:Type}{t:Bool}{a b:Option α}{r:α}{x:Operand}{th el:Code}(hM:ae t a b=some r)(h1:t=true→a=some r→At ab c R H st (.code th::k))(h2:t=false→b=some r→At ab c R H st (.code el::k))(hx:bn st x=some (.bool t):=by rfl):At ab c R H st (.code (.cond x th el)::k) :=
 bT hM (λ h hM=>At.fX hx h (h1 h hM)) (λ h hM=>At.eU hx h (h2 h hM))
theorem ls{α:Type}{K:cM α}{n:Nat}{ops:Array Oper}{i d:Nat}{rest:List Nat}{x:Operand}{t e:TypeId}{v:Value}{xs:List α}(hl:aa K n R v xs)(ht:P.underlying t=some (.slice e))(h:At ab c R H ((d,.int .i64 (xs.length:Int))::st) (.inRegion ops rest::k))
  (ho:ops[i]? = some o:=by rfl) (hw:cX ops st o=some true:=by rfl) (hk:(c.kind == CallKind.early)=false:=by rfl) (au:o.op = .call ⟨.builtin .len,#[x],#[t]⟩:=by rfl) (hx:bn st x=some v:=by rfl) (hd:o.dst=some d:=by rfl) (hn:Nat.blt d c.n=true:=by rfl):At ab c R H st (.inRegion ops (i::rest)::k) :=
 At.s ho hw (Ox.uf au hx hl ht (by rw [hd]; exact hn) (.put hd) h) hk
theorem lr{α:Type}{K:cM α}{n:Nat}{ops:Array Oper}{i d:Nat}{rest:List Nat}{x:Operand}{t e:TypeId}{v:Value}{xs:List α}{H0:ah}(hl:da K n R H0 v xs)(ht:P.underlying t=some (.slice e))(h:At ab c R H ((d,.int .i64 (xs.length:Int))::st) (.inRegion ops rest::k))
  (ho:ops[i]? = some o:=by rfl) (hw:cX ops st o=some true:=by rfl) (hk:(c.kind == CallKind.early)=false:=by rfl) (au:o.op = .call ⟨.builtin .len,#[x],#[t]⟩:=by rfl) (hx:bn st x=some v:=by rfl) (hd:o.dst=some d:=by rfl) (hn:Nat.blt d c.n=true:=by rfl):At ab c R H st (.inRegion ops (i::rest)::k) :=
 At.s ho hw (Ox.abw au hx hl ht (by rw [hd]; exact hn) (.put hd) h) hk
theorem rt{fr:Frame}{cs:List Frame}{f:FuncId}{n:Nat}{fn:Func}{vs:List Value}{H':ah}(hf:P.funcs[f]? = some fn)(hr:qb P R H st fn.results.toList vs)(hs:List.Sublist H' H)(hj:ab.J R H' (bc (fr.finish (iO vs)) cs)):At ab ⟨f,.normal,none,n,[],fr::cs⟩ R H st (.code .ret::k) :=
 At.FJ hf hr (J.drop hs hj)
theorem ts(i:Nat){ops:Array Oper}{n d:Nat}{rem:List Nat}{S:Nat→ah}{v:Value}{N:ah}(D:List Nat)(ho:ops[i]? = some o)(zk:∀ j∈rem,j≠i→j ∉ D→∀ p∈N,p∈S j)(hS:∀ p∈N,p∈H)
  (hf:∀ R' H',aR R R'→(∀ p∈N,p∈H')→bf P B c o R' H' st λ R1 H1 m7=>R1=R'∧H1=H'∧m7=[(d,v)]) (h:Any ab c S ops k n (rem.erase i) R H ((d,v)::st))
  (om:o.dst=some d:=by rfl) (hw:cX ops st o=some true:=by rfl) (jH:qO ops rem i D=true:=by decide +kernel) (dM:rem.Nodup:=by decide):Any ab c S ops k (n+1) rem R H st :=
 Any.FQ D ho om hw jH zk hS hf (ay.refl _) dM rfl h
theorem tl(i j:Nat){ops:Array Oper}{n d:Nat}{rem:List Nat}{x:Operand}{t e:TypeId}{b:Nat}{fz:Nat × Nat}{L:List Value}{v:Value}(ht:gG P t)(hm:(b,Obj.cells L.toArray e fz)∈H)(h:Any ab c (λ _=>H) ops k n (rem.erase i) R H ((d,v)::st))(hj:L[j]? = some v:=by rfl)
  (ho:ops[i]? = some o:=by rfl) (au:o.op = .load t x:=by rfl) (hx:bn st x=some (.pointer (some ⟨b,0+j,none⟩)):=by rfl) (om:o.dst=some d:=by rfl) (hl:Nat.blt d c.n=true:=by rfl) (hw:cX ops st o=some true:=by rfl) (jH:qO ops rem i (KC ops rem i)=true:=by decide +kernel) (dM:rem.Nodup:=by decide):Any ab c (λ _=>H) ops k (n+1) rem R H st :=
 Any.tk i ho pp (λ _ _ _ hS=>Ox.sP au hx ht ((aU.box (hS _ hm)).one hj) (by rw [om]; exact hl) (.one om) ⟨rfl,rfl,rfl⟩) h om hw jH dM
theorem tN(i:Nat)(vs:List Value)(j m:Nat){ops:Array Oper}{n d:Nat}{rem:List Nat}{x:Operand}{t e:TypeId}{b:Nat}{fz:Nat × Nat}{L:List Value}{q:Nat}(ht:np P t q)(hm:(b,Obj.cells L.toArray e fz)∈H)(h:Any ab c (λ _=>H) ops k n (rem.erase i) R H ((d,.agg vs.toArray)::st))(hv:(L.drop j).take m=vs:=by rfl)
  (ho:ops[i]? = some o:=by rfl) (au:o.op = .load t x:=by rfl) (hx:bn st x=some (.pointer (some ⟨b,0+j,none⟩)):=by rfl) (hq:vs.length=q:=by rfl) (om:o.dst=some d:=by rfl) (hl:Nat.blt d c.n=true:=by rfl) (hw:cX ops st o=some true:=by rfl) (jH:qO ops rem i (KC ops rem i)=true:=by decide +kernel) (dM:rem.Nodup:=by decide):Any ab c (λ _=>H) ops k (n+1) rem R H st :=
 Any.tk i ho pp (λ _ _ _ hS=>Ox.cG au hx ht hq ((aU.box (hS _ hm)).part hv) (by rw [om]; exact hl) (.one om) ⟨rfl,rfl,rfl⟩) h om hw jH dM
theorem tw(i j:Nat){S:Nat→ah}{ops:Array Oper}{n:Nat}{rem:List Nat}{a b:Oper}(h1:qa ab c a R H st λ R' H' st'=>aR R R'∧(∀ p∈S i,p∈H→p∈H')∧Any ab c S ops k n (rem.erase i) R' H' st')
  (h2:qa ab c b R H st λ R' H' st'=>aR R R'∧(∀ p∈S j,p∈H→p∈H')∧Any ab c S ops k n (rem.erase j) R' H' st') (ha:ops[i]? = some a:=by rfl) (hb:ops[j]? = some b:=by rfl) (lI:rem.filter (nO ops rem)=[i,j]:=by decide +kernel) (Mo:cX ops st a=some true:=by rfl) (Mq:cX ops st b=some true:=by rfl) (dM:rem.Nodup:=by decide):Any ab c S ops k (n+1) rem R H st :=
 Any.aQO ha hb lI Mo Mq dM rfl rfl h1 h2
theorem ka{H X:ah}:∀ p∈H,p∈X→p∈H:=λ _ h _=>h
theorem kp{R:az}{H X:ah}{C:Prop}(h:C):aR R R∧(∀ p∈H,p∈X→p∈H)∧C:=⟨aR.refl _,ka,h⟩
theorem ku{H H' X:ah}(h:List.Sublist H H'):∀ p∈H,p∈X→p∈H':=λ _ hp _=>h.subset hp
theorem rr{R:az}:aR R R:=aR.refl _
end
abbrev CZ:cM Int:=CI .i64
def uP(v:Value)(lo k:Nat):Value:=match v with | .slice A n cap=>.slice (if cap=lo then A else A.map (·.add (lo * k))) (n - lo) (cap - lo) | v=>v
def rZ(xs:List Int)(lo:Nat):List Int:=xs.take lo++List.replicate (xs.length - lo) 0
theorem aq0{α:Type}{xs ys:List α}{lo hi:Int}(h:kQ xs lo hi=some ys):lo.toNat≤xs.length:=by
 obtain ⟨h1,h2,h3,_⟩:=Ky h
 omega
section
variable {P:Program} {B:Base} {main:Bool} {ab:Jd P B main} {c:Ctx} {R:az} {H H':ah} {st st':St} {o:Oper} {C:az→ah→St→Prop}
theorem bt.view{α:Type}{K:cM α}{k e:Nat}{v:Value}{xs:List α}{Hs:ah}{lo:Nat}(h:bt K k e R v xs Hs)(hs:∀ p∈Hs,p∈H):da K k R H (uP v lo k) (xs.drop lo):=by
 obtain ⟨A,cap,es,rfl,hE,zo,hm⟩:=h.rd hs
 refine ⟨if cap=lo then A else A.map (·.add (lo * k)),cap - lo,es.drop (lo * k),by simp [uP],hE.drop,by simp; omega,λ cU=>?_⟩
 have bS:lo < xs.length:=by
  apply Classical.byContradiction
  intro hn
  exact cU (List.drop_eq_nil_of_le (by omega))
 obtain ⟨b,o',rfl,g2⟩:=hm (by rintro rfl; simp at bS)
 refine ⟨b,o'+lo * k,?_,λ j w hj=>?_⟩
 ·rw [if_neg (by omega)]; simp [tE]
 ·rw [List.getElem?_drop] at hj
  have:=g2 _ _ hj
  simpa [Nat.add_assoc] using this
theorem bt.alZ{α:Type}{K:cM α}{k t e e':Nat}{v:Value}{xs ys:List α}{Hs:ah}{lo:Int}(h:bt K k e R v xs Hs)(ht:nW P t e' k)(hc:kQ xs lo (xs.length:Int)=some ys):GA P t k v (xs.length:Int) lo (xs.length:Int) (uP v lo.toNat k):=by
 obtain ⟨h1,h2,h3,_⟩:=Ky hc
 obtain ⟨A,cap,es,rfl,hE,zo,hm⟩:=h.rd (H:=Hs) (λ _ h=>h)
 intro ρ st x lo' hi bl hx hl hh
 rw [eD] at hh
 rw [hx]
 unfold Instr.sliceAt
 refine ai.bR (ai.underlying ht.1) ?_
 unfold Instr.slice
 refine ai.bR (ai.underlying ht.1) (ai.bR (Tw bl hl hh ⟨h1,h2,h3⟩ zo) (ai.bR ht.2 ?_))
 simp only [uP,eD]
 exact ai.bL _
theorem bt.front{α:Type}{K:cM α}{k t e e':Nat}{v:Value}{xs ys:List α}{Hs:ah}{hi:Int}(h:bt K k e R v xs Hs)(ht:nW P t e' k)(hc:kQ xs 0 hi=some ys):∃ v',bt K k e R v' ys Hs∧GA P t k v (xs.length:Int) 0 hi v':=by
 obtain ⟨h1,h2,h3,rfl⟩:=Ky hc
 have key:∀ A cap,v = .slice A xs.length cap→xs.length≤cap→GA P t k v (xs.length:Int) 0 hi (.slice (if cap=0 then A else A.map (·.add (0 * k))) (hi.toNat - 0) (cap - 0)):=by
  rintro A cap rfl zo ρ st x lo' oO bl hx hl hh
  rw [eD] at hh
  rw [hx]
  unfold Instr.sliceAt
  refine ai.bR (ai.underlying ht.1) ?_
  unfold Instr.slice
  exact ai.bR (ai.underlying ht.1) (ai.bR (Tw bl hl hh ⟨h1,h2,h3⟩ zo) (ai.bR ht.2 (ai.bL _)))
 rcases h with ⟨A,rfl,rfl,rfl⟩ | ⟨b,cap,cs,es,rfl,rfl,g3,g4,g5,g6⟩
 ·have:=key A 0 rfl (dD _)
  have h0:hi.toNat=0:=by simp at h3; omega
  rw [h0] at this
  exact ⟨_,.inl ⟨A,rfl,by simp,rfl⟩,by simpa using this⟩
 ·refine ⟨_,?_,key _ cap rfl g4⟩
  have BQ:((xs.take hi.toNat).drop (0:Int).toNat).length=hi.toNat:=by simp; omega
  refine .inr ⟨b,cap,cs,es.take (hi.toNat * k),?_,rfl,g3,by rw [BQ]; omega,by simpa using g5.take,λ j w hj=>?_⟩
  ·rw [BQ]
   congr 1
   split <;> simp [tE]
  ·rw [List.getElem?_take] at hj
   split at hj
   ·exact g6 _ _ hj
   ·cases hj
theorem Ox.aKU{α:Type}{K:cM α}{k e' lo:Nat}{x:Operand}{t e:TypeId}{v:Value}{xs:List α}{Hs:ah}(au:o.op = .call ⟨.builtin .len,#[x],#[t]⟩)(hx:bn st x=some (uP v lo k))(hl:bt K k e' R v xs Hs)(ht:P.underlying t=some (.slice e))
  (hd:cB o.dst c.n) (hs:ay (cE o.dst (.int .i64 ((xs.drop lo).length:Int)) st) st') (h:C R H st'):bf P B c o R H st C :=
 Ox.abw au hx (hl.view (H:=Hs) (λ _ h=>h)) ht hd hs h
theorem Ox.aqR{t e lo:Nat}(G:ah→ah){x:Operand}{v:Value}{xs:List Int}{Hs:ah}(au:o.op = .call ⟨.builtin .clear,#[x],#[t]⟩)(hx:bn st x=some (uP v lo 1))(ht:nW P t e 1)(hz:jv P e #[.int .i64 0])(hG:lW G)
  (hO:bt (CI .i64) 1 e R v xs Hs) (hlo:lo≤xs.length) (hd:cB o.dst c.n) (hC:∀ cK,bt (CI .i64) 1 e R v (rZ xs lo) cK→∃ st',ay (cE o.dst (.tuple #[]) st) st'∧C R (G cK) st'):bf P B c o R (G Hs) st C:=by
 refine ⟨by rw [au]; rfl,hd,λ ρ bl=>?_⟩
 simp only [execOp,au]
 refine ai.fv (a:=⟨.builtin .clear #[t] o.type (#[x].map λ | .const _=>true | _=>false),#[x].map ρ⟩) (ai.bL _) ?_
 simp only [invoke,builtin]
 have e1:(#[x].map ρ)=#[uP v lo 1]:=by simp [bl x _ hx]
 rw [e1]
 have fin:∀ cK,bt (CI .i64) 1 e R v (rZ xs lo) cK→aS P B R (G cK) (pure (Value.tuple #[])) λ a R' H'=>aS P B R' H' (pure (Next.value a)) λ nx R' H'=>∃ v,(nx = .value v∨(nx = .skip∧v=undef))∧∃ st',ay (cE o.dst v st) st'∧C R' H' st':=λ cK h=>by
  obtain ⟨st',hs,hC'⟩:=hC cK h
  exact aS.eB (aS.eB ⟨_,.inl rfl,st',hs,hC'⟩)
 refine aS.dK ?_
 unfold Builtin.clear_
 refine ai.fv (ai.underlying ht.1) ?_
 by_cases hn:xs.length - lo=0
 ·have hv:∃ A cap,uP v lo 1 = .slice A 0 cap:=by
   obtain ⟨A,cap,es,rfl,_⟩:=hO.rd (H:=Hs) (λ _ h=>h)
   exact ⟨_,_,by simp only [uP,hn]; rfl⟩
  obtain ⟨A,cap,hv⟩:=hv
  rw [hv]
  have Hv:rZ xs lo=xs:=by
   unfold rZ
   rw [hn,List.replicate_zero,List.append_nil,List.take_of_length_le (by omega)]
  rw [Hv] at fin
  cases A with
  | none=>exact aS.dK (aS.eB (fin Hs hO))
  | some a=>exact aS.dK (aS.eB (fin Hs hO))
 ·rcases hO with ⟨A,rfl,rfl,rfl⟩ | ⟨b,cap,cs,es,rfl,rfl,g3,g4,g5,g6⟩
  ·simp at hn
  ·have hv:uP (.slice (some ⟨b,0,none⟩) xs.length cap) lo 1 = .slice (some ⟨b,lo,none⟩) (xs.length - lo) (cap - lo):=by
    simp only [uP]
    rw [if_neg (by omega)]
    simp [tE]
   rw [hv]
   obtain ⟨m,hm⟩:∃ m,xs.length - lo=m+1:=⟨xs.length - lo - 1,by omega⟩
   rw [hm]
   dsimp only
   obtain ⟨z0,hz0,hzc⟩:=hz
   refine ai.fv hz0 (aS.dK ?_)
   have YW:(Builtin.zeroCells z0.cells (m+1)).toList=List.replicate (m+1) (Value.int .i64 0):=by
    rw [hzc]
    apply List.ext_getElem?
    intro j
    simp only [Builtin.zeroCells]
    by_cases hj:j < m+1
    ·simp [hj,Nat.mod_one]
    ·simp [hj]
   rw [YW]
   have gm:lo+(m+1)≤cs.size:=by omega
   refine aS.given λ dM=>aS.S8 _ cs lo 0 (G [(b,.cells cs e (0,0))]) (G [(b,.cells (gx cs lo (List.replicate (m+1) (Value.int .i64 0))) e (0,0))]) (λ u hu=>by rw [List.eq_of_mem_replicate hu]; rfl) (by simp; omega) (by simpa using lW.set hG) dM ?_
   have ahU:(rZ xs lo).length=xs.length:=by simp [rZ]; omega
   refine fin _ (.inr ⟨b,cap,gx cs lo (List.replicate (m+1) (Value.int .i64 0)),es.take lo++List.replicate (m+1) (Value.int .i64 0),by rw [ahU],rfl,by rw [NY]; exact g3,by rw [ahU]; exact g4,?_,λ j w hj=>?_⟩)
   ·have h1:=g5.take (n:=lo)
    rw [Nat.mul_one] at h1
    unfold rZ
    rw [hm]
    refine h1.append ?_
    refine ⟨by simp,λ i x hx=>?_⟩
    rw [List.getElem?_replicate] at hx
    split at hx
    ·rename_i hi
     cases hx
     refine ⟨[.int .i64 0],rfl,rfl,λ j w hj=>?_⟩
     have Yr:=(iF.1 hj).1
     have hj0:j=0:=by simp at Yr; omega
     subst hj0
     rw [Nat.mul_one,List.getElem?_replicate,if_pos (by omega)]
     exact hj
    ·cases hx
   ·have mq:=g5.len
    rw [Nat.mul_one] at mq
    rw [FH _ _ _ _ (by simp; omega)]
    rcases Nat.lt_or_ge j lo with Hz | Hz
    ·rw [rR (by simp; omega),List.getElem?_take,if_pos Hz] at hj
     rw [if_neg (by omega)]
     exact g6 _ _ hj
    ·rw [oz (by simp; omega)] at hj
     have aAm:(es.take lo).length=lo:=by simp; omega
     rw [aAm] at hj
     have bS:=(iF.1 hj).1
     rw [if_pos ⟨Hz,by simp at bS ⊢; omega⟩]
     exact hj
end
def af{α:Type}(a b:Option α):Prop:=∀ r,a=some r→b=some r
theorem af.bP{α:Type}(a:Option α):af a a:=λ _ h=>h
theorem af.none{α:Type}{b:Option α}:af none b:=λ _ h=>by cases h
theorem af.bQ{α β:Type}{a a':Option α}{f f':α→Option β}(h:af a a')(hf:∀ x,af (f x) (f' x)):af (a.bind f) (a'.bind f'):=by
 intro r hr
 obtain ⟨x,hx,hr⟩:=ag hr
 rw [h x hx]
 exact hf x r hr
theorem af.ae{α:Type}{t:Bool}{a a' b b':Option α}(h:af a a')(h':af b b'):af (ae t a b) (ae t a' b'):=by
 cases t
 ·exact h'
 ·exact h
def qt{S O:Type}(body:S→Option (S ⊕ O))(s:S):Option O:=nH body 200 s
theorem af.nH{S O:Type}{body Kq:S→Option (S ⊕ O)}(h:∀ s,af (body s) (Kq s)):∀ (n:Nat) (s:S),af (Go.Lg.nH body n s) (bD Kq s)
 | 0,_=>λ _ hr=>by cases hr
 | n+1,s=>λ r hr=>by
  simp only [Go.Lg.nH] at hr
  cases hb:body s with
  | none=>rw [hb] at hr; cases hr
  | some x =>
   rw [hb] at hr
   have gI:=h s x hb
   cases x with
   | inl s'=>rw [vX gI]; exact af.nH h n s' r hr
   | inr o=>cases hr; exact lO gI
theorem af.fW{S O:Type}{body Kq:S→Option (S ⊕ O)}{s:S}(h:∀ s,af (body s) (Kq s)):af (qt body s) (bD Kq s):=af.nH h 200 s
theorem af.jq{α β γ:Type}{f f':α→Option γ}{g g':β→Option γ}(h:∀ x,af (f x) (f' x))(h':∀ x,af (g x) (g' x))(x:α ⊕ β):af (Sum.elim f g x) (Sum.elim f' g' x):=by
 cases x
 ·exact h _
 ·exact h' _
theorem af.gV{α S O:Type}{f f':α→S→Option (S ⊕ O)}(h:∀ x s,af (f x s) (f' x s))(x:α)(s:S ⊕ O):af (Go.Lg.gV f x s) (Go.Lg.gV f' x s):=by
 intro r hr
 cases s with
 | inr s=>cases hr
 | inl s =>
  simp only [Go.Lg.gV] at hr ⊢
  cases hf:f x s with
  | none=>rw [hf] at hr; cases hr
  | some z=>rw [hf] at hr; rw [h x s z hf]; exact hr
theorem af.mapM{α β:Type}{f f':α→Option β}(h:∀ x,af (f x) (f' x)):∀ l:List α,af (l.mapM f) (l.mapM f')
 | []=>af.bP _
 | a::l=>by
  intro r hr
  rw [List.mapM_cons] at hr ⊢
  cases ha:f a with
  | none=>rw [ha] at hr; simp at hr
  | some b =>
   cases hl:l.mapM f with
   | none=>rw [ha,hl] at hr; simp at hr
   | some bs =>
    rw [ha,hl] at hr
    rw [h a b ha,af.mapM h l bs hl]
    exact hr
abbrev ax:Value:=.slice none 0 0
theorem cq{α β:Sort _}{a:α}{b:β}:a=a∧b=b:=⟨rfl,rfl⟩
theorem aY{α β γ:Sort _}{a:α}{b:β}{d:γ}:a=a∧b=b∧d=d:=⟨rfl,rfl,rfl⟩
theorem aj{st st':St}(h:cx st st'):ay st st':=cx.sub h
theorem oY{a0:Option Value}:a0=a0∧True:=⟨rfl,trivial⟩
theorem ej{a0 a1:Option Value}:a0=a0∧a1=a1∧True:=⟨rfl,rfl,trivial⟩
theorem dN{a0 a1 a2:Option Value}:a0=a0∧a1=a1∧a2=a2∧True:=⟨rfl,rfl,rfl,trivial⟩
theorem cw{a0 a1 a2 a3:Option Value}:a0=a0∧a1=a1∧a2=a2∧a3=a3∧True:=⟨rfl,rfl,rfl,rfl,trivial⟩
theorem dy{a0 a1 a2 a3 a4:Option Value}:a0=a0∧a1=a1∧a2=a2∧a3=a3∧a4=a4∧True:=⟨rfl,rfl,rfl,rfl,rfl,trivial⟩
theorem fB{a0 a1 a2 a3 a4 a5:Option Value}:a0=a0∧a1=a1∧a2=a2∧a3=a3∧a4=a4∧a5=a5∧True:=⟨rfl,rfl,rfl,rfl,rfl,rfl,trivial⟩
theorem lf{a0 a1 a2 a3 a4 a5 a6:Option Value}:a0=a0∧a1=a1∧a2=a2∧a3=a3∧a4=a4∧a5=a5∧a6=a6∧True:=⟨rfl,rfl,rfl,rfl,rfl,rfl,rfl,trivial⟩
theorem uw{a0 a1 a2 a3 a4 a5 a6 a7:Option Value}:a0=a0∧a1=a1∧a2=a2∧a3=a3∧a4=a4∧a5=a5∧a6=a6∧a7=a7∧True:=⟨rfl,rfl,rfl,rfl,rfl,rfl,rfl,rfl,trivial⟩
theorem qz{a0 a1 a2 a3 a4 a5 a6 a7 a8:Option Value}:a0=a0∧a1=a1∧a2=a2∧a3=a3∧a4=a4∧a5=a5∧a6=a6∧a7=a7∧a8=a8∧True:=⟨rfl,rfl,rfl,rfl,rfl,rfl,rfl,rfl,rfl,trivial⟩
theorem IE{a0 a1 a2 a3 a4 a5 a6 a7 a8 a9:Option Value}:a0=a0∧a1=a1∧a2=a2∧a3=a3∧a4=a4∧a5=a5∧a6=a6∧a7=a7∧a8=a8∧a9=a9∧True:=⟨rfl,rfl,rfl,rfl,rfl,rfl,rfl,rfl,rfl,rfl,trivial⟩
theorem Sl{a0 a1 a2 a3 a4 a5 a6 a7 a8 a9 xh:Option Value}:a0=a0∧a1=a1∧a2=a2∧a3=a3∧a4=a4∧a5=a5∧a6=a6∧a7=a7∧a8=a8∧a9=a9∧xh=xh∧True:=⟨rfl,rfl,rfl,rfl,rfl,rfl,rfl,rfl,rfl,rfl,rfl,trivial⟩
theorem akc{a0 a1 a2 a3 a4 a5 a6 a7 a8 a9 xh J8:Option Value}:a0=a0∧a1=a1∧a2=a2∧a3=a3∧a4=a4∧a5=a5∧a6=a6∧a7=a7∧a8=a8∧a9=a9∧xh=xh∧J8=J8∧True:=⟨rfl,rfl,rfl,rfl,rfl,rfl,rfl,rfl,rfl,rfl,rfl,rfl,trivial⟩
theorem wx{a0 a1 a2 a3 a4 a5 a6 a7 a8 a9 xh J8 a12 a13:Option Value}:a0=a0∧a1=a1∧a2=a2∧a3=a3∧a4=a4∧a5=a5∧a6=a6∧a7=a7∧a8=a8∧a9=a9∧xh=xh∧J8=J8∧a12=a12∧a13=a13∧True:=⟨rfl,rfl,rfl,rfl,rfl,rfl,rfl,rfl,rfl,rfl,rfl,rfl,rfl,rfl,trivial⟩
section
variable {P:Program} {B:Base} {main:Bool} {ab:Jd P B main} {c:Ctx} {R:az} {H:ah} {st st':St} {o:Oper} {k:List Item} {ops:Array Oper} {i d:Nat} {rest:List Nat} {t e:TypeId}
theorem cV{x y:Operand}{v:Value}{kd:IntKind}{j:Int}{b n:Nat}(hv:y7 P t v j b n)(h:At ab c R H ((d,.pointer (some ⟨b,n,none⟩))::st) (.inRegion ops rest::k))(ho:ops[i]? = some o:=by rfl)(hw:cX ops st o=some true:=by rfl)(hk:(c.kind == CallKind.early)=false:=by rfl)
  (au:o.op = .indexAddr t x y:=by rfl) (hx:bn st x=some v:=by rfl) (hy:bn st y=some (.int kd j):=by rfl) (hd:o.dst=some d:=by rfl) (hl:Nat.blt d c.n=true:=by rfl):At ab c R H st (.inRegion ops (i::rest)::k) :=
 At.s ho hw (Ox.RF au hx hy hv (by rw [hd]; exact hl) (.put hd) h) hk
theorem cZ(cs:Array Value)(ht:jv P t cs)(h:∀ b,At ab c R ((b,.cells cs t)::H) ((d,.pointer (some ⟨b,0,none⟩))::st) (.inRegion ops rest::k))(ho:ops[i]? = some o:=by rfl)(hw:cX ops st o=some true:=by rfl)(hk:(c.kind == CallKind.early)=false:=by rfl)
  (au:o.op = .alloc t:=by rfl) (hd:o.dst=some d:=by rfl) (hl:Nat.blt d c.n=true:=by rfl):At ab c R H st (.inRegion ops (i::rest)::k) :=
 At.s ho hw (Ox.alloc au ht (by rw [hd]; exact hl) λ b _ _=>⟨_,.put hd,h b⟩) hk
theorem fy(cells:Array Value){parts:Array (Nat × Operand)}{ps:List (Nat × Value)}{places:List (Nat × Nat)}{z:Array Value}(ht:xg P t places z)(h:At ab c R H ((d,.agg cells)::st) (.inRegion ops rest::k))(ho:ops[i]? = some o:=by rfl)(hw:cX ops st o=some true:=by rfl)(hk:(c.kind == CallKind.early)=false:=by rfl)
  (au:o.op = .build t parts:=by rfl) (hp:CQ st parts.toList=some ps:=by rfl) (hf:Instr.fill (places.toArray[·]?) z ps=some cells:=by repeat first | refine mO rfl rfl rfl rfl ?_ | exact mP) (hd:o.dst=some d:=by rfl) (hl:Nat.blt d c.n=true:=by rfl):At ab c R H st (.inRegion ops (i::rest)::k) :=
 At.s ho hw (Ox.build au ht hp hf (by rw [hd]; exact hl) (.put hd) h) hk
theorem gU(cells:Array Value){n len:Nat}{parts:Array (Nat × Operand)}{ps:List (Nat × Value)}{z base:Array Value}(ht:u9 P t e n z)(hb:(Array.range (len * n)).map (z[· % z.size]!)=base)(h:∀ b,At ab c R ((b,.cells cells e)::H) ((d,.slice (some ⟨b,0,none⟩) len len)::st) (.inRegion ops rest::k))
  (ho:ops[i]? = some o:=by rfl) (hw:cX ops st o=some true:=by rfl) (hk:(c.kind == CallKind.early)=false:=by rfl) (au:o.op = .buildSlice t len parts:=by rfl) (hp:CQ st parts.toList=some ps:=by rfl) (hlen:len * n≤16777216:=by decide) (hf:Instr.fill (λ j=>some (j * n,n)) base ps=some cells:=by repeat first | refine mO rfl rfl rfl rfl ?_ | exact mP) (hd:o.dst=some d:=by rfl) (hl:Nat.blt d c.n=true:=by rfl):At ab c R H st (.inRegion ops (i::rest)::k) :=
 At.s ho hw (Ox.buildSlice au ht hp hlen hb hf (by rw [hd]; exact hl) λ b _ _=>⟨_,.put hd,h b⟩) hk
theorem mV(cs':Array Value){x y:Operand}{b off:Nat}{v:Value}{cs:Array Value}{H':ah}(ht:gG P t)(hs:fF H b (.cells cs e (0,0)) (.cells cs' e (0,0)) H')(h:At ab c R H' st (.inRegion ops rest::k))(ho:ops[i]? = some o:=by rfl)(hw:cX ops st o=some true:=by rfl)(hk:(c.kind == CallKind.early)=false:=by rfl)
  (au:o.op = .store t x y:=by rfl) (hx:bn st x=some (.pointer (some ⟨b,off,none⟩)):=by rfl) (hy:bn st y=some v:=by rfl) (hv:v.oneCell'=true:=by rfl) (hl:Nat.blt off cs.size=true:=by rfl) (pF:cs.setIfInBounds off v=cs':=by rfl) (hd:o.dst=none:=by rfl):At ab c R H st (.inRegion ops (i::rest)::k) :=
 At.s ho hw (Ox.kM au hx hy ht hv hs hl pF hd (.refl _) h) hk
theorem eA(cs':Array Value){x y:Operand}{b off n:Nat}{vs cs:Array Value}{H':ah}(ht:np P t n)(hs:fF H b (.cells cs e (0,0)) (.cells cs' e (0,0)) H')(h:At ab c R H' st (.inRegion ops rest::k))(ho:ops[i]? = some o:=by rfl)(hw:cX ops st o=some true:=by rfl)(hk:(c.kind == CallKind.early)=false:=by rfl)
  (au:o.op = .store t x y:=by rfl) (hx:bn st x=some (.pointer (some ⟨b,off,none⟩)):=by rfl) (hy:bn st y=some (.agg vs):=by rfl) (hn:vs.size=n:=by rfl) (h1:∀ u∈vs.toList,u.oneCell'=true:=by repeat first | exact cH | refine b8 rfl ?_ | refine b8 (aa.one (by assumption)) ?_ | refine b8 (da.one (by assumption)) ?_ | refine b8 (bt.one (by assumption)) ?_ | refine b8 (aUH.one (by assumption)) ?_ | refine b8 (aUI.one (by assumption)) ?_ | refine b8 (mJ.one (by assumption)) ?_) (hl:Nat.ble (off+n) cs.size=true:=by rfl) (pF:gx cs off vs.toList=cs':=by rfl) (hd:o.dst=none:=by rfl):At ab c R H st (.inRegion ops (i::rest)::k) :=
 At.s ho hw (Ox.gg au hx hy ht hn h1 hs hl pF hd (.refl _) h) hk
theorem CG{x:Operand}{u:TypeId}{kd ks k0:IntKind}{a:Int}(ht:P.underlying t=some (.int k0))(hu:P.underlying u=some (.int kd))(h:At ab c R H ((d,.int kd (kd.wrap a))::st) (.inRegion ops rest::k))(ho:ops[i]? = some o:=by rfl)(hw:cX ops st o=some true:=by rfl)(hk:(c.kind == CallKind.early)=false:=by rfl)
  (au:o.op = .convert t u x:=by rfl) (hx:bn st x=some (.int ks a):=by rfl) (hd:o.dst=some d:=by rfl) (hl:Nat.blt d c.n=true:=by rfl):At ab c R H st (.inRegion ops (i::rest)::k) :=
 At.s ho hw (Ox.aqW au hx ht hu (by rw [hd]; exact hl) (.put hd) h) hk
end
abbrev pT(b:Nat):Value:=.pointer (some ⟨b,0,none⟩)
abbrev bW(l:List Bool):Array Value:=List.toArray ([]++(l.map Value.bool++[]))
abbrev f16:List Bool:=[false,false,false,false,false,false,false,false,false,false,false,false,false,false,false,false]
theorem ao{α:Type}{a b:α}(h:some a=some b):b=a:=(j6 h).symm
theorem vK{α:Type}{P:Program}{s:Sem α}{a:α}(h:∀ w,(s.run P w,s.events P w #[])=(.ok a w,#[])):ai P s a:=λ w=>⟨congrArg Prod.fst (h w),congrArg Prod.snd (h w)⟩
section
variable {A1:Type} {K1:cM A1} [CM K1] {k1:Nat} {v1:Value} {x1:List A1} {A2:Type} {K2:cM A2} [CM K2] {k2:Nat} {v2:Value} {x2:List A2} {A3:Type} {K3:cM A3} [CM K3] {k3:Nat} {v3:Value} {x3:List A3} {A4:Type} {K4:cM A4} [CM K4] {k4:Nat} {v4:Value} {x4:List A4} {A5:Type} {K5:cM A5} [CM K5] {k5:Nat} {v5:Value} {x5:List A5} {A6:Type} {K6:cM A6} [CM K6] {k6:Nat} {v6:Value} {x6:List A6} {A7:Type} {K7:cM A7} [CM K7] {k7:Nat} {v7:Value} {x7:List A7} {A8:Type} {K8:cM A8} [CM K8] {k8:Nat} {v8:Value} {x8:List A8} {A9:Type} {K9:cM A9} [CM K9] {k9:Nat} {v9:Value} {x9:List A9} {R R':az}
theorem wu(h:aR R R')(a1:aa K1 k1 R v1 x1)(a2:aa K2 k2 R v2 x2):aa K1 k1 R' v1 x1∧aa K2 k2 R' v2 x2:=⟨a1.mono h,a2.mono h⟩
theorem IC(h:aR R R')(a1:aa K1 k1 R v1 x1)(a2:aa K2 k2 R v2 x2)(a3:aa K3 k3 R v3 x3):aa K1 k1 R' v1 x1∧aa K2 k2 R' v2 x2∧aa K3 k3 R' v3 x3:=⟨a1.mono h,a2.mono h,a3.mono h⟩
theorem CF(h:aR R R')(a1:aa K1 k1 R v1 x1)(a2:aa K2 k2 R v2 x2)(a3:aa K3 k3 R v3 x3)(a4:aa K4 k4 R v4 x4):aa K1 k1 R' v1 x1∧aa K2 k2 R' v2 x2∧aa K3 k3 R' v3 x3∧aa K4 k4 R' v4 x4:=⟨a1.mono h,a2.mono h,a3.mono h,a4.mono h⟩
theorem fx(h:aR R R')(a1:aa K1 k1 R v1 x1)(a2:aa K2 k2 R v2 x2)(a3:aa K3 k3 R v3 x3)(a4:aa K4 k4 R v4 x4)(a5:aa K5 k5 R v5 x5):aa K1 k1 R' v1 x1∧aa K2 k2 R' v2 x2∧aa K3 k3 R' v3 x3∧aa K4 k4 R' v4 x4∧aa K5 k5 R' v5 x5:=⟨a1.mono h,a2.mono h,a3.mono h,a4.mono h,a5.mono h⟩
theorem iL(h:aR R R')(a1:aa K1 k1 R v1 x1)(a2:aa K2 k2 R v2 x2)(a3:aa K3 k3 R v3 x3)(a4:aa K4 k4 R v4 x4)(a5:aa K5 k5 R v5 x5)(a6:aa K6 k6 R v6 x6):aa K1 k1 R' v1 x1∧aa K2 k2 R' v2 x2∧aa K3 k3 R' v3 x3∧aa K4 k4 R' v4 x4∧aa K5 k5 R' v5 x5∧aa K6 k6 R' v6 x6:=⟨a1.mono h,a2.mono h,a3.mono h,a4.mono h,a5.mono h,a6.mono h⟩
theorem mo7(h:aR R R')(a1:aa K1 k1 R v1 x1)(a2:aa K2 k2 R v2 x2)(a3:aa K3 k3 R v3 x3)(a4:aa K4 k4 R v4 x4)(a5:aa K5 k5 R v5 x5)(a6:aa K6 k6 R v6 x6)(a7:aa K7 k7 R v7 x7):aa K1 k1 R' v1 x1∧aa K2 k2 R' v2 x2∧aa K3 k3 R' v3 x3∧aa K4 k4 R' v4 x4∧aa K5 k5 R' v5 x5∧aa K6 k6 R' v6 x6∧aa K7 k7 R' v7 x7:=⟨a1.mono h,a2.mono h,a3.mono h,a4.mono h,a5.mono h,a6.mono h,a7.mono h⟩
theorem lb(h:aR R R')(a1:aa K1 k1 R v1 x1)(a2:aa K2 k2 R v2 x2)(a3:aa K3 k3 R v3 x3)(a4:aa K4 k4 R v4 x4)(a5:aa K5 k5 R v5 x5)(a6:aa K6 k6 R v6 x6)(a7:aa K7 k7 R v7 x7)(a8:aa K8 k8 R v8 x8)(a9:aa K9 k9 R v9 x9):aa K1 k1 R' v1 x1∧aa K2 k2 R' v2 x2∧aa K3 k3 R' v3 x3∧aa K4 k4 R' v4 x4∧aa K5 k5 R' v5 x5∧aa K6 k6 R' v6 x6∧aa K7 k7 R' v7 x7∧aa K8 k8 R' v8 x8∧aa K9 k9 R' v9 x9:=⟨a1.mono h,a2.mono h,a3.mono h,a4.mono h,a5.mono h,a6.mono h,a7.mono h,a8.mono h,a9.mono h⟩
end
section
variable {P:Program} {B:Base} {main:Bool} {ab:Jd P B main} {c:Ctx} {R:az} {H:ah} {st st':St} {o:Oper} {k:List Item} {ops:Array Oper} {i d n:Nat} {rest rem:List Nat} {t e:TypeId}
theorem bz{f:FuncId}{fn:Func}{body:Code}{args:List Value}{Post:Value→az→ah→Prop}(hf:P.funcs[f]? = some fn)(n:Nat)
  (h:∀ fr cs,(∀ v R' H',Post v R' H'→ab.J R' H' (bc (fr.finish v) cs))→At ab ⟨f,.normal,none,n,[],fr::cs⟩ R H (vg 0 args) [.code body]) (hb:fn.body=some body:=by rfl) (qn:fn.ntmps=n:=by rfl) (hn:Nat.ble args.length n=true:=by rfl):bd ab f args.toArray R H Post:=bd.oZ hf hb qn hn h
theorem kI{N:ah}{x y:Operand}{v:Value}{kd:IntKind}{j:Int}{b m:Nat}(hv:y7 P t v j b m)(au:o.op = .indexAddr t x y:=by rfl)(hx:bn st x=some v:=by rfl)(hy:bn st y=some (.int kd j):=by rfl)(hd:o.dst=some d:=by rfl)(hl:Nat.blt d c.n=true:=by rfl) :
  ∀ R' H',aR R R'→(∀ p∈N,p∈H')→bf P B c o R' H' st λ R1 H1 m7=>R1=R'∧H1=H'∧m7=[(d,.pointer (some ⟨b,m,none⟩))] :=
 λ _ _ _ _=>Ox.RF au hx hy hv (by rw [hd]; exact hl) (.one hd) ⟨rfl,rfl,rfl⟩
theorem kA{N N':ah}{x:Operand}{b q:Nat}{v:Value}{L:List Value}(ht:gG P t)(j:Nat)(hc:aU R N' b q L)(hN:∀ p∈N',p∈N)(hj:L[j]? = some v:=by rfl)(au:o.op = .load t x:=by rfl)(hx:bn st x=some (.pointer (some ⟨b,q+j,none⟩)):=by rfl)(hd:o.dst=some d:=by rfl)(hl:Nat.blt d c.n=true:=by rfl) :
  ∀ R' H',aR R R'→(∀ p∈N,p∈H')→bf P B c o R' H' st λ R1 H1 m7=>R1=R'∧H1=H'∧m7=[(d,v)] :=
 λ _ _ hR hS=>Ox.sP au hx ht (((hc.le hR).sub λ p h=>hS p (hN p h)).one hj) (by rw [hd]; exact hl) (.one hd) ⟨rfl,rfl,rfl⟩
theorem kU{N:ah}{x:Operand}{b q:Nat}{v:Value}{L:List Value}(ht:gG P t)(j:Nat)(hc:aU R [] b q L)(hj:L[j]? = some v:=by rfl)(au:o.op = .load t x:=by rfl)(hx:bn st x=some (.pointer (some ⟨b,q+j,none⟩)):=by rfl)(hd:o.dst=some d:=by rfl)(hl:Nat.blt d c.n=true:=by rfl) :
  ∀ R' H',aR R R'→(∀ p∈N,p∈H')→bf P B c o R' H' st λ R1 H1 m7=>R1=R'∧H1=H'∧m7=[(d,v)] :=
 λ _ _ hR _=>Ox.sP au hx ht ((hc.up hR).one hj) (by rw [hd]; exact hl) (.one hd) ⟨rfl,rfl,rfl⟩
theorem kX{N:ah}{x:Operand}{b:Nat}{v:Value}{L:List Value}{fz:Nat × Nat}(ht:gG P t)(j:Nat)(hm:(b,Obj.cells L.toArray e fz)∈N)(hj:L[j]? = some v:=by rfl)(au:o.op = .load t x:=by rfl)(hx:bn st x=some (.pointer (some ⟨b,0+j,none⟩)):=by rfl)(hd:o.dst=some d:=by rfl)(hl:Nat.blt d c.n=true:=by rfl) :
  ∀ R' H',aR R R'→(∀ p∈N,p∈H')→bf P B c o R' H' st λ R1 H1 m7=>R1=R'∧H1=H'∧m7=[(d,v)] :=
 λ _ _ _ hS=>Ox.sP au hx ht ((aU.box (hS _ hm)).one hj) (by rw [hd]; exact hl) (.one hd) ⟨rfl,rfl,rfl⟩
section
variable {N:ah} {m:Nat} {v:Value}
theorem tQ(i:Nat)(ho:ops[i]? = some o)(hf:∀ R' H',aR R R'→(∀ p∈N,p∈H')→bf P B c o R' H' st λ R1 H1 m7=>R1=R'∧H1=H'∧m7=[(d,v)])(h:Any ab c (λ _=>N) ops k m (rem.erase i) R N ((d,v)::st))
  (om:o.dst=some d:=by rfl) (hw:cX ops st o=some true:=by rfl) (jH:qO ops rem i (KC ops rem i)=true:=by decide +kernel) (dM:rem.Nodup:=by decide):Any ab c (λ _=>N) ops k (m+1) rem R N st:=Any.tk i ho pp hf h om hw jH dM
end
theorem oW(i:Nat){S:Nat→ah}{m n b:Nat}{x y:Operand}{l:List Bool}{cs:Array Value}{H':ah}(ht:np P t n)(hl:l.length=n)(hs:fF H b (.cells cs e (0,0)) (.cells (bW l) e (0,0)) H')(hK:∀ p∈S i,p∈H→p∈H')(h:Any ab c S ops k m (rem.erase i) R H' st)(ho:ops[i]? = some o:=by rfl)(hw:cX ops st o=some true:=by rfl)
  (au:o.op = .store t x y:=by rfl) (hx:bn st x=some (.pointer (some ⟨b,0,none⟩)):=by rfl) (hy:bn st y=some (.agg (bW l)):=by rfl) (hz:cs.size=n:=by simp) (hd:o.dst=none:=by rfl) (lI:rem.filter (nO ops rem)=[i]:=by decide +kernel) (dM:rem.Nodup:=by decide):Any ab c S ops k (m+1) rem R H st :=
 Any.on i ho hw (bf.to (Ox.gg au hx hy ht (by simp [hl]) (fC cH (fC (ma λ _=>rfl) cH)) hs (by simp [hz]) (lR (by simp [hl,hz])) hd (.refl _) ⟨rr,hK,h⟩)) lI dM
theorem oS(i:Nat)(cs':Array Value){S:Nat→ah}{m b off:Nat}{x y:Operand}{v:Value}{cs:Array Value}{H':ah}(ht:gG P t)(hs:fF H b (.cells cs e (0,0)) (.cells cs' e (0,0)) H')(hK:∀ p∈S i,p∈H→p∈H')(h:Any ab c S ops k m (rem.erase i) R H' st)(ho:ops[i]? = some o:=by rfl)(hw:cX ops st o=some true:=by rfl)
  (au:o.op = .store t x y:=by rfl) (hx:bn st x=some (.pointer (some ⟨b,off,none⟩)):=by rfl) (hy:bn st y=some v:=by rfl) (hv:v.oneCell'=true:=by rfl) (hl:Nat.blt off cs.size=true:=by rfl) (pF:cs.setIfInBounds off v=cs':=by rfl) (hd:o.dst=none:=by rfl) (lI:rem.filter (nO ops rem)=[i]:=by decide +kernel) (dM:rem.Nodup:=by decide):Any ab c S ops k (m+1) rem R H st :=
 Any.on i ho hw (bf.to (Ox.kM au hx hy ht hv hs hl pF hd (.refl _) ⟨rr,hK,h⟩)) lI dM
theorem qd{α:Type}{K:cM α}{q cap b:Nat}{es:List Value}{cs:Array Value}{fz:Nat × Nat}{tl:ah}(x:α)(hK:K R x es)(hq:es.length=q:=by rfl)(he:es++[]=cs.toList:=by rfl):qU K q R ((b,Obj.cells cs e fz)::tl) (.slice (some ⟨b,0,none⟩) 1 cap) [x] :=
 qU.lit z0 (bB.le (bB.cons hK hq bB.nil) he) rfl
end
end Go.Lg
