/- Models, operations, lists, maps, arrays, ranges over functions. Conditions: none. -/
import Derived.Test.YtihapemckcdicaaGreatDoorQHLgA
import Derived.Laws.RangeAny
namespace Go.Lg
open Go.Conc
def nk{S O:Type}(body:S→Option (S ⊕ O)):Nat→S→Option O
 | 0,_=>none
 | n+1,s=>match body s with
  | none=>none
  | some (.inl s')=>nk body n s'
  | some (.inr o)=>some o
open Classical in
noncomputable def bE{S O:Type}(body:S→Option (S ⊕ O))(s:S):Option O:=if h:∃ o n,nk body n s=some o then some h.choose else none
theorem aae{S O:Type}{body:S→Option (S ⊕ O)}:∀ {n m:Nat} {s:S} {o:O},n≤m→nk body n s=some o→nk body m s=some o
 | 0,_,_,_,_,h=>by cases h
 | n+1,0,_,_,hm,_=>by omega
 | n+1,m+1,s,o,hm,h=>by
  simp only [nk] at h ⊢
  cases hb:body s with
  | none=>rw [hb] at h; cases h
  | some x=>cases x with
   | inl s'=>rw [hb] at h; exact aae (by omega) h
   | inr o'=>rw [hb] at h; exact h
theorem aag{S O:Type}{body:S→Option (S ⊕ O)}{n:Nat}{s:S}{o:O}(h:nk body n s=some o):bE body s=some o:=by
 have hex:∃ o n,nk body n s=some o:=⟨o,n,h⟩
 unfold bE
 rw [dif_pos hex]
 obtain ⟨m,hm⟩:=hex.choose_spec
 have h1:=aae (Nat.le_max_left n m) h
 have h2:=aae (Nat.le_max_right n m) hm
 rw [h1] at h2
 exact h2.symm
theorem aaf{S O:Type}{body:S→Option (S ⊕ O)}{s:S}{o:O}(h:bE body s=some o):∃ n,nk body n s=some o:=by
 unfold bE at h
 split at h
 ·rename_i hex
  cases h
  exact hex.choose_spec
 ·cases h
theorem vx{S O:Type}{body:S→Option (S ⊕ O)}{s:S}{o:O}(h:body s=some (.inr o)):bE body s=some o :=
 aag (n:=1) (by simp [nk,h])
theorem DW{S O:Type}{body:S→Option (S ⊕ O)}{s s':S}(h:body s=some (.inl s')):bE body s=bE body s':=by
 cases h':bE body s' with
 | some o =>
  obtain ⟨n,hn⟩:=aaf h'
  exact aag (n:=n+1) (by simp [nk,h,hn])
 | none =>
  cases h2:bE body s with
  | none=>rfl
  | some o =>
   obtain ⟨n,hn⟩:=aaf h2
   cases n with
   | zero=>cases hn
   | succ n =>
    simp only [nk,h] at hn
    rw [aag hn] at h'
    cases h'
theorem ag{α β:Type}{o:Option α}{f:α→Option β}{r:β}(h:o.bind f=some r):∃ x,o=some x∧f x=some r:=by
 cases o with
 | none=>cases h
 | some x=>exact ⟨x,rfl,h⟩
def af{α:Type}(t:Bool)(a b:Option α):Option α:=match t with | true=>a | false=>b
theorem bQ{α:Type}{t:Bool}{a b:Option α}{r:α}{G:Prop}(h:af t a b=some r)(h1:t=true→a=some r→G)(h2:t=false→b=some r→G):G:=by
 cases t with
 | true=>exact h1 rfl h
 | false=>exact h2 rfl h
theorem aA{α:Type}{a b:α}(h:some a=some b):a=b:=lV h
def idx{α:Type}(xs:List α)(i:Int):Option α:=if 0≤i then xs[i.toNat]? else none
def eV{α:Type}(xs ys:List α):Option (List α):=if xs.length+ys.length≤16777216 then some (xs++ys) else none
def kF{α:Type}(xs:List α)(lo hi:Int):Option (List α):=if 0≤lo∧lo≤hi∧hi≤xs.length then some ((xs.take hi.toNat).drop lo.toNat) else none
theorem vu{α:Type}{xs:List α}{i:Int}{x:α}(h:idx xs i=some x):0≤i∧i < xs.length∧xs[i.toNat]? = some x:=by
 unfold idx at h
 split at h
 ·have:=(iC.1 h).1
  exact ⟨‹_›,by omega,h⟩
 ·cases h
theorem anr{α:Type}{xs ys zs:List α}(h:eV xs ys=some zs):xs.length+ys.length≤16777216∧zs=xs++ys:=by
 unfold eV at h
 split at h
 ·cases h; exact ⟨‹_›,rfl⟩
 ·cases h
section
variable {P:Program} {B:Base} {main:Bool} {ab:Jd P B main} {c:Ctx} {R:az} {H:ah} {st st':St} {k:List Item}
theorem U.bE{S O ρ:Type}{body:S→Option (S ⊕ O)}{cont:O→Option ρ}{s0:S}{r:ρ}{code:Code}(hM:(bE body s0).bind cont=some r)(I:S→az→ah→St→Prop)
  (VY:∀ s R H st,I s R H st→∀ x,body s=some x→(∀ s',x = .inl s'→∀ R' H' st',I s' R' H' st'→U ab c R' H' st' (.inLoop code::k))→(∀ o,x = .inr o→cont o=some r)→U ab c R H st (.code code :: .inLoop code::k))
  (h0:I s0 R H st):U ab c R H st (.code (.loop code)::k):=by
 obtain ⟨o,hl,hc⟩:=ag hM
 obtain ⟨n,hn⟩:=aaf hl
 clear hM hl
 have key:∀ n s R H st,nk body n s=some o→I s R H st→U ab c R H st (.code code :: .inLoop code::k):=by
  intro n
  induction n with
  | zero=>intro s R H st h; cases h
  | succ n ih =>
   intro s R H st h hI
   simp only [nk] at h
   cases hb:body s with
   | none=>rw [hb] at h; cases h
   | some x =>
    rw [hb] at h
    refine VY s R H st hI x hb (λ s' hx R' H' st' Vs=>?_) (λ o' hx=>?_)
    ·subst hx; exact U.inLoop (ih s' R' H' st' h Vs)
    ·subst hx; cases h; exact hc
 exact U.enterLoop (key n s0 R H st hn h0)
theorem U.known{t:Nat}{x b:Bool}{todo:List Item}(hx:st.lookup t=some (.bool x))(hb:x=b)(h:U ab c R H ((t,.bool b)::st) todo):U ab c R H st todo:=by
 subst hb; exact λ tmps ht=>h tmps (ht.aiY hx)
theorem Any.fb{S:Nat→ah}{ops:Array Oper}{n:Nat}{rem:List Nat}{t:Nat}{x b:Bool}(hx:st.lookup t=some (.bool x))(hb:x=b)(h:Any ab c S ops k n rem R H ((t,.bool b)::st)):Any ab c S ops k n rem R H st:=by
 subst hb; exact ⟨h.1,λ tmps ht=>h.2 tmps (ht.aiY hx)⟩
theorem U.fI{x:Operand}{th el:Code}{t:Bool}(hx:bj st x=some (.bool t))(ht:t=true)(h:U ab c R H st (.code th::k)):U ab c R H st (.code (.cond x th el)::k):=by subst ht; exact U.cond_true hx h
theorem U.eF{x:Operand}{th el:Code}{t:Bool}(hx:bj st x=some (.bool t))(ht:t=false)(h:U ab c R H st (.code el::k)):U ab c R H st (.code (.cond x th el)::k):=by subst ht; exact U.cond_false hx h
end
abbrev cG(α:Type):=az→α→List Value→Prop
class CM {α:Type} (C:cG α):Prop where
 mono:∀ {R R':az} {x:α} {es:List Value},aO R R'→C R x es→C R' x es
 one:∀ {R:az} {x:α} {es:List Value},C R x es→∀ u∈es,u.oneCell'=true
def CI(kd:IntKind):cG Int:=λ _ x es=>es=[.int kd x]
def CS:cG ByteArray:=λ _ x es=>es=[.string x]
instance {kd:IntKind}:CM (CI kd):=⟨λ _ h=>h,λ h=>by cases h; simp [Value.oneCell']⟩
instance:CM CS:=⟨λ _ h=>h,λ h=>by cases h; simp [Value.oneCell']⟩
structure bf {α:Type} (C:cG α) (k:Nat) (R:az) (xs:List α) (es:List Value):Prop where
 len:es.length=xs.length * k
 at_:∀ (i:Nat) (x:α),xs[i]? = some x→∃ e1:List Value,C R x e1∧e1.length=k∧∀ (j:Nat) (w:Value),e1[j]? = some w→es[i * k+j]? = some w
theorem bf.nil{α:Type}{C:cG α}{k:Nat}{R:az}:bf C k R [] []:=⟨by simp,by simp⟩
theorem bf.mono{α:Type}{C:cG α}[CM C]{k:Nat}{R R':az}{xs:List α}{es:List Value}(h:bf C k R xs es)(hR:aO R R'):bf C k R' xs es :=
 ⟨h.len,λ i x hx=>by obtain ⟨e1,h1,h2,h3⟩:=h.at_ i x hx; exact ⟨e1,CM.mono hR h1,h2,h3⟩⟩
theorem bf.append{α:Type}{C:cG α}{k:Nat}{R:az}{xs ys:List α}{es fs:List Value}(h:bf C k R xs es)(g:bf C k R ys fs):bf C k R (xs++ys) (es++fs):=by
 refine ⟨by rw [lU,lU,h.len,g.len,Nat.add_mul],λ i x hx=>?_⟩
 by_cases hi:i < xs.length
 ·rw [uF hi] at hx
  obtain ⟨e1,h1,h2,h3⟩:=h.at_ i x hx
  refine ⟨e1,h1,h2,λ j w hj=>?_⟩
  have:=h3 j w hj
  rw [uF (iC.1 this).1]
  exact this
 ·rw [pI (by omega)] at hx
  obtain ⟨e1,h1,h2,h3⟩:=g.at_ _ x hx
  refine ⟨e1,h1,h2,λ j w hj=>?_⟩
  have:=h3 j w hj
  have e:i * k+j=es.length+((i - xs.length) * k+j):=by
   rw [h.len]
   have:i=xs.length+(i - xs.length):=by omega
   rw [← Nat.add_assoc,← Nat.add_mul,← this]
  rw [e,pI (by omega),Nat.add_sub_cancel_left]
  exact this
theorem bf.single{α:Type}{C:cG α}{k:Nat}{R:az}{x:α}{es:List Value}(h:C R x es)(hk:es.length=k):bf C k R [x] es:=by
 refine ⟨by simp [hk],λ i y hy=>?_⟩
 cases i with
 | zero=>cases hy; exact ⟨es,h,hk,λ j w hj=>by simpa using hj⟩
 | succ i=>simp at hy
theorem bf.one{α:Type}{C:cG α}[CM C]{k:Nat}{R:az}{xs:List α}{es:List Value}(h:bf C k R xs es):∀ u∈es,u.oneCell'=true:=by
 intro u hu
 obtain ⟨j,hj⟩:=List.getElem?_of_mem hu
 have bK:=(iC.1 hj).1
 rw [h.len] at bK
 have hk:0 < k:=by cases k with | zero=>simp at bK | succ k=>omega
 have hi:j / k < xs.length:=Nat.div_lt_of_lt_mul (by rw [Nat.mul_comm]; exact bK)
 obtain ⟨e1,h1,h2,h3⟩:=h.at_ (j / k) _ (oa hi)
 have hm:j % k < e1.length:=by rw [h2]; exact Nat.mod_lt _ hk
 have:=h3 (j % k) _ (oa hm)
 rw [show j / k * k+j % k=j by rw [Nat.mul_comm]; exact Nat.div_add_mod j k,hj] at this
 cases this
 exact CM.one h1 _ (List.getElem_mem hm)
theorem bf.drop{α:Type}{C:cG α}{k n:Nat}{R:az}{xs:List α}{es:List Value}(h:bf C k R xs es):bf C k R (xs.drop n) (es.drop (n * k)):=by
 refine ⟨by simp [h.len,Nat.sub_mul],λ i x hx=>?_⟩
 rw [List.getElem?_drop] at hx
 obtain ⟨e1,h1,h2,h3⟩:=h.at_ _ x hx
 refine ⟨e1,h1,h2,λ j w hj=>?_⟩
 rw [List.getElem?_drop,← h3 j w hj,Nat.add_mul,Nat.add_assoc]
theorem bf.take{α:Type}{C:cG α}{k n:Nat}{R:az}{xs:List α}{es:List Value}(h:bf C k R xs es):bf C k R (xs.take n) (es.take (n * k)):=by
 refine ⟨by simp only [kT,h.len]; exact Nat.mul_min_mul_right _ _ _,λ i x hx=>?_⟩
 rw [List.getElem?_take] at hx
 split at hx
 ·rename_i hi
  obtain ⟨e1,h1,h2,h3⟩:=h.at_ _ x hx
  refine ⟨e1,h1,h2,λ j w hj=>?_⟩
  have nW:j < k:=by rw [← h2]; exact (iC.1 hj).1
  rw [List.getElem?_take,if_pos,h3 j w hj]
  calc i * k+j < i * k+k:=by omega
   _=(i+1) * k:=by rw [Nat.add_mul,Nat.one_mul]
   _≤n * k:=Nat.mul_le_mul_right k hi
 ·cases hx
def aa{α:Type}(C:cG α)(k:Nat)(R:az)(v:Value)(xs:List α):Prop :=
 ∃ A cap es,v = .slice A xs.length cap∧bf C k R xs es∧xs.length≤cap∧(xs≠[]→∃ b o arr e fz,A=some ⟨b,o,none⟩∧R b=some (.cells arr e fz)∧∀ (j:Nat) (w:Value),es[j]? = some w→arr[o+j]? = some w)
theorem aa.mono{α:Type}{C:cG α}[CM C]{k:Nat}{R R':az}{v:Value}{xs:List α}(h:aa C k R v xs)(hR:aO R R'):aa C k R' v xs:=by
 obtain ⟨A,cap,es,h1,h2,hc,h3⟩:=h
 refine ⟨A,cap,es,h1,h2.mono hR,hc,λ hx=>?_⟩
 obtain ⟨b,o,arr,e,fz,g1,g2,g3⟩:=h3 hx
 exact ⟨b,o,arr,e,fz,g1,hR _ _ g2,g3⟩
theorem aa.nil{α:Type}{C:cG α}{k:Nat}{R:az}{A:Option Addr}{cap:Nat}:aa C k R (.slice A 0 cap) []:=⟨A,cap,[],rfl,.nil,Nat.zero_le _,λ h=>absurd rfl h⟩
def cq{α:Type}(C:cG α)(k:Nat):cG (List α):=λ R xs es=>∃ v,es=[v]∧aa C k R v xs
instance {α:Type} {C:cG α} [CM C] {k:Nat}:CM (cq C k):=⟨λ hR ⟨v,h1,h2⟩=>⟨v,h1,h2.mono hR⟩,λ ⟨v,h1,A,cap,es,h2,_⟩=>by subst h1; subst h2; simp [Value.oneCell']⟩
def bz{α:Type}(C:cG α)(k e:Nat)(R:az)(v:Value)(xs:List α)(Hs:ah):Prop :=
 (∃ A,v = .slice A 0 0∧xs=[]∧Hs=[])∨∃ b cap cs es,v = .slice (some ⟨b,0,none⟩) xs.length cap∧Hs=[(b,.cells cs e (0,0))]∧cs.size=cap * k∧xs.length≤cap∧bf C k R xs es∧∀ (j:Nat) (w:Value),es[j]? = some w→cs[j]? = some w
theorem bz.mono{α:Type}{C:cG α}[CM C]{k e:Nat}{R R':az}{v:Value}{xs:List α}{Hs:ah}(h:bz C k e R v xs Hs)(hR:aO R R'):bz C k e R' v xs Hs:=by
 rcases h with h | ⟨b,cap,cs,es,h1,h2,h3,h4,h5,h6⟩
 ·exact .inl h
 ·exact .inr ⟨b,cap,cs,es,h1,h2,h3,h4,h5.mono hR,h6⟩
theorem bz.nil{α:Type}{C:cG α}{k e:Nat}{R:az}{A:Option Addr}:bz C k e R (.slice A 0 0) [] []:=.inl ⟨A,rfl,rfl,rfl⟩
def pJ{α:Type}(C:cG α)(k:Nat)(R:az)(H:ah)(v:Value)(ys:List α):Prop :=
 ∃ A cap es,v = .slice A ys.length cap∧bf C k R ys es∧(ys≠[]→∃ b o,A=some ⟨b,o,none⟩∧aS R H b o es)
theorem aa.arg{α:Type}{C:cG α}{k:Nat}{R:az}{H:ah}{v:Value}{xs:List α}(h:aa C k R v xs):pJ C k R H v xs:=by
 obtain ⟨A,cap,es,h1,h2,_,h3⟩:=h
 refine ⟨A,cap,es,h1,h2,λ hx=>?_⟩
 obtain ⟨b,o,arr,e,fz,g1,g2,g3⟩:=h3 hx
 exact ⟨b,o,g1,λ j w hj=>⟨rfl,arr,e,fz,.inl g2,g3 j w hj⟩⟩
theorem pJ.lit{α:Type}{C:cG α}{k e n cap b:Nat}{R:az}{H:ah}{ys:List α}{cs:Array Value}{fz:Nat × Nat}(hm:(b,Obj.cells cs e fz)∈H)(hE:bf C k R ys cs.toList)(hn:ys.length=n):pJ C k R H (.slice (some ⟨b,0,none⟩) n cap) ys:=by
 subst hn
 exact ⟨_,cap,cs.toList,rfl,hE,λ _=>⟨b,0,rfl,λ j w hj=>⟨rfl,cs,e,fz,.inr hm,by simpa using hj⟩⟩⟩
def lE(G:ah→ah):Prop:=∃ A D,∀ X,G X=A++(X++D)
theorem lE.set{G:ah→ah}(hG:lE G){b:Nat}{o o':Obj}:fl (G [(b,o)]) b o o' (G [(b,o')]):=by
 obtain ⟨A,D,h⟩:=hG
 rw [h,h]
 clear h
 induction A with
 | nil=>exact .here
 | cons p A ih=>exact .there ih
end Go.Lg
namespace Go.Lg
open Go.Conc
section
variable {P:Program} {B:Base} {main:Bool} {ab:Jd P B main} {c:Ctx} {R:az} {H H':ah} {st st':St} {o:Oper} {C:az→ah→St→Prop}
def yu(P:Program)(t:TypeId)(v:Value)(i:Int)(b n:Nat):Prop:=∀ kd,ai P (Instr.indexAt t v (.int kd i)) (.pointer (some ⟨b,n,none⟩))
theorem aa.elem{α:Type}{K:cG α}{k t e:Nat}{v:Value}{xs:List α}{i:Int}{x:α}(h:aa K k R v xs)(ht:mZ P t e k)(hi:idx xs i=some x) :
  ∃ b n es,K R x es∧aS R [] b n es∧yu P t v i b n:=by
 obtain ⟨h1,h2,h3⟩:=vu hi
 obtain ⟨A,cap,es,rfl,hE,_,hc⟩:=h
 obtain ⟨b,o,arr,e',fz,rfl,g2,g3⟩:=hc (by rintro rfl; simp at h3)
 obtain ⟨e1,f1,f2,f3⟩:=hE.at_ _ _ h3
 refine ⟨b,o+i.toNat * k,e1,f1,λ j w hj=>⟨rfl,arr,e',fz,.inl g2,?_⟩,λ kd=>?_⟩
 ·have:=g3 _ _ (f3 j w hj)
  simpa [Nat.add_assoc] using this
 ·have:=abM (P:=P) (b:=b) (m:=o) (cap:=cap) (kd:=kd) ht (j:=i.toNat) (len:=xs.length) (by omega)
  rwa [Int.toNat_of_nonneg h1] at this
theorem Ox.Qf{x y:Operand}{t:TypeId}{v:Value}{kd:IntKind}{i:Int}{b n:Nat}(au:o.op = .indexAddr t x y)(hx:bj st x=some v)(hy:bj st y=some (.int kd i))(hv:yu P t v i b n)
  (hd:cj o.dst c.n) (hs:aI (cx o.dst (.pointer (some ⟨b,n,none⟩)) st) st') (h:C R H st'):aZ P B c o R H st C :=
 Ox.mP (s:=λ ρ=>Instr.indexAt t (ρ x) (ρ y)) (by rw [au]; rfl) hd (λ ρ=>by simp only [execOp,au]) (λ ρ bl=>by rw [bl x _ hx,bl y _ hy]; exact hv kd) hs h
theorem agK{t e len k b m:Nat}{i:Int}(ht:wG P t len e k)(hi:0≤i∧i < len):yu P t (.pointer (some ⟨b,m,none⟩)) i b (m+i.toNat * k):=λ kd=>by
 have:=aKc (P:=P) (b:=b) (m:=m) (kd:=kd) ht (j:=i.toNat) (by omega)
 rwa [Int.toNat_of_nonneg hi.1] at this
theorem Ox.re{α:Type}{K:cG α}{k:Nat}{x:Operand}{t e:TypeId}{v:Value}{xs:List α}(au:o.op = .call ⟨.builtin .len,#[x],#[t]⟩)(hx:bj st x=some v)(hl:aa K k R v xs)(ht:P.underlying t=some (.slice e))
  (hd:cj o.dst c.n) (hs:aI (cx o.dst (.int .i64 (xs.length:Int)) st) st') (h:C R H st'):aZ P B c o R H st C:=by
 obtain ⟨A,cap,es,rfl,_⟩:=hl
 exact Ox.len au hx ht hd hs h
theorem Ox.za{α:Type}{K:cG α}{k e':Nat}{x:Operand}{t e:TypeId}{v:Value}{xs:List α}{Hs:ah}(au:o.op = .call ⟨.builtin .len,#[x],#[t]⟩)(hx:bj st x=some v)(hl:bz K k e' R v xs Hs)(ht:P.underlying t=some (.slice e))
  (hd:cj o.dst c.n) (hs:aI (cx o.dst (.int .i64 (xs.length:Int)) st) st') (h:C R H st'):aZ P B c o R H st C:=by
 rcases hl with ⟨A,rfl,rfl,_⟩ | ⟨b,cap,cs,es,rfl,_⟩
 ·exact Ox.len au hx ht hd hs h
 ·exact Ox.len au hx ht hd hs h
def i64(z:Int):Int:=IntKind.wrap .i64 z
theorem Qc{z:Int}(h : -9223372036854775808≤z∧z≤9223372036854775807):i64 z=z:=akp h
theorem Ox.ar{x y:Operand}{bo:BinOp}{t u:TypeId}{a b z:Int}{kd:IntKind}(au:o.op = .binOp bo t x y u)(hx:bj st x=some (.int kd a))(hy:bj st y=some (.int kd b))(hr:TS bo a b=some z)
  (hd:cj o.dst c.n) (hs:aI (cx o.dst (.int kd (kd.wrap z)) st) st') (h:C R H st'):aZ P B c o R H st C :=
 Ox.mP (s:=λ ρ=>do eqGuard bo t x y (ρ x) (ρ y); binOp bo t (ρ x) (ρ y)) (by rw [au]; rfl) hd (λ ρ=>by simp only [execOp,au]) (λ ρ bl=>by
  rw [bl x _ hx,bl y _ hy]
  refine ai.bH (H3 _ _ _ _ _ _ _ _) ?_
  cases bo <;> simp only [TS,iS,reduceCtorEq] at hr <;> subst hr <;> simp only [binOp,ne_eq,kV,if_false,Op.intArith] <;> exact ai.bD _) hs h
def HN(kd:IntKind)(a b:Int):Option Int:=if b < 0 then none else some (kd.wrap (a * 2 ^ (min b.toNat kd.bits)))
def mJ(kd:IntKind)(a b:Int):Option Int:=if b < 0 then none else some (a.fdiv (2 ^ (min b.toNat kd.bits)))
theorem Ox.shl{x y:Operand}{t u:TypeId}{a b z:Int}{kd yk:IntKind}(au:o.op = .binOp .shl t x y u)(hx:bj st x=some (.int kd a))(hy:bj st y=some (.int yk b))(hr:HN kd a b=some z)
  (hd:cj o.dst c.n) (hs:aI (cx o.dst (.int kd z) st) st') (h:C R H st'):aZ P B c o R H st C :=
 Ox.mP (s:=λ ρ=>do eqGuard .shl t x y (ρ x) (ρ y); binOp .shl t (ρ x) (ρ y)) (by rw [au]; rfl) hd (λ ρ=>by simp only [execOp,au]) (λ ρ bl=>by
  rw [bl x _ hx,bl y _ hy]
  refine ai.bH (H3 _ _ _ _ _ _ _ _) ?_
  unfold HN at hr
  split at hr
  ·cases hr
  ·cases hr; simp only [binOp,Op.shift,if_false, *]; exact ai.bD _) hs h
theorem Ox.shr{x y:Operand}{t u:TypeId}{a b z:Int}{kd yk:IntKind}(au:o.op = .binOp .shr t x y u)(hx:bj st x=some (.int kd a))(hy:bj st y=some (.int yk b))(hr:mJ kd a b=some z)
  (hd:cj o.dst c.n) (hs:aI (cx o.dst (.int kd z) st) st') (h:C R H st'):aZ P B c o R H st C :=
 Ox.mP (s:=λ ρ=>do eqGuard .shr t x y (ρ x) (ρ y); binOp .shr t (ρ x) (ρ y)) (by rw [au]; rfl) hd (λ ρ=>by simp only [execOp,au]) (λ ρ bl=>by
  rw [bl x _ hx,bl y _ hy]
  refine ai.bH (H3 _ _ _ _ _ _ _ _) ?_
  unfold mJ at hr
  split at hr
  ·cases hr
  ·cases hr; simp only [binOp,Op.shift,if_false, *]; exact ai.bD _) hs h
def gu(bo:BinOp)(kd:IntKind)(a b:Int):Option Int :=
 let a:=BitVec.ofInt kd.bits a
 let b:=BitVec.ofInt kd.bits b
 match bo with
 | .and=>some (kd.wrap (a &&& b).toNat)
 | .or=>some (kd.wrap (a ||| b).toNat)
 | .xor=>some (kd.wrap (a ^^^ b).toNat)
 | .andNot=>some (kd.wrap (a &&& ~~~b).toNat)
 | _=>none
theorem Ox.bits{x y:Operand}{bo:BinOp}{t u:TypeId}{a b z:Int}{kd:IntKind}(au:o.op = .binOp bo t x y u)(hx:bj st x=some (.int kd a))(hy:bj st y=some (.int kd b))(hr:gu bo kd a b=some z)
  (hd:cj o.dst c.n) (hs:aI (cx o.dst (.int kd z) st) st') (h:C R H st'):aZ P B c o R H st C :=
 Ox.mP (s:=λ ρ=>do eqGuard bo t x y (ρ x) (ρ y); binOp bo t (ρ x) (ρ y)) (by rw [au]; rfl) hd (λ ρ=>by simp only [execOp,au]) (λ ρ bl=>by
  rw [bl x _ hx,bl y _ hy]
  refine ai.bH (H3 _ _ _ _ _ _ _ _) ?_
  cases bo <;> simp only [gu,iS,reduceCtorEq] at hr <;> subst hr <;> simp only [binOp,ne_eq,kV,if_false,Op.intBits] <;> exact ai.bD _) hs h
def aeg:BinOp→ByteArray→ByteArray→Option Bool
 | .eql,x,y=>some (x.toList == y.toList)
 | .neq,x,y=>some (!(x.toList == y.toList))
 | _,_,_=>none
theorem aKb(op:BinOp)(t:TypeId)(x y:Operand)(a b:ByteArray):ai P (eqGuard op t x y (.string a) (.string b)) ():=by
 unfold eqGuard
 cases op <;> exact ai.bD _
theorem Ox.aeh{x y:Operand}{bo:BinOp}{t u:TypeId}{a b:ByteArray}{r:Bool}(au:o.op = .binOp bo t x y u)(hx:bj st x=some (.string a))(hy:bj st y=some (.string b))(hr:aeg bo a b=some r)
  (hd:cj o.dst c.n) (hs:aI (cx o.dst (.bool r) st) st') (h:C R H st'):aZ P B c o R H st C :=
 Ox.mP (s:=λ ρ=>do eqGuard bo t x y (ρ x) (ρ y); binOp bo t (ρ x) (ρ y)) (by rw [au]; rfl) hd (λ ρ=>by simp only [execOp,au]) (λ ρ bl=>by
  rw [bl x _ hx,bl y _ hy]
  refine ai.bH (aKb _ _ _ _ _ _) ?_
  cases bo <;> simp only [aeg,iS,reduceCtorEq] at hr <;> subst hr <;> simp only [binOp,Op.stringOp] <;> exact ai.bD _) hs h
def Jc:BinOp→Bool→Bool→Option Bool
 | .eql,x,y=>some (x == y)
 | .neq,x,y=>some (!(x == y))
 | _,_,_=>none
theorem aKa(op:BinOp)(t:TypeId)(x y:Operand)(a b:Bool):ai P (eqGuard op t x y (.bool a) (.bool b)) ():=by
 unfold eqGuard
 cases op <;> exact ai.bD _
theorem aJ7{t:TypeId}(ht:P.underlying t=some .bool)(a b:Bool):ai P (Op.equal t (.bool a) (.bool b)) (a == b):=by
 unfold Op.equal Op.maxDepth
 rw [Op.equalIn]
 exact ai.bH (ai.underlying ht) (ai.bD _)
theorem Ox.Je{x y:Operand}{bo:BinOp}{t u:TypeId}{a b r:Bool}(au:o.op = .binOp bo t x y u)(hx:bj st x=some (.bool a))(hy:bj st y=some (.bool b))(ht:P.underlying t=some .bool)(hr:Jc bo a b=some r)
  (hd:cj o.dst c.n) (hs:aI (cx o.dst (.bool r) st) st') (h:C R H st'):aZ P B c o R H st C :=
 Ox.mP (s:=λ ρ=>do eqGuard bo t x y (ρ x) (ρ y); binOp bo t (ρ x) (ρ y)) (by rw [au]; rfl) hd (λ ρ=>by simp only [execOp,au]) (λ ρ bl=>by
  rw [bl x _ hx,bl y _ hy]
  refine ai.bH (aKa _ _ _ _ _ _) ?_
  cases bo <;> simp only [Jc,iS,reduceCtorEq] at hr <;> subst hr <;> simp only [binOp] <;> exact ai.bH (aJ7 ht a b) (ai.bD _)) hs h
theorem Ox.Jb{x y:Operand}{bo:BinOp}{t u:TypeId}{a b:Array Value}{q:Bool}(au:o.op = .binOp bo t x y u)(hx:bj st x=some (.agg a))(hy:bj st y=some (.agg b))(hg:P.eqGuardType P.depth t=false)(hq:ai P (Op.equal t (.agg a) (.agg b)) q){r:Bool}(hr:Jc bo q true=some r)
  (hd:cj o.dst c.n) (hs:aI (cx o.dst (.bool r) st) st') (h:C R H st'):aZ P B c o R H st C :=
 Ox.mP (s:=λ ρ=>do eqGuard bo t x y (ρ x) (ρ y); binOp bo t (ρ x) (ρ y)) (by rw [au]; rfl) hd (λ ρ=>by simp only [execOp,au]) (λ ρ bl=>by
  rw [bl x _ hx,bl y _ hy]
  have hgd:ai P (eqGuard bo t x y (.agg a) (.agg b)) ():=by
   unfold eqGuard
   cases bo <;> simp only [Jc,reduceCtorEq] at hr <;> exact ai.bH ai.program (ai.bH ai.program (by simp only [hg]; exact ai.bD _))
  refine ai.bH hgd ?_
  cases bo <;> simp only [Jc,iS,reduceCtorEq] at hr <;> subst hr <;> simp only [binOp]
  ·exact ai.bH hq (by cases q <;> exact ai.bD _)
  ·exact ai.bH hq (by cases q <;> exact ai.bD _)) hs h
def tJ:Int→List Int→Int
 | x,[]=>x
 | x,y::r=>tJ (if y > x then y else x) r
def Mq:Int→List Int→Int
 | x,[]=>x
 | x,y::r=>Mq (if y < x then y else x) r
theorem ajF{kd:IntKind}:∀ (l:List Int) (x:Int),ai P ((l.map (Value.int kd)).foldlM Builtin.max2 (.int kd x)) (.int kd (tJ x l))
 | [],x=>ai.bD _
 | y::r,x=>by
  simp only [List.map_cons,List.foldlM_cons,tJ]
  exact ai.bH (a:=.int kd (if y > x then y else x)) (ai.bD _) (ajF r _)
theorem ajG{kd:IntKind}:∀ (l:List Int) (x:Int),ai P ((l.map (Value.int kd)).foldlM Builtin.min2 (.int kd x)) (.int kd (Mq x l))
 | [],x=>ai.bD _
 | y::r,x=>by
  simp only [List.map_cons,List.foldlM_cons,Mq]
  exact ai.bH (a:=.int kd (if y < x then y else x)) (ai.bD _) (ajG r _)
theorem Ox.max{xs:Array Operand}{ts:Array TypeId}{kd:IntKind}{a:Int}{l:List Int}(au:o.op = .call ⟨.builtin .max,xs,ts⟩)(hx:ji st xs.toList=some (.int kd a::l.map (Value.int kd)))
  (hd:cj o.dst c.n) (hs:aI (cx o.dst (.int kd (tJ a l)) st) st') (h:C R H st'):aZ P B c o R H st C :=
 Ox.val (by rw [au]; rfl) hd (λ ρ bl=>by
  simp only [execOp,au]
  refine ai.bH (a:=⟨.builtin .max ts o.type (xs.map λ | .const _=>true | _=>false),xs.map ρ⟩) (ai.bD _) ?_
  simp only [invoke,builtin,Builtin.max_]
  have e:(xs.map ρ).toList = .int kd a::l.map (Value.int kd):=by simpa using Cw bl _ _ hx
  rw [e]
  exact ai.bH (ajF l a) (ai.bD _)) hs h
theorem Ox.min{xs:Array Operand}{ts:Array TypeId}{kd:IntKind}{a:Int}{l:List Int}(au:o.op = .call ⟨.builtin .min,xs,ts⟩)(hx:ji st xs.toList=some (.int kd a::l.map (Value.int kd)))
  (hd:cj o.dst c.n) (hs:aI (cx o.dst (.int kd (Mq a l)) st) st') (h:C R H st'):aZ P B c o R H st C :=
 Ox.val (by rw [au]; rfl) hd (λ ρ bl=>by
  simp only [execOp,au]
  refine ai.bH (a:=⟨.builtin .min ts o.type (xs.map λ | .const _=>true | _=>false),xs.map ρ⟩) (ai.bD _) ?_
  simp only [invoke,builtin,Builtin.min_]
  have e:(xs.map ρ).toList = .int kd a::l.map (Value.int kd):=by simpa using Cw bl _ _ hx
  rw [e]
  exact ai.bH (ajG l a) (ai.bD _)) hs h
theorem Ox.aon{x:Operand}{t u:TypeId}{kd ks k0:IntKind}{a:Int}(au:o.op = .convert t u x)(hx:bj st x=some (.int ks a))(ht:P.underlying t=some (.int k0))(hu:P.underlying u=some (.int kd))
  (hd:cj o.dst c.n) (hs:aI (cx o.dst (.int kd (kd.wrap a)) st) st') (h:C R H st'):aZ P B c o R H st C :=
 Ox.mP (s:=λ ρ=>convert t u (ρ x)) (by rw [au]; rfl) hd (λ ρ=>by simp only [execOp,au]) (λ ρ bl=>by
  rw [bl x _ hx]
  unfold convert
  refine ai.bH (ai.underlying ht) (ai.bH (ai.underlying hu) ?_)
  exact ai.bD _) hs h
theorem Jf{α:Type}{xs ys:List α}{lo hi:Int}(h:kF xs lo hi=some ys):0≤lo∧lo≤hi∧hi≤xs.length∧ys=(xs.take hi.toNat).drop lo.toNat:=by
 unfold kF at h
 split at h
 ·cases h; rename_i h; exact ⟨h.1,h.2.1,h.2.2,rfl⟩
 ·cases h
def LA(st:St):Option Operand→Option Int
 | none=>some 0
 | some x=>match bj st x with | some (.int _ i)=>some i | _=>none
def J8(st:St)(n:Nat):Option Operand→Option Int
 | none=>some n
 | some x=>match bj st x with | some (.int _ i)=>some i | _=>none
theorem Si{kd:IntKind}{i:Int}{y:Nat}{cd:BoundsCode}(h:0≤i∧i≤y):ai P (Instr.sliceBound (.int kd i) y cd) i.toNat:=by
 unfold Instr.sliceBound
 refine ai.bH (a:=(kd,i)) (ai.bD _) ?_
 simp only [h,and_self,if_true]
 exact ai.bD _
theorem Sj{ρ:Operand→Value}(bl:Knows st ρ){len cap:Nat}{lo hi:Option Operand}{l h:Int}(hl:LA st lo=some l)(hh:J8 st len hi=some h)(hb:0≤l∧l≤h∧h≤len)(hc:len≤cap) :
  ai P (Instr.sliceBounds true len cap (lo.map ρ) (hi.map ρ) none) (l.toNat,h.toNat,cap):=by
 have h1:(lo=none∧l=0)∨∃ x kd,lo=some x∧ρ x = .int kd l:=by
  cases lo with
  | none=>simp only [LA,iS] at hl; exact .inl ⟨rfl,hl.symm⟩
  | some x =>
   simp only [LA] at hl
   cases hx:bj st x with
   | none=>simp [hx] at hl
   | some v =>
    cases v <;> simp [hx] at hl
    subst hl
    exact .inr ⟨x,_,rfl,bl x _ hx⟩
 have h2:(hi=none∧h=len)∨∃ x kd,hi=some x∧ρ x = .int kd h:=by
  cases hi with
  | none=>simp only [J8,iS] at hh; exact .inl ⟨rfl,hh.symm⟩
  | some x =>
   simp only [J8] at hh
   cases hx:bj st x with
   | none=>simp [hx] at hh
   | some v =>
    cases v <;> simp [hx] at hh
    subst hh
    exact .inr ⟨x,_,rfl,bl x _ hx⟩
 unfold Instr.sliceBounds
 rcases h1 with ⟨rfl,rfl⟩ | ⟨x,kx,rfl,hx⟩ <;> rcases h2 with ⟨rfl,rfl⟩ | ⟨y,ky,rfl,hy⟩ <;> simp only [Option.map_none,Option.map_some, *]
 ·exact ai.bH (a:=cap) (ai.bD _) (ai.bH (a:=(len:Int).toNat) (by rw [n9]; exact ai.bD _) (ai.bH (a:=(0:Int).toNat) (ai.bD _) (ai.bD _)))
 ·exact ai.bH (a:=cap) (ai.bD _) (ai.bH (a:=h.toNat) (Si ⟨by omega,by omega⟩) (ai.bH (a:=(0:Int).toNat) (ai.bD _) (ai.bD _)))
 ·exact ai.bH (a:=cap) (ai.bD _) (ai.bH (a:=(len:Int).toNat) (by rw [n9]; exact ai.bD _) (ai.bH (a:=l.toNat) (Si ⟨by omega,by omega⟩) (ai.bD _)))
 ·exact ai.bH (a:=cap) (ai.bD _) (ai.bH (a:=h.toNat) (Si ⟨by omega,by omega⟩) (ai.bH (a:=l.toNat) (Si ⟨by omega,by omega⟩) (ai.bD _)))
end
theorem EG:∀ (vs:List Value) (cs:Array Value) (o j:Nat),o+vs.length≤cs.size→(gl cs o vs)[j]? = if o≤j∧j < o+vs.length then vs[j - o]? else cs[j]?
 | [],cs,o,j,_=>by
  simp only [gl,List.length_nil,Nat.add_zero]
  rw [if_neg (by omega)]
 | v::r,cs,o,j,h=>by
  simp only [List.length_cons] at h
  simp only [gl]
  rw [EG r _ (o+1) j (by simp; omega)]
  by_cases h1:o+1≤j∧j < o+1+r.length
  ·rw [if_pos h1,if_pos (by simp only [List.length_cons]; omega)]
   have:j - o=(j - (o+1))+1:=by omega
   rw [this]; simp
  ·rw [if_neg h1]
   by_cases h2:o=j
   ·subst h2
    rw [if_pos (by simp only [List.length_cons]; omega)]
    rw [uE (by omega)]
    simp
   ·rw [if_neg (by simp only [List.length_cons]; omega),mW h2]
structure sY (P:Program) (t e k:Nat):Prop where
 sl:P.underlying t=some (.slice e)
 size:ai P (sizeOf e) k
 info:∃ i,P.info? e=some i∧i.bytes≤65536
 zero:∃ z,ai P (zeroValue e) z∧z.cells.size=k
section
variable {P:Program} {B:Base} {main:Bool} {ab:Jd P B main} {c:Ctx} {R:az} {H H':ah} {st st':St} {o:Oper}
theorem aQ.weaken{α:Type}{s:Sem α}{K K':α→az→ah→Prop}(h:aQ P B R H s K)(hk:∀ a R' H',K a R' H'→∃ cN dY,(∀ w,Fits B R' H' w→gf B R' H' w cN dY w)∧K' a cN dY):aQ P B R H s K':=by
 intro w hw
 obtain ⟨a,w',R',H',h1,h2,h3,h4⟩:=h w hw
 obtain ⟨cN,dY,g1,g2⟩:=hk a R' H' h4
 exact ⟨a,w',cN,dY,h1,h2,h3.trans (g1 w' h3.fits),g2⟩
theorem aQ.firstCells{α:Type}{K:cG α}{k:Nat}{u:Value}{ys:List α}{Q:Array Value→az→ah→Prop}(hu:pJ K k R H u ys)(hQ:∀ es:List Value,bf K k R ys es→Q es.toArray R H):aQ P B R H (Builtin.firstCells k ys.length u) Q:=by
 obtain ⟨A,cap,es,rfl,hE,hc⟩:=hu
 cases ys with
 | nil =>
  have e0:es=[]:=by have:=hE.len; simpa using this
  subst e0
  cases A with
  | none=>exact aQ.dT (hQ [] hE)
  | some a =>
   simp only [Builtin.firstCells,List.length_nil,Nat.zero_mul,loadCells]
   exact aQ.dT (hQ [] hE)
 | cons y ys =>
  obtain ⟨b,o,rfl,pb⟩:=hc (by simp)
  simp only [Builtin.firstCells,loadCells]
  rw [← hE.len]
  exact aQ.loadCellsFrom es 0 #[] (by simpa using pb) (by simpa using hQ es hE)
theorem bz.arg{α:Type}{K:cG α}{k e:Nat}{G:ah→ah}(hG:lE G){v:Value}{xs:List α}{Hs:ah}(h:bz K k e R v xs Hs):pJ K k R (G Hs) v xs:=by
 rcases h with ⟨A,rfl,rfl,_⟩ | ⟨b,cap,cs,es,rfl,rfl,h3,h4,h5,h6⟩
 ·exact ⟨A,0,[],rfl,.nil,λ h=>absurd rfl h⟩
 ·refine ⟨_,cap,es,rfl,h5,λ _=>⟨b,0,rfl,λ j w hj=>⟨rfl,cs,e,(0,0),.inr ?_,by simpa using h6 j w hj⟩⟩⟩
  obtain ⟨A,D,AU⟩:=hG
  rw [AU]; simp
theorem aGZ{n m:Nat}(h:m < n)(hn:n≤16777216):Builtin.nextslicecap n m≤67108864:=by
 unfold Builtin.nextslicecap
 split
 ·omega
 ·split
  ·omega
  ·have:∀ (r c:Nat),c≤16777216→Builtin.growBy n r c≤67108864:=by
    intro r
    induction r with
    | zero=>intro c hc; simp only [Builtin.growBy]; omega
    | succ r ih =>
     intro c hc
     simp only [Builtin.growBy]
     split
     ·omega
     ·rename_i fg
      by_cases h2:c+(c+768) / 4≤16777216
      ·exact ih _ h2
      ·
       cases r with
       | zero=>simp only [Builtin.growBy]; omega
       | succ r=>simp only [Builtin.growBy]; rw [if_pos (by omega)]; omega
   exact this 4 m (by omega)
theorem aQ.append{α:Type}{K:cG α}[CM K]{k t e xT T:Nat}{G:ah→ah}(hG:lE G){v u:Value}{xs ys:List α}{Hs:ah}{dx:TypeDesc}(ht:sY P t e k)(ZR:P.underlying xT=some dx)(Wr:∀ kd,dx ≠ .int kd)
  (hO:bz K k e R v xs Hs) (hu:pJ K k R (G Hs) u ys) (hl:xs.length+ys.length≤16777216) {Q:Value→az→ah→Prop} (hk:∀ v' dV,bz K k e R v' (xs++ys) dV→Q v' R (G dV)) :
  aQ P B R (G Hs) (Builtin.append_ #[t,xT] T #[v,u]) Q:=by
 obtain ⟨A2,aSk,es2,hu2⟩:=id hu
 have hv:∃ base cap,v = .slice base xs.length cap:=by
  rcases hO with ⟨A,rfl,rfl,_⟩ | ⟨b,cap,cs,es,rfl,_⟩
  ·exact ⟨A,0,rfl⟩
  ·exact ⟨_,cap,rfl⟩
 obtain ⟨base,cap,rfl⟩:=hv
 obtain ⟨i,hi,as8⟩:=ht.info
 obtain ⟨z,hz,hzs⟩:=ht.zero
 have hlen:ai P (Builtin.lenOf u) ys.length:=by rw [hu2.1]; exact ai.bD _
 have run:aQ P B R (G Hs) (do
   let iA:=xs.length+ys.length
   if iA≤cap then do
    let new ← Builtin.firstCells k ys.length u
    if let some a:=base then storeCells (a.add (xs.length * k)) new.toList
    Pure.pure (Value.slice base iA cap)
   else do
    if (iA:Int) > IntKind.i64.max∧(false=true∨(← typeInfo e).bytes=0) then runtimePanic (.error "growslice: len out of range")
    if Builtin.nextslicecap iA cap * (← typeInfo e).bytes > 2 ^ 48 then (if false=true then runtimePanic (.error "growslice: len out of range") else do
     if !(← Builtin.mayShare k xs.length ys.length base u) then mark .noRoom
     unsupported (.resourceLimit "append: a slice or a string whose bytes no memory bears"))
    let BH ← Go.choose (Question.appendCap iA cap e)
    askRoom (BH * (← typeInfo e).bytes)
    let old ← Builtin.firstCells k xs.length (.slice base xs.length cap)
    let new ← Builtin.firstCells k ys.length u
    let rest:=Builtin.zeroCells (← zeroValue e).cells (BH - iA)
    Pure.pure (Value.slice (some (← newRow e (old++new++rest))) iA BH)) Q:=by
  dsimp only
  by_cases hc:xs.length+ys.length≤cap
  ·rw [if_pos hc]
   refine aQ.du (aQ.firstCells hu λ es hE=>?_)
   rcases hO with ⟨A,e1,rfl,rfl⟩ | ⟨b,aSj,cs,CK,e1,rfl,h3,h4,h5,h6⟩
   ·injection e1 with e1 e2 e3
    subst e1; subst e3
    have hy:ys=[]:=by simpa using hc
    subst hy
    have e0:es=[]:=by have:=hE.len; simpa using this
    subst e0
    have key:Q (.slice base ([]:List α).length 0) R (G []):=hk _ [] (.inl ⟨base,rfl,by simp,rfl⟩)
    cases base with
    | none=>exact aQ.du (aQ.dT (aQ.dT key))
    | some a=>exact aQ.du (aQ.dT (aQ.dT key))
   ·injection e1 with e1 _ e3
    subst e1; subst e3
    dsimp only
    rw [show (⟨b,0,none⟩:Addr).add (xs.length * k)=⟨b,0+xs.length * k,none⟩ from s7 _ _ _,Nat.zero_add]
    refine aQ.given λ di=>aQ.du (aQ.RF es cs (xs.length * k) 0 (G [(b,.cells cs e (0,0))]) (G [(b,.cells (gl cs (xs.length * k) es) e (0,0))]) hE.one ?_ (by simpa using lE.set hG) di (aQ.dT ?_))
    ·rw [h3,hE.len,Nat.add_zero,← Nat.add_mul]; exact Nat.mul_le_mul_right k hc
    ·have yN:xs.length * k+es.length≤cs.size:=by rw [h3,hE.len,← Nat.add_mul]; exact Nat.mul_le_mul_right k hc
     refine hk _ _ (.inr ⟨b,cap,gl cs (xs.length * k) es,CK++es,by rw [lU],rfl,by rw [MF]; exact h3,by rw [lU]; exact hc,h5.append hE,λ j w hj=>?_⟩)
     rw [EG es cs _ _ yN]
     by_cases WY:j < CK.length
     ·rw [uF WY] at hj
      rw [if_neg (by rw [← h5.len]; omega)]
      exact h6 j w hj
     ·rw [pI (by omega)] at hj
      have:=(iC.1 hj).1
      rw [if_pos (by rw [← h5.len]; omega),← h5.len]
      exact hj
  ·rw [if_neg hc]
   have hnb:Builtin.nextslicecap (xs.length+ys.length) cap * i.bytes≤2 ^ 48:=by
    have h1:=aGZ (n:=xs.length+ys.length) (m:=cap) (by omega) hl
    calc _≤67108864 * 65536:=Nat.mul_le_mul h1 as8
     _≤2 ^ 48:=by decide
   have hni:¬ (((xs.length+ys.length:Nat):Int) > IntKind.i64.max∧(false=true∨i.bytes=0)):=by
    intro h
    have:IntKind.i64.max=9223372036854775807:=by decide
    omega
   refine ai.fe (ai.typeInfo hi) ?_
   rw [if_neg hni]
   refine ai.fe (ai.typeInfo hi) ?_
   rw [if_neg (by omega)]
   refine (aQ.du (aQ.choose λ tape=>ai.fe (ai.typeInfo hi) (aQ.du ?_)))
   have as7:∀ (n:Nat) (Q':Unit→az→ah→Prop),Q' () R (G Hs)→aQ P B R (G Hs) (askRoom n) Q':=by
    intro n Q' hq
    unfold askRoom
    split
    ·exact aQ.aGL hq
    ·exact aQ.dT hq
   refine as7 _ _ ?_
   simp only [Question.forced,nF,if_false,Question.cut]
   generalize yK:xs.length+ys.length+tape % (2 ^ 63 - (xs.length+ys.length))=BH
   refine aQ.du (aQ.firstCells (bz.arg hG hO) λ CK hEx=>aQ.du (aQ.firstCells hu λ OE hEy=>ai.fe hz ?_))
   simp only [newRow]
   refine aQ.du (aQ.du (aQ.weaken (aQ.new (K:=λ r R' H'=>R'=R∧H'=(r,.cells (CK.toArray++OE.toArray++Builtin.zeroCells z.cells (BH - (xs.length+ys.length))) e (0,0))::G Hs) λ r _ _=>⟨rfl,rfl⟩) λ r R' H' hrh=>?_))
   obtain ⟨rfl,rfl⟩:=hrh
   refine ⟨R',G [(r,.cells (CK.toArray++OE.toArray++Builtin.zeroCells z.cells (BH - (xs.length+ys.length))) e (0,0))],λ w hw=>?_,aQ.dT (aQ.dT (hk _ _ (.inr ⟨r,BH,_,CK++OE,by rw [lU],rfl,?_,by rw [lU]; omega,hEx.append hEy,λ j w hj=>?_⟩)))⟩
   ·obtain ⟨A,D,AU⟩:=hG
    rw [AU,AU] at *
    have h1:=abI (H':=A++(Hs++((r,.cells (CK.toArray++OE.toArray++Builtin.zeroCells z.cells (BH - (xs.length+ys.length))) e (0,0))::D))) (by simpa using List.perm_middle (l₁:=A++Hs)) hw
    refine h1.trans (RO ?_ h1.fits)
    exact List.Sublist.append_left (List.sublist_append_right _ _) _
   ·simp only [Array.size_append,List.size_toArray,hEx.len,hEy.len,Builtin.zeroCells,Array.size_map,Array.size_range,hzs]
    rw [← Nat.add_mul,← Nat.add_mul]
    congr 1; omega
   ·have:=(iC.1 hj).1
    rw [Array.getElem?_append_left (by simpa using this)]
    simpa using hj
 unfold Builtin.append_
 refine ai.fe (ai.underlying ht.sl) (ai.fe ht.size (ai.fe (ai.underlying ZR) (ai.fe (a:=false) (by cases dx <;> first | exact ai.bD _ | exact absurd rfl (Wr _)) ?_)))
 exact ai.fe hlen run
theorem Ox.append{α:Type}{K:cG α}[CM K]{k t e xT:Nat}(G:ah→ah){x y:Operand}{v u:Value}{xs ys zs:List α}{Hs:ah}{dx:TypeDesc}{C:az→ah→St→Prop}(au:o.op = .call ⟨.builtin .append,#[x,y],#[t,xT]⟩)(hx:bj st x=some v)(hy:bj st y=some u)
  (ht:sY P t e k) (ZR:P.underlying xT=some dx) (Wr:∀ kd,dx ≠ .int kd) (hG:lE G) (hO:bz K k e R v xs Hs) (hu:pJ K k R (G Hs) u ys) (hl:eV xs ys=some zs) (hd:cj o.dst c.n)
  (hC:∀ v' dV,bz K k e R v' zs dV→∃ st',aI (cx o.dst v' st) st'∧C R (G dV) st'):aZ P B c o R (G Hs) st C:=by
 obtain ⟨vd,rfl⟩:=anr hl
 refine ⟨by rw [au]; rfl,hd,λ ρ bl=>?_⟩
 simp only [execOp,au]
 refine ai.fe (a:=⟨.builtin .append #[t,xT] o.type (#[x,y].map λ | .const _=>true | _=>false),#[x,y].map ρ⟩) (ai.bD _) ?_
 simp only [invoke,builtin]
 have e:(#[x,y].map ρ)=#[v,u]:=by simp [bl x _ hx,bl y _ hy]
 rw [e]
 refine aQ.du (aQ.append hG ht ZR Wr hO hu vd λ v' dV OQ=>aQ.dT ?_)
 obtain ⟨st',hs,h⟩:=hC v' dV OQ
 exact ⟨v',.inl rfl,st',hs,h⟩
theorem U.lM{α:Type}{K:cG α}[CM K]{k e:Nat}{todo:List Item}(G:ah→ah)(hG:lE G){v:Value}{xs:List α}{Hs H2:ah}(h2:G []=H2)(hO:bz K k e R v xs Hs)(h:∀ R',aO R R'→aa K k R' v xs→U ab c R' H2 st todo):U ab c R (G Hs) st todo:=by
 subst h2
 rcases hO with ⟨A,rfl,rfl,rfl⟩ | ⟨b,cap,cs,es,rfl,rfl,h3,h4,h5,h6⟩
 ·exact h R (aO.refl R) .nil
 ·obtain ⟨A,D,AU⟩:=hG
  rw [AU] at h ⊢
  refine U.perm (H':=(b,.cells cs e (0,0))::(A++([]++D))) (by simpa using List.perm_middle.symm) (U.freeze λ R' hR hb=>h R' hR ?_)
  exact ⟨_,cap,es,rfl,h5.mono hR,h4,λ _=>⟨b,0,cs,e,(0,0),rfl,hb,λ j w hj=>by simpa using h6 j w hj⟩⟩
theorem U.pY{α:Type}{K:cG α}[CM K]{k e b n:Nat}{todo:List Item}(G:ah→ah)(hG:lE G){H2:ah}(h2:G []=H2){ys:List α}{cs:Array Value}(hE:bf K k R ys cs.toList)(hn:ys.length=n)(h:∀ R',aO R R'→aa K k R' (.slice (some ⟨b,0,none⟩) n n) ys→U ab c R' H2 st todo):U ab c R (G [(b,.cells cs e (0,0))]) st todo:=by
 subst hn h2
 obtain ⟨A,D,AU⟩:=hG
 rw [AU] at h ⊢
 refine U.perm (H':=(b,.cells cs e (0,0))::(A++([]++D))) (by simpa using List.perm_middle.symm) (U.freeze λ R' hR hb=>h R' hR ?_)
 exact ⟨_,ys.length,cs.toList,rfl,hE.mono hR,eR _,λ _=>⟨b,0,cs,e,(0,0),rfl,hb,λ j w hj=>by simpa using hj⟩⟩
theorem bz.lit{α:Type}{K:cG α}{k e b n:Nat}{ys:List α}{cs:Array Value}(hE:bf K k R ys cs.toList)(hn:ys.length=n):bz K k e R (.slice (some ⟨b,0,none⟩) n n) ys [(b,.cells cs e (0,0))]:=by
 subst hn
 exact .inr ⟨b,_,cs,cs.toList,rfl,rfl,by simpa using hE.len,eR _,hE,λ j w hj=>by simpa using hj⟩
end
theorem aI.one{dst:Option Tmp}{d:Tmp}{v:Value}{st:St}(h:dst=some d):aI (cx dst v st) [(d,v)]:=by
 subst h
 intro t u hu
 simp only [List.lookup_cons,List.lookup_nil] at hu
 simp only [cx,List.lookup_cons]
 split at hu
 ·exact hu
 ·cases hu
theorem fl.skip{Ks H H':ah}{b:Nat}{o o':Obj}(h:fl H b o o' H'):fl (Ks++H) b o o' (Ks++H'):=by
 induction Ks with
 | nil=>exact h
 | cons p Ks ih=>exact .there ih
theorem aS.box{R:az}{H:ah}{b:Nat}{e:TypeId}{fz:Nat × Nat}{L:List Value}(hm:(b,Obj.cells L.toArray e fz)∈H):aS R H b 0 L:=λ j v hj=>⟨rfl,_,e,fz,.inr hm,by simpa using hj⟩
theorem lE.id{D:ah}:lE (λ X=>X++D):=⟨[],D,λ _=>rfl⟩
theorem lE.cons{p:Nat × Obj}{G:ah→ah}(h:lE G):lE (λ X=>p::G X):=by
 obtain ⟨A,D,h⟩:=h
 exact ⟨p::A,D,λ X=>by show p::G X=_; rw [h]; rfl⟩
theorem lE.app{L:ah}{G:ah→ah}(h:lE G):lE (λ X=>L++G X):=by
 obtain ⟨A,D,h⟩:=h
 exact ⟨L++A,D,λ X=>by show L++G X=_; rw [h,List.append_assoc]⟩
theorem jj{place:Nat→Option (Nat × Nat)}{cells:Array Value}:Instr.fill place cells []=some cells:=rfl
theorem aIb(vc:List Value):∀ (cells:Array Value) (off j:Nat),(vc.zipIdx j).foldl (λ cs (c,i)=>cs.setIfInBounds (off+i) c) cells=gl cells (off+j) vc:=by
 induction vc with
 | nil=>intro cells off j; rfl
 | cons v r ih=>intro cells off j; simp only [List.zipIdx_cons,List.foldl_cons,gl]; rw [ih]; rfl
theorem aIc(vc cells:Array Value)(off:Nat):vc.zipIdx.foldl (λ cs (c,i)=>cs.setIfInBounds (off+i) c) cells=gl cells off vc.toList:=by
 have h:=aIb vc.toList cells off 0
 rw [Nat.add_zero] at h
 rw [← h,← Array.foldl_toList]
 simp
theorem jY{place:Nat→Option (Nat × Nat)}{cells cells' out vc:Array Value}{i off size:Nat}{v:Value}{rest:List (Nat × Value)}(hp:place i=some (off,size))(hc:v.cells=vc)
  (hs:(vc.size == size && Nat.ble (off+vc.size) cells.size)=true) (nc:gl cells off vc.toList=cells') (h:Instr.fill place cells' rest=some out):Instr.fill place cells ((i,v)::rest)=some out:=by
 subst hc
 rw [fy] at hs
 have h1:v.cells.size=size:=by simpa using hs.1
 have h2:off+v.cells.size≤cells.size:=by simpa [Nat.ble_eq] using hs.2
 simp only [Instr.fill,hp]
 rw [if_neg (by simp [h1]; omega),aIc,nc]
 exact h
theorem dn:∀ u∈([]:List Value),u.oneCell'=true:=λ _ h=>by cases h
theorem cD{v:Value}{l:List Value}(h:v.oneCell'=true)(t:∀ u∈l,u.oneCell'=true):∀ u∈v::l,u.oneCell'=true:=λ u hu=>by
 rcases fa.1 hu with rfl | hu
 ·exact h
 ·exact t u hu
theorem fi{l m:List Value}(h:∀ u∈l,u.oneCell'=true)(t:∀ u∈m,u.oneCell'=true):∀ u∈l++m,u.oneCell'=true:=λ u hu=>(List.mem_append.1 hu).elim (h u) (t u)
theorem lQ{α:Type}{f:α→Value}{xs:List α}(h:∀ x,(f x).oneCell'=true):∀ u∈xs.map f,u.oneCell'=true:=λ u hu=>by
 obtain ⟨x,_,rfl⟩:=List.mem_map.1 hu
 exact h x
theorem aS.part{R:az}{H:ah}{b o j n:Nat}{L vs:List Value}(h:aS R H b o L)(hv:(L.drop j).take n=vs):aS R H b (o+j) vs:=by
 intro i v hi
 subst hv
 rw [List.getElem?_take] at hi
 split at hi
 ·rw [List.getElem?_drop] at hi
  have:=h _ _ hi
  simpa [Nat.add_assoc] using this
 ·cases hi
theorem aS.arr{α:Type}{R:az}{H:ah}{b o k:Nat}{f:α→Value}{pre post:List Value}{xs:List α}{i:Int}{x:α}(h:aS R H b o (pre++(xs.map f++post)))(hi:idx xs i=some x)(hk:pre.length=k):Cell R H ⟨b,o+k+i.toNat * 1,none⟩ (f x):=by
 obtain ⟨_,_,h3⟩:=vu hi
 have bK:=(iC.1 h3).1
 have:=h (k+i.toNat) (f x) (by
  rw [pI (by omega),← hk,Nat.add_sub_cancel_left,uF (by simpa using bK)]
  simp [h3])
 simpa [Nat.add_assoc] using this
theorem aS.sub{R:az}{H H':ah}{b o:Nat}{L:List Value}(h:aS R H b o L)(hs:∀ p∈H,p∈H'):aS R H' b o L:=λ j v hj=>by
 obtain ⟨h1,cs,e,fz,h2,h3⟩:=h j v hj
 exact ⟨h1,cs,e,fz,h2.imp id (hs _),h3⟩
theorem aS.le{R R':az}{H:ah}{b o:Nat}{L:List Value}(h:aS R H b o L)(hs:aO R R'):aS R' H b o L:=λ j v hj=>by
 obtain ⟨h1,cs,e,fz,h2,h3⟩:=h j v hj
 exact ⟨h1,cs,e,fz,h2.imp (hs _ _) id,h3⟩
theorem TV{α:Type}{f:α→Value}{pre post:List Value}{xs:List α}{i:Int}{x y:α}{k:Nat}(hi:idx xs i=some y)(hk:pre.length=k):((pre++(xs.map f++post)).toArray).setIfInBounds (k+i.toNat * 1) (f x)=(pre++((xs.set i.toNat x).map f++post)).toArray:=by
 obtain ⟨_,_,h3⟩:=vu hi
 have bK:=(iC.1 h3).1
 subst hk
 simp only [Nat.mul_one,List.setIfInBounds_toArray,List.map_set]
 congr 1
 rw [List.set_append_right _ _ (by omega),Nat.add_sub_cancel_left,List.set_append_left _ _ (by simpa using bK)]
theorem TT{α:Type}{f:α→Value}{pre post:List Value}{xs:List α}{i:Int}{y:α}{k:Nat}(hi:idx xs i=some y)(hk:pre.length=k):Nat.blt (k+i.toNat * 1) ((pre++(xs.map f++post)).toArray).size=true:=by
 obtain ⟨_,_,h3⟩:=vu hi
 have bK:=(iC.1 h3).1
 rw [Nat.blt_eq]
 simp
 omega
theorem fj{L:List Value}{n:Nat}(h:L.length=n):(L.drop 0).take n=L:=by subst h; simp
theorem aJP{pre mid post:List Value}{k n:Nat}(hk:pre.length=k)(hn:mid.length=n):((pre++(mid++post)).drop k).take n=mid:=by subst hk; subst hn; simp
theorem pk{P:Program}{α:Type}{t e len k b m:Nat}{i:Int}{xs:List α}{x:α}(ht:wG P t len e k)(hl:xs.length=len)(hi:idx xs i=some x):yu P t (.pointer (some ⟨b,m,none⟩)) i b (m+i.toNat * k):=by
 obtain ⟨h1,h2,_⟩:=vu hi
 exact agK ht ⟨h1,by omega⟩
theorem aa.one{α:Type}{C:cG α}{k:Nat}{R:az}{v:Value}{xs:List α}(h:aa C k R v xs):v.oneCell'=true:=by
 obtain ⟨A,cap,es,rfl,_⟩:=h; rfl
theorem aa.cells{α:Type}{C:cG α}{k:Nat}{R:az}{v:Value}{xs:List α}(h:aa C k R v xs):v.cells=#[v]:=by
 obtain ⟨A,cap,es,rfl,_⟩:=h; rfl
theorem bz.cells{α:Type}{C:cG α}{k e:Nat}{R:az}{v:Value}{xs:List α}{Hs:ah}(h:bz C k e R v xs Hs):v.cells=#[v]:=by
 rcases h with ⟨A,rfl,_⟩ | ⟨b,cap,cs,es,rfl,_⟩ <;> rfl
theorem bz.one{α:Type}{C:cG α}{k e:Nat}{R:az}{v:Value}{xs:List α}{Hs:ah}(h:bz C k e R v xs Hs):v.oneCell'=true:=by
 rcases h with ⟨A,rfl,_⟩ | ⟨b,cap,cs,es,rfl,_⟩ <;> rfl
theorem bf.cons{α:Type}{C:cG α}{k:Nat}{R:az}{x:α}{xs:List α}{e1 es:List Value}(h:C R x e1)(hk:e1.length=k)(g:bf C k R xs es):bf C k R (x::xs) (e1++es):=(bf.single h hk).append g
theorem bf.le{α:Type}{C:cG α}{k:Nat}{R:az}{xs:List α}{es fs:List Value}(h:bf C k R xs es)(e:es=fs):bf C k R xs fs:=by subst e; exact h
section
variable {P:Program} {B:Base} {main:Bool} {ab:Jd P B main} {c:Ctx} {R:az} {H H':ah} {st st':St} {o:Oper} {k:List Item}
inductive pP (P:Program) (R:az) (H:ah) (st:St):List ResultVar→List Value→Prop
 | nil:pP P R H st [] []
 | tmp {t:Tmp} {v:Value} {r:List ResultVar} {vs:List Value}:st.lookup t=some v→pP P R H st r vs→pP P R H st (.tmp t::r) (v::vs)
 | one {a:Tmp} {t:TypeId} {b o:Nat} {v:Value} {r:List ResultVar} {vs:List Value}:st.lookup a=some (.pointer (some ⟨b,o,none⟩))→gP P t→Cell R H ⟨b,o,none⟩ v→pP P R H st r vs→pP P R H st (.cell a t::r) (v::vs)
 | agg {a:Tmp} {t:TypeId} {b o n:Nat} {us:List Value} {r:List ResultVar} {vs:List Value}:st.lookup a=some (.pointer (some ⟨b,o,none⟩))→mX P t n→us.length=n→aS R H b o us→pP P R H st r vs→pP P R H st (.cell a t::r) (.agg us.toArray::vs)
theorem aI9{tmps:Array Value}{n:Nat}(ht:cX n st tmps):∀ {l:List ResultVar} {vs:List Value},pP P R H st l vs→∀ {K:List Value→az→ah→Prop},K vs R H →
  aQ P B R H (l.mapM (m:=Sem) λ
   | .tmp t=>pure (tmps.getD t undef)
   | .cell a t=>do loadVar t (← asAddr (tmps.getD a undef))) K:=by
 intro l vs h
 induction h with
 | nil=>intro K hk; exact aQ.dT hk
 | @tmp t v r vs hl _ ih =>
  intro K hk
  rw [List.mapM_cons]
  have:tmps.getD t undef=v:=by simp [Array.getD_eq_getD_getElem?,ht.2 t v hl]
  refine ai.fe (a:=v) (by show ai P (pure (tmps.getD t undef)) v; rw [this]; exact ai.bD _) (aQ.du (ih (K:=λ us R' H'=>K (v::us) R' H') hk |>.mono λ us R' H' h=>aQ.dT h))
 | @one a t b o v r vs hl PU hc _ ih =>
  intro K hk
  rw [List.mapM_cons]
  have:tmps.getD a undef = .pointer (some ⟨b,o,none⟩):=by simp [Array.getD_eq_getD_getElem?,ht.2 a _ hl]
  simp only [this]
  refine aQ.du (ai.fe (a:=⟨b,o,none⟩) (ai.bD _) ?_)
  unfold loadVar
  refine ai.fe PU.1 (aQ.load hc (aQ.du (ih (K:=λ us R' H'=>K (v::us) R' H') hk |>.mono λ us R' H' h=>aQ.dT h)))
 | @agg a t b o n us r vs hl PU hn hc _ ih =>
  intro K hk
  rw [List.mapM_cons]
  have:tmps.getD a undef = .pointer (some ⟨b,o,none⟩):=by simp [Array.getD_eq_getD_getElem?,ht.2 a _ hl]
  simp only [this]
  refine aQ.du (ai.fe (a:=⟨b,o,none⟩) (ai.bD _) ?_)
  unfold loadVar
  refine ai.fe PU.1 ?_
  simp only [if_true]
  subst hn
  refine ai.fe PU.2 (aQ.du (aQ.loadCellsFrom us 0 #[] (by simpa using hc) (aQ.dT ?_)))
  simp only [List.append_toArray,List.nil_append]
  exact aQ.du (ih (K:=λ vs R' H'=>K (.agg us.toArray::vs) R' H') hk |>.mono λ us R' H' h=>aQ.dT h)
theorem Rz{fn:Func}{tmps:Array Value}{n:Nat}{vs:List Value}(ht:cX n st tmps)(h:pP P R H st fn.results.toList vs):aQ P B R H (results fn tmps) λ v R' H'=>v=iM vs∧R'=R∧H'=H:=by
 unfold results
 rw [← Array.toArray_toList (xs:=fn.results),List.mapM_toArray]
 refine aQ.du (aQ.map (aI9 ht h ?_))
 cases vs with
 | nil=>exact aQ.dT ⟨rfl,rfl,rfl⟩
 | cons v r=>cases r with
  | nil=>exact aQ.dT ⟨rfl,rfl,rfl⟩
  | cons _ _=>exact aQ.dT ⟨rfl,rfl,rfl⟩
theorem U.EH{fr:Frame}{cs:List Frame}{f:FuncId}{n:Nat}{fn:Func}{vs:List Value}(hf:P.funcs[f]? = some fn)(hr:pP P R H st fn.results.toList vs)(hj:ab.J R H (aV (fr.finish (iM vs)) cs)) :
  U ab ⟨f,.normal,none,n,[],fr::cs⟩ R H st (.code .ret::k):=λ tmps ht=>by
 refine Jd.ctl (g':=aV { (aU ⟨f,.normal,none,n,[],fr::cs⟩ tmps (.code .ret::k)) with mode:=.returning } (fr::cs)) rfl (λ w=>by simp [stepG,stepG.exec,aV,aU])
  (ab.step rfl λ w hw=>?_)
 obtain ⟨v,w',R',H',h1,h2,h3,rfl,rfl,rfl⟩:=Rz (P:=P) ht hr w hw
 refine ⟨aV (fr.finish (iM vs)) cs,w',seen P f ((results fn tmps).events P w #[]),R',H',?_,λ e he=>h2 e (mem_seen he),h3,hj⟩
 simp [stepG,unwind,doReturn,aV,aU,hf,h1,GStep.after]
theorem U.On{fr:Frame}{cs:List Frame}{f:FuncId}{n:Nat}{fn:Func}{vs:List Value}(hf:P.funcs[f]? = some fn)(hr:pP P R H st fn.results.toList vs)(hj:ab.J R H (aV (fr.finish (iM vs)) cs)) :
  U ab ⟨f,.normal,none,n,[],fr::cs⟩ R H st []:=λ tmps ht=>by
 refine Jd.ctl (g':=aV { (aU ⟨f,.normal,none,n,[],fr::cs⟩ tmps []) with mode:=.returning } (fr::cs)) rfl (λ w=>by simp [stepG,stepG.exec,aV,aU])
  (ab.step rfl λ w hw=>?_)
 obtain ⟨v,w',R',H',h1,h2,h3,rfl,rfl,rfl⟩:=Rz (P:=P) ht hr w hw
 refine ⟨aV (fr.finish (iM vs)) cs,w',seen P f ((results fn tmps).events P w #[]),R',H',?_,λ e he=>h2 e (mem_seen he),h3,hj⟩
 simp [stepG,unwind,doReturn,aV,aU,hf,h1,GStep.after]
end
section
variable {P:Program} {B:Base} {main:Bool}
abbrev od(α:Type):=az→α→Value→Prop
def pK(ab:Jd P B main)(R:az)(H:ah){α β:Type}(A:od α)(D:od β)(v:Value)(f:α→Option β):Prop :=
 ∃ iu first captured,v = .func (.func iu) first captured∧bn P iu∧∀ R' H',aO R R'→(∀ p∈H,p∈H')→∀ x r va,A R' x va→f x=some r→bg ab iu (first++#[va]++captured) R' H' λ v cN dY=>aO R' cN∧dY=H'∧D cN r v
def VI(kd:IntKind):od Int:=λ _ x v=>v = .int kd x
def VB:od Bool:=λ _ x v=>v = .bool x
def jS{α:Type}(C:cG α):od α:=λ R x v=>∃ es,v = .agg (List.toArray es)∧C R x es
theorem pK.up{ab:Jd P B main}{R R':az}{H H':ah}{α β:Type}{A:od α}{D:od β}{v:Value}{f:α→Option β}(h:pK ab R H A D v f)(hR:aO R R')(hH:∀ p∈H,p∈H'):pK ab R' H' A D v f:=by
 obtain ⟨iu,first,captured,h1,h2,h3⟩:=h
 exact ⟨iu,first,captured,h1,h2,λ cN dY Jz hH'=>h3 cN dY (hR.trans Jz) (λ p hp=>hH' p (hH p hp))⟩
end
theorem mL{h l1 l2:ah}(p:List.Sublist l1 l2):List.Sublist (h++l1) (h++l2):=List.Sublist.append (List.Sublist.refl _) p
theorem cH{h l1 l2:ah}(p:List.Sublist l1 l2):List.Sublist l1 (h++l2):=by
 induction h with
 | nil=>exact p
 | cons a h ih=>exact ih.cons a
def ob{α:Type}(f:α→Value)(n:Nat):cG (List α):=λ _ xs es=>xs.length=n∧es=[]++(xs.map f++[])
theorem lz{vs:List Value}{cs:Array Value}(h:vs.length=cs.size):gl cs 0 vs=vs.toArray:=by
 have hs:(gl cs 0 vs).size=cs.size:=MF _ _ _
 apply Array.ext_getElem?
 intro j
 rw [EG vs cs 0 j (by omega)]
 by_cases hj:j < vs.length
 ·rw [if_pos (by omega)]; simp
 ·rw [if_neg (by omega)]
  rw [Array.getElem?_eq_none (by omega)]
  simp [Nat.not_lt.1 hj]
section
variable {P:Program} {B:Base} {main:Bool} {ab:Jd P B main} {c:Ctx} {R:az} {H:ah} {st:St} {k:List Item} {o:Oper} {C:az→ah→St→Prop}
theorem U.aEd{S Q ρ:Type}{body:S→Option (S ⊕ Q)}{s0:S}{code:Code}{g:Q→Option ρ}{r:ρ}(hM:(Go.Lg.bE body s0).bind g=some r)(I:S→az→ah→St→Prop)(h0:I s0 R H st)(hb:∀ s R H st,I s R H st→∀ x,body s=some x→(∀ s',x=Sum.inl s'→∀ R' H' st',I s' R' H' st'→U ab c R' H' st' (.inLoop code::k))→(∀ p,x=(Sum.inr p)→g p=some r)→U ab c R H st (.code code :: .inLoop code::k)):U ab c R H st (.code (.loop code)::k):=U.bE hM I (λ s R H st hI x hx again out=>hb s R H st hI x hx again (λ _ hp=>out _ hp)) h0
theorem U.fY{S P0 ρ:Type}{body:S→Option (S ⊕ P0)}{s0:S}{code:Code}{f0:P0→Option ρ}{r:ρ}{k0:List Item}(hM:(Go.Lg.bE body s0).bind f0=some r)(I:S→az→ah→St→Prop)(E0:P0→az→ah→St→Prop)(Z0:Nat)(_:exitTo Z0 k=some k0)(h0:I s0 R H st)(xe:∀ p R H st,E0 p R H st→f0 p=some r→U ab c R H st k0)(hb:∀ s R H st,I s R H st→∀ x,body s=some x→(∀ s',x=Sum.inl s'→∀ R' H' st',I s' R' H' st'→U ab c R' H' st' (.inLoop code::k))→(∀ p,x=(Sum.inr p)→∀ R' H' st',E0 p R' H' st'→U ab c R' H' st' k0)→U ab c R H st (.code code :: .inLoop code::k)):U ab c R H st (.code (.loop code)::k):=U.bE hM I (λ s R H st hI x hx again out=>hb s R H st hI x hx again (λ p hp R' H' st' hE=>xe p R' H' st' hE (out _ hp))) h0
theorem U.fP{S P0 Q ρ:Type}{body:S→Option (S ⊕ (P0 ⊕ Q))}{s0:S}{code:Code}{f0:P0→Option ρ}{g:Q→Option ρ}{r:ρ}{k0:List Item}(hM:(Go.Lg.bE body s0).bind (Sum.elim f0 g)=some r)(I:S→az→ah→St→Prop)(E0:P0→az→ah→St→Prop)(Z0:Nat)(_:exitTo Z0 k=some k0)(h0:I s0 R H st)(xe:∀ p R H st,E0 p R H st→f0 p=some r→U ab c R H st k0)(hb:∀ s R H st,I s R H st→∀ x,body s=some x→(∀ s',x=Sum.inl s'→∀ R' H' st',I s' R' H' st'→U ab c R' H' st' (.inLoop code::k))→(∀ p,x=(Sum.inr (Sum.inl p))→∀ R' H' st',E0 p R' H' st'→U ab c R' H' st' k0)→(∀ p,x=(Sum.inr (Sum.inr p))→g p=some r)→U ab c R H st (.code code :: .inLoop code::k)):U ab c R H st (.code (.loop code)::k):=U.bE hM I (λ s R H st hI x hx again out=>hb s R H st hI x hx again (λ p hp R' H' st' hE=>xe p R' H' st' hE (out _ hp)) (λ _ hp=>out _ hp)) h0
theorem U.jz{P0 ρ:Type}{A:Option P0}{it:Item}{f0:P0→Option ρ}{r:ρ}(hM:A.bind f0=some r)(E0:P0→az→ah→St→Prop)(xe:∀ p R H st,E0 p R H st→f0 p=some r→U ab c R H st k)(hb:∀ x,A=some x→(∀ p,x=p→∀ R' H' st',E0 p R' H' st'→U ab c R' H' st' k)→U ab c R H st (it::k)):U ab c R H st (it::k):=by
 obtain ⟨x,h1,h2⟩:=ag hM
 exact hb x h1 (λ p hp R' H' st' hE=>xe p R' H' st' hE (by subst hp; exact h2))
theorem Ox.uQ{α β:Type}{A:od α}{D:od β}{f:α→Option β}{x y:Operand}{ts:Array TypeId}{v va:Value}{a:α}{r:β}{H0:ah}(h:pK ab R H0 A D v f)
  (au:o.op = .call ⟨.value x,#[y],ts⟩) (hx:bj st x=some v) (hy:bj st y=some va) (hA:A R a va) (hf:f a=some r) (hd:cj o.dst c.n) (hH:∀ p∈H0,p∈H)
  (hC:∀ w R',aO R R'→D R' r w→∃ st',aI (cx o.dst w st) st'∧C R' H st'):pO ab c o R H st C:=by
 obtain ⟨iu,first,captured,rfl,he,hk⟩:=h
 refine Ox.gg (vs:=[va]) au rfl hx (by simp [ji,hy]) he rfl hd ((hk R H (aO.refl _) hH a r va hA hf).mono λ w R' H' h=>?_)
 obtain ⟨h1,rfl,h3⟩:=h
 exact hC w R' h1 h3
end
def cV{α:Type}(C:cG α)(k:Nat)(R:az)(H:ah)(v:Value)(xs:List α):Prop :=
 ∃ A cap es,v = .slice A xs.length cap∧bf C k R xs es∧xs.length≤cap∧(xs≠[]→∃ b o,A=some ⟨b,o,none⟩∧aS R H b o es)
theorem cV.le{α:Type}{C:cG α}[CM C]{k:Nat}{R R':az}{H:ah}{v:Value}{xs:List α}(h:cV C k R H v xs)(hR:aO R R'):cV C k R' H v xs:=by
 obtain ⟨A,cap,es,h1,h2,h3,h4⟩:=h
 refine ⟨A,cap,es,h1,h2.mono hR,h3,λ hx=>?_⟩
 obtain ⟨b,o,g1,g2⟩:=h4 hx
 exact ⟨b,o,g1,g2.le hR⟩
theorem cV.sub{α:Type}{C:cG α}{k:Nat}{R:az}{H H':ah}{v:Value}{xs:List α}(h:cV C k R H v xs)(hs:∀ p∈H,p∈H'):cV C k R H' v xs:=by
 obtain ⟨A,cap,es,h1,h2,h3,h4⟩:=h
 refine ⟨A,cap,es,h1,h2,h3,λ hx=>?_⟩
 obtain ⟨b,o,g1,g2⟩:=h4 hx
 exact ⟨b,o,g1,g2.sub hs⟩
theorem aa.rd{α:Type}{C:cG α}{k:Nat}{R:az}{H:ah}{v:Value}{xs:List α}(h:aa C k R v xs):cV C k R H v xs:=by
 obtain ⟨A,cap,es,h1,h2,hc,h3⟩:=h
 refine ⟨A,cap,es,h1,h2,hc,λ hx=>?_⟩
 obtain ⟨b,o,arr,e,fz,g1,g2,g3⟩:=h3 hx
 exact ⟨b,o,g1,λ j w hj=>⟨rfl,arr,e,fz,.inl g2,g3 j w hj⟩⟩
theorem bz.rd{α:Type}{C:cG α}{k e:Nat}{R:az}{H:ah}{v:Value}{xs:List α}{Hs:ah}(h:bz C k e R v xs Hs)(hs:∀ p∈Hs,p∈H):cV C k R H v xs:=by
 rcases h with ⟨A,rfl,rfl,rfl⟩ | ⟨b,cap,cs,es,rfl,rfl,h3,h4,h5,h6⟩
 ·exact ⟨A,0,[],rfl,.nil,eR _,λ h=>absurd rfl h⟩
 ·exact ⟨_,cap,es,rfl,h5,h4,λ _=>⟨b,0,rfl,λ j w hj=>⟨rfl,cs,e,(0,0),.inr (hs _ (by simp)),by simpa using h6 j w hj⟩⟩⟩
theorem cV.lit{α:Type}{C:cG α}{k e n b:Nat}{R:az}{H:ah}{ys:List α}{cs:Array Value}{fz:Nat × Nat}(hm:(b,Obj.cells cs e fz)∈H)(hE:bf C k R ys cs.toList)(hn:ys.length=n):cV C k R H (.slice (some ⟨b,0,none⟩) n n) ys:=by
 subst hn
 exact ⟨_,ys.length,cs.toList,rfl,hE,eR _,λ _=>⟨b,0,rfl,λ j w hj=>⟨rfl,cs,e,fz,.inr hm,by simpa using hj⟩⟩⟩
theorem cV.arg{α:Type}{C:cG α}{k:Nat}{R:az}{H:ah}{v:Value}{xs:List α}(h:cV C k R H v xs):pJ C k R H v xs:=by
 obtain ⟨A,cap,es,h1,h2,_,h3⟩:=h
 exact ⟨A,cap,es,h1,h2,h3⟩
theorem cV.elem{P:Program}{α:Type}{K:cG α}{k t e:Nat}{R:az}{H:ah}{v:Value}{xs:List α}{i:Int}{x:α}(h:cV K k R H v xs)(ht:mZ P t e k)(hi:idx xs i=some x) :
  ∃ b n es,K R x es∧aS R H b n es∧yu P t v i b n:=by
 obtain ⟨h1,h2,h3⟩:=vu hi
 obtain ⟨A,cap,es,rfl,hE,_,hc⟩:=h
 obtain ⟨b,o,rfl,g2⟩:=hc (by rintro rfl; simp at h3)
 obtain ⟨e1,f1,f2,f3⟩:=hE.at_ _ _ h3
 refine ⟨b,o+i.toNat * k,e1,f1,λ j w hj=>?_,λ kd=>?_⟩
 ·have:=g2 _ _ (f3 j w hj)
  simpa [Nat.add_assoc] using this
 ·have:=abM (P:=P) (b:=b) (m:=o) (cap:=cap) (kd:=kd) ht (j:=i.toNat) (len:=xs.length) (by omega)
  rwa [Int.toNat_of_nonneg h1] at this
theorem ru(a b:Nat × Obj)(l:ah):List.Perm (a::b::l) (b::a::l):=List.Perm.swap _ _ _
section
variable {P:Program} {B:Base} {main:Bool} {ab:Jd P B main} {c:Ctx} {R:az} {H H':ah} {st st':St} {o:Oper} {C:az→ah→St→Prop} {k:List Item}
theorem Ox.aad{α:Type}{K:cG α}{k:Nat}{x:Operand}{t e:TypeId}{v:Value}{xs:List α}{H0:ah}(au:o.op = .call ⟨.builtin .len,#[x],#[t]⟩)(hx:bj st x=some v)(hl:cV K k R H0 v xs)(ht:P.underlying t=some (.slice e))
  (hd:cj o.dst c.n) (hs:aI (cx o.dst (.int .i64 (xs.length:Int)) st) st') (h:C R H st'):aZ P B c o R H st C:=by
 obtain ⟨A,cap,es,rfl,_⟩:=hl
 exact Ox.len au hx ht hd hs h
theorem U.cut{it:Item}(E:az→ah→St→Prop)(h1:∀ R' H' st',E R' H' st'→U ab c R' H' st' k)(h2:(∀ R' H' st',E R' H' st'→U ab c R' H' st' k)→U ab c R H st (it::k)):U ab c R H st (it::k):=h2 h1
theorem Any.aJX{S:Nat→ah}{ops:Array Oper}{n:Nat}{rem ra rb:List Nat}{i j:Nat}{a b:Oper}(ha:ops[i]? = some a)(hb:ops[j]? = some b)(ln:rem.filter (nz ops rem)=[i,j])(KP:cM ops st a=some true)(KQ:cM ops st b=some true)(di:rem.Nodup)(Dh:rem.erase i=ra)(Xn:rem.erase j=rb)
  (h1:pO ab c a R H st λ R' H' st'=>aO R R'∧(∀ p∈S i,p∈H→p∈H')∧Any ab c S ops k n ra R' H' st')
  (h2:pO ab c b R H st λ R' H' st'=>aO R R'∧(∀ p∈S j,p∈H→p∈H')∧Any ab c S ops k n rb R' H' st'):Any ab c S ops k (n+1) rem R H st:=by
 subst Dh Xn
 refine ⟨di,λ tmps ht=>.inr ⟨(λ e=>by rw [e] at ln; cases ln),λ _ x hx ZS=>?_⟩⟩
 have:x∈rem.filter (nz ops rem):=List.mem_filter.2 ⟨hx,ZS⟩
 rw [ln] at this
 simp only [fa,List.not_mem_nil,or_false] at this
 rcases this with rfl | rfl
 ·exact h1.Hk ha (kQ ht KP) ht
 ·exact h2.Hk hb (kQ ht KQ) ht
theorem Any.RJ{S:Nat→ah}{ops:Array Oper}{n:Nat}{rem ra rb rc:List Nat}{i j l:Nat}{a b d:Oper}(ha:ops[i]? = some a)(hb:ops[j]? = some b)(hd:ops[l]? = some d)(ln:rem.filter (nz ops rem)=[i,j,l])(KP:cM ops st a=some true)(KQ:cM ops st b=some true)(hwd:cM ops st d=some true)(di:rem.Nodup)(Dh:rem.erase i=ra)(Xn:rem.erase j=rb)(hrc:rem.erase l=rc)
  (h1:pO ab c a R H st λ R' H' st'=>aO R R'∧(∀ p∈S i,p∈H→p∈H')∧Any ab c S ops k n ra R' H' st')
  (h2:pO ab c b R H st λ R' H' st'=>aO R R'∧(∀ p∈S j,p∈H→p∈H')∧Any ab c S ops k n rb R' H' st')
  (h3:pO ab c d R H st λ R' H' st'=>aO R R'∧(∀ p∈S l,p∈H→p∈H')∧Any ab c S ops k n rc R' H' st'):Any ab c S ops k (n+1) rem R H st:=by
 subst Dh Xn hrc
 refine ⟨di,λ tmps ht=>.inr ⟨(λ e=>by rw [e] at ln; cases ln),λ _ x hx ZS=>?_⟩⟩
 have:x∈rem.filter (nz ops rem):=List.mem_filter.2 ⟨hx,ZS⟩
 rw [ln] at this
 simp only [fa,List.not_mem_nil,or_false] at this
 rcases this with rfl | rfl | rfl
 ·exact h1.Hk ha (kQ ht KP) ht
 ·exact h2.Hk hb (kQ ht KQ) ht
 ·exact h3.Hk hd (kQ ht hwd) ht
end
section
variable {P:Program} {d:Nat} {xs ys:Array Value}
inductive It (P:Program) (d:Nat) (xs ys:Array Value):List Field→Bool→Prop
 | nil:It P d xs ys [] true
 | cons {f:Field} {rest:List Field} {a b:Value} {r r':Bool}:(f.name == "_")=false→ai P (part f.type xs f.offset) a→ai P (part f.type ys f.offset) b→ai P (Op.equalIn d f.type a b) r→It P d xs ys rest r'→It P d xs ys (f::rest) (r && r')
def sB(r:Bool):Option Bool × Unit:=(if r then none else some false,())
theorem aJ9{fs:List Field}{r:Bool}(h:It P d xs ys fs r) :
  ai P (forIn fs ((none:Option Bool),()) λ f (_:Option Bool × Unit) =>
      if f.name ≠ "_" then do
       let a ← part f.type xs f.offset
       let b ← part f.type ys f.offset
       let q ← Op.equalIn d f.type a b
       if (!q)=true then pure (ForInStep.done (some false,())) else pure (ForInStep.yield (none,()))
      else pure (ForInStep.yield (none,()))) (sB r):=by
 induction h with
 | nil=>rw [List.forIn_nil]; exact ai.bD _
 | @cons f rest a b r r' hn ha hb hq _ ih =>
  have yQ:f.name ≠ "_":=by simpa using hn
  rw [List.forIn_cons]
  simp only [yQ,ne_eq,not_false_iff,if_true,bind_assoc]
  refine ai.bH ha (ai.bH hb (ai.bH hq ?_))
  cases r with
  | false=>simp only [Bool.not_false,if_true,pure_bind,Bool.false_and]; exact ai.bD _
  | true =>
   simp only [Bool.not_true,nF,if_false,pure_bind,Bool.true_and]
   simpa only [ne_eq] using ih
theorem ajC{t:TypeId}{fields:Array Field}{r:Bool}(hu:P.underlying t=some (.struct fields))(cU:P.stoodInHeld t=false)(h:It P d xs ys fields.toList r):ai P (Op.equalIn (d+1) t (.agg xs) (.agg ys)) r:=by
 rw [Op.equalIn]
 refine ai.bH (ai.underlying hu) ?_
 dsimp only
 refine ai.bH ai.program ?_
 simp only [cU,nF,if_false]
 rw [← Array.forIn_toList]
 refine ai.bH (aJ9 h) ?_
 cases r <;> exact ai.bD _
theorem Sl{t:TypeId}{kd:IntKind}{a b:Int}(hu:P.underlying t=some (.int kd)):ai P (Op.equalIn (d+1) t (.int kd a) (.int kd b)) (a == b):=by
 rw [Op.equalIn]
 refine ai.bH (ai.underlying hu) ?_
 simp only [if_true]
 exact ai.bD _
theorem Sk{t:TypeId}{a b:Bool}(hu:P.underlying t=some .bool):ai P (Op.equalIn (d+1) t (.bool a) (.bool b)) (a == b):=by
 rw [Op.equalIn]
 exact ai.bH (ai.underlying hu) (ai.bD _)
inductive Is (P:Program) (d:Nat) (elem:TypeId) (n:Nat) (xs ys:Array Value):List Nat→Bool→Prop
 | nil:Is P d elem n xs ys [] true
 | cons {i:Nat} {rest:List Nat} {a b:Value} {r r':Bool}:ai P (part elem xs (i * n)) a→ai P (part elem ys (i * n)) b→ai P (Op.equalIn d elem a b) r→Is P d elem n xs ys rest r'→Is P d elem n xs ys (i::rest) (r && r')
theorem aJ8{elem:TypeId}{n:Nat}{is:List Nat}{r:Bool}(h:Is P d elem n xs ys is r) :
  ai P (forIn is ((none:Option Bool),()) λ i (_:Option Bool × Unit)=>do
      let a ← part elem xs (i * n)
      let b ← part elem ys (i * n)
      let q ← Op.equalIn d elem a b
      if (!q)=true then pure (ForInStep.done (some false,())) else pure (ForInStep.yield (none,()))) (sB r):=by
 induction h with
 | nil=>rw [List.forIn_nil]; exact ai.bD _
 | @cons i rest a b r r' ha hb hq _ ih =>
  rw [List.forIn_cons]
  simp only [bind_assoc]
  refine ai.bH ha (ai.bH hb (ai.bH hq ?_))
  cases r with
  | false=>simp only [Bool.not_false,if_true,pure_bind,Bool.false_and]; exact ai.bD _
  | true =>
   simp only [Bool.not_true,nF,if_false,pure_bind,Bool.true_and]
   exact ih
theorem aJ6{n len:Nat}{t elem:TypeId}{r:Bool}(hu:P.underlying t=some (.array len elem))(hs:ai P (sizeOf elem) n)(h:Is P d elem n xs ys (List.range len) r):ai P (Op.equalIn (d+1) t (.agg xs) (.agg ys)) r:=by
 rw [Op.equalIn]
 refine ai.bH (ai.underlying hu) ?_
 dsimp only
 refine ai.bH hs ?_
 rw [Std.Legacy.Range.forIn_eq_forIn_range']
 simp only [Std.Legacy.Range.size,Nat.sub_zero,Nat.add_sub_cancel,Nat.div_one]
 rw [← List.range_eq_range']
 refine ai.bH (aJ8 h) ?_
 cases r <;> exact ai.bD _
end
def iB(s:ByteArray):List Int:=s.data.toList.map λ b=>(b.toNat:Int)
def wb(s:ByteArray)(i:Int):Option Int:=idx (iB s) i
section
variable {P:Program} {B:Base} {main:Bool} {ab:Jd P B main} {c:Ctx} {R:az} {H H':ah} {st st':St} {o:Oper} {C:az→ah→St→Prop} {k:List Item}
theorem Ox.Qe{x y:Operand}{t:TypeId}{s:ByteArray}{kd:IntKind}{i z:Int}(au:o.op = .index t x y)(hx:bj st x=some (.string s))(hy:bj st y=some (.int kd i))(ht:P.underlying t=some .string)(hz:wb s i=some z)
  (hd:cj o.dst c.n) (hs:aI (cx o.dst (.int .u8 z) st) st') (h:C R H st'):aZ P B c o R H st C :=
 Ox.mP (s:=λ ρ=>Instr.index t (ρ x) (ρ y)) (by rw [au]; rfl) hd (λ ρ=>by simp only [execOp,au]) (λ ρ bl=>by
  rw [bl x _ hx,bl y _ hy]
  obtain ⟨h1,h2,h3⟩:=vu hz
  unfold iB at h3
  rw [List.getElem?_map] at h3
  obtain ⟨b,hb,rfl⟩:=Option.map_eq_some_iff.1 h3
  unfold Instr.index
  refine ai.bH (a:=(kd,i)) (ai.bD _) (ai.bH (ai.underlying ht) ?_)
  have e:(if 0≤i then s[i.toNat]? else none)=some b:=by
   rw [if_pos h1]
   have gE:s.data[i.toNat]? = some b:=by simpa using hb
   rw [← gE]
   rfl
  simp only [e]
  exact ai.bD _) hs h
def acs(P:Program)(t:TypeId)(z:Array Value):Prop:=jF P t z∧∃ n e m,P.underlying t=some (.array n e)∧ai P (sizeOf e) m
theorem Ox.N5{t:TypeId}{z:Array Value}(au:o.op = .build t #[])(ht:acs P t z)
  (hd:cj o.dst c.n) (hs:aI (cx o.dst (.agg z) st) st') (h:C R H st'):aZ P B c o R H st C :=
 Ox.mP (s:=λ _=>Instr.build t #[]) (by rw [au]; rfl) hd (λ ρ=>by simp [execOp,au]) (λ ρ bl=>by
  obtain ⟨⟨z0,hz,rfl⟩,n,e,m,h1,h2⟩:=ht
  unfold Instr.build
  exact ai.bH hz (ai.bH (ai.underlying h1) (ai.bH h2 (ai.bD _)))) hs h
def Fl(P:Program)(t _:Nat)(v:Value)(len l h:Int)(v':Value):Prop :=
 ∀ (ρ:Operand→Value) (st:St) (x:Operand) (lo hi:Option Operand),Knows st ρ→ρ x=v→LA st lo=some l→J8 st len.toNat hi=some h→ai P (Instr.sliceAt t (ρ x) (lo.map ρ) (hi.map ρ) none) v'
theorem cV.cut{α:Type}{K:cG α}{k t e:Nat}{xs ys:List α}{v:Value}{l h:Int}{H0:ah}(hS:cV K k R H0 v xs)(ht:mZ P t e k)(hc:kF xs l h=some ys):∃ v',cV K k R H0 v' ys∧Fl P t k v (xs.length:Int) l h v':=by
 obtain ⟨h1,h2,h3,rfl⟩:=Jf hc
 obtain ⟨A,cap,es,rfl,hE,yK,hm⟩:=hS
 refine ⟨(.slice (if cap=l.toNat then A else A.map (·.add (l.toNat * k))) (h.toNat - l.toNat) (cap - l.toNat)),?_,?_⟩
 ·have Bi:((xs.take h.toNat).drop l.toNat).length=h.toNat - l.toNat:=by
   simp only [List.length_drop,kT]
   omega
  refine ⟨(if cap=l.toNat then A else A.map (·.add (l.toNat * k))),cap - l.toNat,(es.take (h.toNat * k)).drop (l.toNat * k),by rw [Bi],hE.take.drop,by rw [Bi]; omega,λ eP=>?_⟩
  have bK:l.toNat < h.toNat:=by
   apply Classical.byContradiction
   intro hn
   apply eP
   apply List.eq_nil_of_length_eq_zero
   simp only [List.length_drop,kT]
   omega
  obtain ⟨b,o',rfl,g2⟩:=hm (by rintro rfl; simp at h3; omega)
  refine ⟨b,o'+l.toNat * k,?_,λ j w hj=>?_⟩
  ·rw [if_neg (by omega)]; simp [s7]
  ·rw [List.getElem?_drop,List.getElem?_take] at hj
   split at hj
   ·have:=g2 _ _ hj
    simpa [Nat.add_assoc] using this
   ·cases hj
 ·intro ρ st x lo hi bl hx hl hh
  rw [n9] at hh
  rw [hx]
  unfold Instr.sliceAt
  refine ai.bH (ai.underlying ht.1) ?_
  unfold Instr.slice
  refine ai.bH (ai.underlying ht.1) (ai.bH (Sj bl hl hh ⟨h1,h2,h3⟩ yK) (ai.bH ht.2 (ai.bD _)))
theorem aa.cut{α:Type}{K:cG α}{k t e:Nat}{xs ys:List α}{v:Value}{l h:Int}(hS:aa K k R v xs)(ht:mZ P t e k)(hc:kF xs l h=some ys):∃ v',aa K k R v' ys∧Fl P t k v (xs.length:Int) l h v':=by
 obtain ⟨h1,h2,h3,rfl⟩:=Jf hc
 obtain ⟨A,cap,es,rfl,hE,yK,hm⟩:=hS
 refine ⟨(.slice (if cap=l.toNat then A else A.map (·.add (l.toNat * k))) (h.toNat - l.toNat) (cap - l.toNat)),?_,?_⟩
 ·have Bi:((xs.take h.toNat).drop l.toNat).length=h.toNat - l.toNat:=by
   simp only [List.length_drop,kT]
   omega
  refine ⟨(if cap=l.toNat then A else A.map (·.add (l.toNat * k))),cap - l.toNat,(es.take (h.toNat * k)).drop (l.toNat * k),by rw [Bi],hE.take.drop,by rw [Bi]; omega,λ eP=>?_⟩
  have bK:l.toNat < h.toNat:=by
   apply Classical.byContradiction
   intro hn
   apply eP
   apply List.eq_nil_of_length_eq_zero
   simp only [List.length_drop,kT]
   omega
  obtain ⟨b,o',arr,e',fz,rfl,g2,g3⟩:=hm (by rintro rfl; simp at h3; omega)
  refine ⟨b,o'+l.toNat * k,arr,e',fz,?_,g2,λ j w hj=>?_⟩
  ·rw [if_neg (by omega)]; simp [s7]
  ·rw [List.getElem?_drop,List.getElem?_take] at hj
   split at hj
   ·have:=g3 _ _ hj
    simpa [Nat.add_assoc] using this
   ·cases hj
 ·intro ρ st x lo hi bl hx hl hh
  rw [n9] at hh
  rw [hx]
  unfold Instr.sliceAt
  refine ai.bH (ai.underlying ht.1) ?_
  unfold Instr.slice
  refine ai.bH (ai.underlying ht.1) (ai.bH (Sj bl hl hh ⟨h1,h2,h3⟩ yK) (ai.bH ht.2 (ai.bD _)))
theorem Ox.CD{x:Operand}{t k:Nat}{lo hi:Option Operand}{v v':Value}{len l h:Int}(au:o.op = .slice t x lo hi none)(hx:bj st x=some v)(hl:LA st lo=some l)(hh:J8 st len.toNat hi=some h)(hc:Fl P t k v len l h v')(hd:cj o.dst c.n)
  (hs:aI (cx o.dst v' st) st') (hC:C R H st'):aZ P B c o R H st C :=
 Ox.mP (s:=λ ρ=>Instr.sliceAt t (ρ x) (lo.map ρ) (hi.map ρ) none) (by rw [au]; rfl) hd (λ ρ=>by simp only [execOp,au]; rfl) (λ ρ bl=>hc ρ st x lo hi bl (bl x _ hx) hl hh) hs hC
theorem bz.UF{α:Type}{K:cG α}{k t e:Nat}{v:Value}{xs:List α}{Hs:ah}{i:Int}{x:α}(h:bz K k e R v xs Hs)(ht:mZ P t e k)(hi:idx xs i=some x) :
  ∃ b cs es,K R x es∧Hs=[(b,.cells cs e (0,0))]∧aS R Hs b (i.toNat * k) es∧(∀ (j:Nat) (w:Value),es[j]? = some w→cs[i.toNat * k+j]? = some w)∧yu P t v i b (i.toNat * k)∧es.length=k∧i.toNat * k+k≤cs.size ∧
   ∀ x' uT,K R x' uT→uT.length=k→bz K k e R v (xs.set i.toNat x') [(b,.cells (gl cs (i.toNat * k) uT) e (0,0))]:=by
 obtain ⟨h1,h2,h3⟩:=vu hi
 rcases h with ⟨A,rfl,rfl,rfl⟩ | ⟨b,cap,cs,es,rfl,rfl,g3,g4,g5,g6⟩
 ·simp at h3
 obtain ⟨e1,f1,f2,f3⟩:=g5.at_ _ _ h3
 have bK:i.toNat < xs.length:=(iC.1 h3).1
 have fX:i.toNat * k+k≤xs.length * k:=by
  calc i.toNat * k+k=(i.toNat+1) * k:=by rw [Nat.add_mul,Nat.one_mul]
   _≤xs.length * k:=Nat.mul_le_mul_right k bK
 have pb:xs.length * k≤cs.size:=by rw [g3]; exact Nat.mul_le_mul_right k g4
 refine ⟨b,cs,e1,f1,rfl,λ j w hj=>⟨rfl,cs,e,(0,0),.inr (by simp),g6 _ _ (f3 j w hj)⟩,λ j w hj=>g6 _ _ (f3 j w hj),λ kd=>?_,f2,by omega,λ x' uT Bo hl'=>?_⟩
 ·have:=abM (P:=P) (b:=b) (m:=0) (cap:=cap) (kd:=kd) ht (j:=i.toNat) (len:=xs.length) bK
  rw [Int.toNat_of_nonneg h1] at this
  simpa using this
 ·refine .inr ⟨b,cap,_,(es.take (i.toNat * k))++(uT++es.drop (i.toNat * k+k)),by rw [List.length_set],rfl,by rw [MF]; exact g3,by rw [List.length_set]; exact g4,?_,?_⟩
  ·have l6:=g5.len
   refine ⟨?_,λ j y hy=>?_⟩
   ·simp only [lU,kT,List.length_drop,List.length_set,hl',l6]
    omega
   ·rw [List.getElem?_set] at hy
    split at hy
    ·rename_i gw
     subst gw
     cases hy
     refine ⟨uT,Bo,hl',λ a w hw=>?_⟩
     have ha:=(iC.1 hw).1
     rw [pI (by simp only [kT]; omega)]
     simp only [kT,l6]
     rw [show i.toNat * k+a - min (i.toNat * k) (xs.length * k)=a by omega,uF ha]
     exact hw
    ·rename_i gw
     obtain ⟨e2,q1,q2,q3⟩:=g5.at_ _ _ hy
     refine ⟨e2,q1,q2,λ a w hw=>?_⟩
     have ha:=(iC.1 hw).1
     rw [q2] at ha
     have hold:=q3 a w hw
     rcases Nat.lt_or_ge j i.toNat with af3 | u9
     ·have:j * k+k≤i.toNat * k:=by
       calc j * k+k=(j+1) * k:=by rw [Nat.add_mul,Nat.one_mul]
        _≤i.toNat * k:=Nat.mul_le_mul_right k af3
      rw [uF (by simp only [kT,l6]; omega),List.getElem?_take,if_pos (by omega)]
      exact hold
     ·have:i.toNat * k+k≤j * k:=by
       calc i.toNat * k+k=(i.toNat+1) * k:=by rw [Nat.add_mul,Nat.one_mul]
        _≤j * k:=Nat.mul_le_mul_right k (by omega)
      rw [pI (by simp only [kT]; omega),pI (by simp only [kT,l6,hl']; omega),List.getElem?_drop]
      simp only [kT,l6,hl']
      rw [show i.toNat * k+k+(j * k+a - min (i.toNat * k) (xs.length * k) - k)=j * k+a by omega]
      exact hold
  ·intro j w hj
   have l6:=g5.len
   rw [EG uT cs (i.toNat * k) j (by rw [hl']; omega)]
   rw [List.getElem?_append] at hj
   simp only [kT,l6] at hj
   split at hj
   ·rename_i af3
    rw [List.getElem?_take] at hj
    split at hj
    ·rw [if_neg (by omega)]
     exact g6 _ _ hj
    ·cases hj
   ·rw [List.getElem?_append] at hj
    split at hj
    ·rename_i h5 h6
     rw [if_pos (by omega),← hj]
     congr 1
     omega
    ·rename_i h5 h6
     rw [hl'] at h6
     rw [if_neg (by rw [hl']; omega)]
     rw [List.getElem?_drop,hl'] at hj
     have:=g6 _ _ hj
     rwa [show i.toNat * k+k+(j - min (i.toNat * k) (xs.length * k) - k)=j by omega] at this
theorem aa7:∀ (vs ws:List Value) (cs:Array Value) (o:Nat),gl cs o (vs++ws)=gl (gl cs o vs) (o+vs.length) ws
 | [],ws,cs,o=>by simp [gl]
 | v::vs,ws,cs,o=>by
  simp only [List.cons_append,gl,List.length_cons]
  rw [aa7 vs ws]
  congr 1
  omega
theorem aa8:∀ (vs:List Value) (cs:Array Value) (o:Nat),(∀ j w,vs[j]? = some w→cs[o+j]? = some w)→gl cs o vs=cs
 | [],cs,o,_=>rfl
 | v::vs,cs,o,h=>by
  have h0:cs[o]? = some v:=h 0 v rfl
  have bK:=(Array.getElem?_eq_some_iff.1 h0).1
  have e:cs.setIfInBounds o v=cs:=by
   apply Array.ext_getElem?
   intro j
   by_cases hj:o=j
   ·subst hj; rw [uE bK,h0]
   ·rw [mW hj]
  simp only [gl,e]
  exact aa8 vs cs (o+1) λ j w hj=>by
   have:=h (j+1) w (by simpa using hj)
   rwa [show o+(j+1)=o+1+j by omega] at this
theorem Ox.abw{α:Type}{K:cG α}{k e t b j n:Nat}{x y:Operand}{G:ah→ah}{v w:Value}{xs:List α}{i:Int}{x':α}{cs:Array Value}{pre mid post vs:List Value}(hG:lE G)
  (au:o.op = .store t x y) (hx:bj st x=some (.pointer (some ⟨b,i.toNat * k+j,none⟩))) (hy:bj st y=some w) (hw:w.cells.toList=vs) (ht:ai P (sizeOf t) n) (hn:vs.length=n) (h1:∀ u∈vs,u.oneCell'=true)
  (hc:∀ (j:Nat) (w:Value),(pre++(mid++post))[j]? = some w→cs[i.toNat * k+j]? = some w) (hj:pre.length=j) (hm:mid.length=n) (hk:(pre++(mid++post)).length=k) (fX:i.toNat * k+k≤cs.size)
  (hO:∀ x' uT,K R x' uT→uT.length=k→bz K k e R v (xs.set i.toNat x') [(b,.cells (gl cs (i.toNat * k) uT) e (0,0))]) (hK:K R x' (pre++(vs++post)))
  (hd:o.dst=none) (KD:aI st st') (h:∀ dV,bz K k e R v (xs.set i.toNat x') dV→C R (G dV) st'):aZ P B c o R (G [(b,.cells cs e (0,0))]) st C:=by
 have nc:gl cs (i.toNat * k+j) vs=gl cs (i.toNat * k) (pre++(vs++post)):=by
  rw [aa7,aa8 pre cs _ (λ a u ha=>hc a u (by rw [uF (iC.1 ha).1]; exact ha)),aa7,hj,hn]
  rw [aa8 post]
  intro a u ha
  have h2:=hc (j+n+a) u (by
   rw [pI (by omega),pI (by omega)]
   rw [show j+n+a - pre.length - mid.length=a by omega]
   exact ha)
  have bK:=(Array.getElem?_eq_some_iff.1 h2).1
  rw [EG vs cs (i.toNat * k+j) _ (by rw [hn]; have:=hk; simp only [lU] at this; omega),if_neg (by omega)]
  rwa [show i.toNat * k+(j+n+a)=i.toNat * k+j+n+a by omega] at h2
 have hlen:(pre++(vs++post)).length=k:=by
  simp only [lU] at hk ⊢
  omega
 have OQ:=hO x' _ hK hlen
 rw [← nc] at OQ
 refine Ox.QK (s:=λ ρ=>Instr.storeAt t (ρ x) (ρ y)) (by rw [au]; rfl) hd (λ ρ=>by simp only [execOp,au]) KD (λ ρ bl=>?_)
 rw [bl x _ hx,bl y _ hy]
 simp only [Instr.storeAt,Instr.sureAddr]
 refine ai.fe (ai.bD _) ?_
 have azf:w.cells.size=n:=by rw [← hn,← hw]; simp
 refine aQ.storeVar (cs:=cs) (e:=e) ht azf (by rw [hw]; exact h1) (by simp only [lU] at hk; omega) ?_ (h _ OQ)
 rw [hw]
 exact hG.set
def FK{α:Type}(xs ys:List α):List α:=ys.take xs.length++xs.drop ys.length
end
section
variable {P:Program} {B:Base} {main:Bool} {ab:Jd P B main} {c:Ctx} {R:az} {H:ah} {st:St} {k:List Item}
theorem aQ.getLoop{l:Nat}{r:Loop}{K:Loop→az→ah→Prop}(h:(l,Obj.loop r)∈H)(hk:K r R H):aQ P B R H (Instr.getLoop l) K:=by
 unfold Instr.getLoop
 exact aQ.du (aQ.getObj rfl (.inr h) (aQ.dT hk))
theorem fl.at_{b:Nat}{o o':Obj}{T:ah}:∀ {Hs:ah},fl (Hs++(b,o)::T) b o o' (Hs++(b,o')::T)
 | []=>.here
 | _::_=>.there fl.at_
def IM(ab:Jd P B main)(v:Value)(args:Array Value)(R:az)(H:ah)(Post:Value→az→ah→Prop):Prop :=
 ∃ l r,v = .func (.yield l) #[] #[]∧(l,Obj.loop r)∈H∧r.params.size=args.size ∧
  ∀ fr cs,(∀ w R' H',Post w R' H'→ab.J R' H' (aV (fr.finish w) cs)) →
   ab.J R H (aV (Frame.round l r.fn ((r.params.zip args).foldl (λ tmps (t,a)=>tmps.setIfInBounds t a) r.tmps) r.assign r.body .normal) (fr::cs))
theorem IM.mono{v:Value}{args:Array Value}{Post IH:Value→az→ah→Prop}(h:IM ab v args R H Post)(hp:∀ w R' H',Post w R' H'→IH w R' H'):IM ab v args R H IH:=by
 obtain ⟨l,r,h1,h2,h3,h4⟩:=h
 exact ⟨l,r,h1,h2,h3,λ fr cs hk=>h4 fr cs λ w R' H' hw=>hk w R' H' (hp _ _ _ hw)⟩
theorem ans{fr:Frame}{cs:List Frame}{s:Sem Next}{w w':World}{l:Nat}{f:FuncId}{tmps:Array Value}{assign body:Code}(hk:fr.kind ≠ .early)(hr:s.run P w = .ok (.round l f tmps assign body) w') :
  stepG.apply P true fr cs none s w = .go (aV (Frame.round l f tmps assign body .normal) (fr::cs)) w' (seen P fr.fn (s.events P w #[])):=by
 have dI:(fr.kind == CallKind.early)=false:=by simpa using hk
 simp [stepG.apply,hr,aV,dI,GStep.after]
theorem U.aje{ops:Array Oper}{i:Nat}{rest:List Nat}{o:Oper}{ca:Call}{x:Operand}{v:Value}{vs:List Value}(ho:ops[i]? = some o)(hw:cM ops st o=some true)(hk:(c.kind == CallKind.early)=false)
  (au:o.op = .call ca) (hc:ca.callee = .value x) (hx:bj st x=some v) (ha:ji st ca.args.toList=some vs) (l5:cj o.dst c.n)
  (h:IM ab v vs.toArray R H λ w R' H'=>∃ st',aI (cx o.dst w st) st'∧U ab c R' H' st' (.inRegion ops rest::k)) :
  U ab c R H st (.inRegion ops (i::rest)::k):=by
 intro tmps ht
 obtain ⟨l,r,rfl,hl,fX,hj⟩:=h
 have iI:=ht.knows c (.inRegion ops (i::rest)::k)
 have hd:ni o.op=false:=by rw [au]; rfl
 have hs:aQ P B R H (execOp (aU c tmps (.inRegion ops (i::rest)::k)).eval o) λ nx R' H'=>nx = .round l r.fn ((r.params.zip vs.toArray).foldl (λ tmps (t,a)=>tmps.setIfInBounds t a) r.tmps) r.assign r.body∧R'=R∧H'=H:=by
  simp only [execOp,au,resolve,hc,iI x _ hx,Deferred.ofValue]
  have e:ca.args.map (aU c tmps (.inRegion ops (i::rest)::k)).eval=vs.toArray:=by apply Array.ext'; simpa using Cw iI _ _ ha
  refine ai.fe (a:=⟨.fn (.yield l) #[],#[]++vs.toArray⟩) (by rw [e]; exact ai.bD _) ?_
  simp only [invoke,Instr.yield]
  refine aQ.du (aQ.getLoop hl ?_)
  simp only [Array.empty_append,fX,ne_eq,kV,if_false]
  exact aQ.dT ⟨rfl,rfl,rfl⟩
 refine ab.step rfl λ w q8=>?_
 obtain ⟨nx,w',R',H',h1,h2,h3,rfl,rfl,rfl⟩:=hs w q8
 refine ⟨_,w',seen P c.fn ((execOp (aU c tmps (.inRegion ops (i::rest)::k)).eval o).events P w #[]),R',H',?_,λ e he=>h2 e (mem_seen he),h3,hj (aU c tmps (.inRegion ops (i::rest)::k)) c.cs λ u cN dY hp=>?_⟩
 ·rw [qz ho (kQ ht hw) hd]
  exact ans (by simpa [aU] using hk) h1
 ·obtain ⟨st',hs',j4⟩:=hp
  rw [qT ho]
  exact j4 _ ((ht.put u l5).sub hs')
structure mg (ab:Jd P B main) (R:az) {α S:Type} (A:od α) (v:Value) (y:α→S→Option (S × Bool)) (Inv:S→az→ah→Prop):Prop where
 fn:∃ l,v = .func (.yield l) #[] #[]
 mono:∀ {s:S} {R1 R2:az} {Hy:ah},aO R R1→aO R1 R2→Inv s R1 Hy→Inv s R2 Hy
 call:∀ (Hf:ah) {R':az} {Hy:ah} {s:S} {x:α} {va:Value} {z:S × Bool},aO R R'→Inv s R' Hy→A R' x va→y x s=some z →
  IM ab v #[va] R' (Hf++Hy) λ w cN dY=>aO R' cN∧w = .bool z.2∧∃ Ay,Inv z.1 cN Ay∧dY=Hf++Ay
theorem mg.up{R':az}{α S:Type}{A:od α}{v:Value}{y:α→S→Option (S × Bool)}{Inv:S→az→ah→Prop}(h:mg ab R A v y Inv)(hR:aO R R'):mg ab R' A v y Inv :=
 ⟨h.fn,λ h1 h2=>h.mono (hR.trans h1) h2,λ Hf=>λ h1=>h.call Hf (hR.trans h1)⟩
theorem mg.cells{α S:Type}{A:od α}{v:Value}{y:α→S→Option (S × Bool)}{Inv:S→az→ah→Prop}(h:mg ab R A v y Inv):v.cells=#[v]:=by
 obtain ⟨l,rfl⟩:=h.fn; rfl
def gm{α S O:Type}(body:α→S→Option (S ⊕ O))(x:α):S ⊕ O→Option ((S ⊕ O) × Bool)
 | .inl s=>(body x s).map λ z=>(z,z.isLeft)
 | .inr _=>none
def Shape(I:az→ah→ah→Prop):Prop:=∀ R T H,I R T H→∃ Hs,H=Hs++T∧∀ R' T',aO R R'→I R' T' (Hs++T')
theorem aI7{l:Nat}{jump:Option Code}{r:Loop}{Hs T:ah}:aQ P B R (Hs++(l,.loop r)::T) (Instr.endRound l jump) λ v R' H'=>v = .bool jump.isNone∧R'=R∧H'=Hs++(l,.loop { r with state:=if jump.isNone then .ready else .done,pending:=jump })::T:=by
 unfold Instr.endRound
 exact aQ.du (aQ.getLoop (by simp) (aQ.du (aQ.setObj rfl rfl fl.at_ (aQ.dT ⟨rfl,rfl,rfl⟩))))
theorem aI6{l:Nat}{r:Loop}{Hs T:ah}(hb:(r.state == .busy)=false):aQ P B R (Hs++(l,.loop r)::T) (Instr.endLoop l) λ v R' H'=>v=r.pending∧R'=R∧H'=Hs++(l,.loop { r with state:=.exhausted })::T:=by
 unfold Instr.endLoop
 refine aQ.du (aQ.getLoop (r:=r) (by simp) ?_)
 simp only [hb]
 exact aQ.du (aQ.setObj rfl rfl fl.at_ (aQ.dT ⟨rfl,rfl,rfl⟩))
theorem aI5{l:Nat}{r:Loop}{H':ah}(hs:fl H l (.loop r) (.loop { r with state:=.busy }) H')(hr:r.state = .ready):aQ P B R H (do Instr.beginRound l; pure Next.skip) λ v cN dY=>v = .skip∧cN=R∧dY=H':=by
 unfold Instr.beginRound
 refine aQ.du (aQ.du (aQ.getLoop hs.mem (aQ.du (aQ.setObj rfl rfl hs ?_))))
 simp only [hr]
 exact aQ.dT (aQ.dT ⟨rfl,rfl,rfl⟩)
theorem U.beginRound{l:Nat}{r:Loop}{H':ah}(kH:c.ro=some l)(hk:(c.kind == CallKind.early)=false)(hs:fl H l (.loop r) (.loop { r with state:=.busy }) H')(hr:r.state = .ready)(h:U ab c R H' st k):U ab c R H st (.beginRound::k):=λ tmps ht=>by
 refine ab.step rfl λ w hw=>?_
 obtain ⟨v,w',R',dY,h1,h2,h3,rfl,rfl,rfl⟩:=aI5 (P:=P) hs hr w hw
 refine ⟨aV (aU c tmps k) c.cs,w',seen P c.fn ((do Instr.beginRound l; pure Next.skip:Sem Next).events P w #[]),R',dY,?_,λ e he=>h2 e (mem_seen he),h3,h tmps ht⟩
 have e:=TR (P:=P) (fr:=aU c tmps (.beginRound::k)) (cs:=c.cs) (by simpa [aU] using hk) h1
 simpa [stepG,stepG.exec,aV,aU,kH,Frame.finish] using e
def Leaves(todo:List Item)(jump:Option Code):Prop :=
 (todo=[]∧jump=none)∨(∃ k',todo = .code .ret::k'∧jump=some .ret)∨(∃ id k',todo = .code (.exit id)::k'∧exitTo id k'=none∧jump=some (.exit id))
theorem ag1{l f:Nat}{n:Nat}{cs:List Frame}{fr:Frame}{tmps:Array Value}{todo:List Item}{jump:Option Code}{r:Loop}{Hs T:ah}(hl:Leaves todo jump)
  (h:ab.J R (Hs++(l,.loop { r with state:=if jump.isNone then .ready else .done,pending:=jump })::T) (aV (fr.finish (.bool jump.isNone)) cs)) :
  ab.J R (Hs++(l,.loop r)::T) (aV (aU ⟨f,.normal,some l,n,[],fr::cs⟩ tmps todo) (fr::cs)):=by
 refine ab.step rfl λ w hw=>?_
 obtain ⟨v,w',R',H',h1,h2,h3,rfl,rfl,rfl⟩:=aI7 (P:=P) (jump:=jump) w hw
 refine ⟨aV (fr.finish (.bool jump.isNone)) cs,w',seen P f ((Instr.endRound l jump).events P w #[]),R',_,?_,λ e he=>h2 e (mem_seen he),h3,h⟩
 rcases hl with ⟨rfl,rfl⟩ | ⟨k',rfl,rfl⟩ | ⟨id,k',rfl,dI,rfl⟩
 ·simp at h1; simp [stepG,stepG.exec,aU,h1,doReturn,GStep.after,aV]
 ·simp at h1; simp [stepG,stepG.exec,aU,h1,doReturn,GStep.after,aV]
 ·simp at h1; simp [stepG,stepG.exec,aU,h1,dI,doReturn,GStep.after,aV]
def vy(fn:FuncId)(tmps:Array Value)(t:Tmp)(assign body:Code)(d:Nat):Loop:={ state:=.ready,pending:=none,fn,tmps,params:=#[t],assign,body,defers:=d }
theorem aa5{p:Nat × Obj}{Hf Hs D:ah}:List.Perm (Hs++p::(Hf++D)) (Hf++(Hs++p::D)):=by
 have h1:List.Perm (Hs++p::(Hf++D)) (p::(Hs++(Hf++D))):=List.perm_middle
 have h2:List.Perm (Hf++(Hs++p::D)) (p::(Hf++(Hs++D))):=by
  rw [← List.append_assoc,← List.append_assoc]
  exact List.perm_middle
 refine h1.trans (List.Perm.trans (List.Perm.cons _ ?_) h2.symm)
 rw [← List.append_assoc,← List.append_assoc]
 exact List.perm_append_comm.append_right D
section
variable {α S O:Type} {A:od α} {body:α→S→Option (S ⊕ O)} {t:Tmp} {assign jW:Code}
 (I:S→az→ah→ah→Prop) (E:O→az→ah→ah→Prop) (jc:O→Code)
def RInv(R:az)(l:Nat)(r:Loop)(D:ah):S ⊕ O→az→ah→Prop
 | .inl s,R',Hy=>aO R R'∧I s R' ((l,.loop r)::D) Hy
 | .inr o,R',Hy=>aO R R'∧E o R' ((l,.loop { r with state:=.done,pending:=some (jc o) })::D) Hy
def acP(ab:Jd P B main)(c:Ctx)(R:az)(H:ah)(st:St)(A:od α)(body:α→S→Option (S ⊕ O))(t:Tmp)(assign jW:Code):Prop :=
 ∀ (va:Value) (x:α) (s:S) (z:S ⊕ O) (R':az) (T H':ah) (l:Nat) (ld:Loop) (cs:List Frame),aO R R'→List.Sublist H T→A R' x va→I s R' ((l,.loop ld)::T) H'→ld.state = .ready→body x s=some z →
  (∀ s' cN dY oL,z = .inl s'→aO R' cN→I s' cN ((l,.loop { ld with state:=.busy })::T) dY→U ab ⟨c.fn,.normal,some l,c.n,[],cs⟩ cN dY oL []) →
  (∀ o cN dY oL Bt,z = .inr o→aO R' cN→E o cN ((l,.loop { ld with state:=.busy })::T) dY→Leaves (.code (jc o)::Bt) (some (jc o))→U ab ⟨c.fn,.normal,some l,c.n,[],cs⟩ cN dY oL (.code (jc o)::Bt)) →
  U ab ⟨c.fn,.normal,some l,c.n,[],cs⟩ R' H' ((t,va)::st) [.code assign,.beginRound,.code jW]
variable {I E jc}
theorem as6{D:ah}{l:Nat}{d:Nat}{tmps:Array Value}(uW:∀ s,Shape (I s))(CV:∀ o,Shape (E o))(ht:cX c.n st tmps)(hd:Nat.blt t c.n=true)(hH:List.Sublist H D)
  (hb:acP I E jc ab c R H st A body t assign jW) :
  mg ab R A (.func (.yield l) #[] #[]) (gm body) (RInv I E jc R l (vy c.fn tmps t assign jW d) D) where
 fn:=⟨l,rfl⟩
 mono:=by
  intro s R1 R2 Hy h1 h2 hI
  cases s with
  | inl s =>
   obtain ⟨hr,hI⟩:=hI
   obtain ⟨Hs,rfl,h⟩:=uW s _ _ _ hI
   exact ⟨hr.trans h2,h _ _ h2⟩
  | inr o =>
   obtain ⟨hr,hI⟩:=hI
   obtain ⟨Hs,rfl,h⟩:=CV o _ _ _ hI
   exact ⟨hr.trans h2,h _ _ h2⟩
 call:=by
  intro Hf R' Hy s x va z hR hI hA hy
  cases s with
  | inr o=>cases hy
  | inl s =>
   simp only [gm,Option.map_eq_some_iff] at hy
   obtain ⟨z',hz,rfl⟩:=hy
   obtain ⟨hr,hI⟩:=hI
   obtain ⟨Hs,rfl,bp⟩:=uW s _ _ _ hI
   refine ⟨l,vy c.fn tmps t assign jW d,rfl,by simp,rfl,λ fr cs hk=>?_⟩
   refine J.perm (H':=Hs++(l,.loop (vy c.fn tmps t assign jW d))::(Hf++D)) aa5 ?_
   have Xo:cX c.n ((t,va)::st) (((vy c.fn tmps t assign jW d).params.zip #[va]).foldl (λ tmps (t,a)=>tmps.setIfInBounds t a) (vy c.fn tmps t assign jW d).tmps):=by
    have:=ht.put (dst:=some t) va hd
    simpa [vy,cx,fJ] using this
   refine hb va x s z' R' (Hf++D) _ l (vy c.fn tmps t assign jW d) (fr::cs) hR (hH.trans (List.sublist_append_right _ _)) hA (bp R' _ (aO.refl _)) rfl hz (λ s' cN dY oL ZU tn asv=>?_) (λ o cN dY oL Bt ZU tn asu hl=>?_) _ Xo
   ·subst ZU
    obtain ⟨dV,rfl,Di⟩:=uW s' _ _ _ asv
    intro aW _
    refine ag1 (jump:=none) (.inl ⟨rfl,rfl⟩) ?_
    refine J.perm aa5.symm ?_
    exact hk _ _ _ ⟨tn,rfl,_,⟨hR.trans tn,Di cN _ (aO.refl _)⟩,rfl⟩
   ·subst ZU
    obtain ⟨dV,rfl,Di⟩:=CV o _ _ _ asu
    intro aW _
    refine ag1 (jump:=some (jc o)) hl ?_
    refine J.perm aa5.symm ?_
    exact hk _ _ _ ⟨tn,rfl,_,⟨hR.trans tn,Di cN _ (aO.refl _)⟩,rfl⟩
theorem aI8{fn:FuncId}{tmps:Array Value}{ps:Array Tmp}{assign jW:Code}:aQ P B R H (Instr.enterLoop fn tmps ps assign jW none) λ q R' H'=>R'=R∧∃ r,q.2=[⟨.collected r,#[]⟩]∧H'=(q.1,.loop ⟨.ready,none,fn,tmps,ps,assign,jW,r⟩)::(r,.deferred (some []))::H:=by
 unfold Instr.enterLoop
 refine aQ.du (aQ.new λ r _ _=>aQ.du (aQ.dT ?_))
 refine aQ.du (aQ.new λ l _ _=>aQ.dT ?_)
 exact ⟨rfl,r,rfl,rfl⟩
theorem U.aqk{x:Operand}{iu:FuncId}{first cap:Array Value}(hx:bj st x=some (.func (.func iu) first cap))(he:bn P iu)(hk:(c.kind == CallKind.early)=false){K:Nat × List Deferred→az→ah→Prop}
  (Pe:∀ tmps,aQ P B R H (Instr.enterLoop c.fn tmps #[t] assign jW c.ro) λ q R' H'=>R'=R∧∃ d Hm,H'=(q.1,.loop (vy c.fn tmps t assign jW d))::Hm∧K q R Hm)
  (h:∀ l mark d Hm tmps,cX c.n st tmps→K (l,mark) R Hm→ab.J R ((l,.loop (vy c.fn tmps t assign jW d))::Hm) (aV (Frame.enter P iu (first++#[.func (.yield l) #[] #[]]++cap) .normal) (aU ⟨c.fn,c.kind,c.ro,c.n,mark++c.defers,c.cs⟩ tmps (.inRangeFunc l::k)::c.cs))) :
  U ab c R H st (.code (.rangeFunc x #[t] assign jW)::k):=by
 intro tmps ht
 refine ab.step rfl λ w hw=>?_
 obtain ⟨⟨l,mark⟩,w',R',H',h1,h2,h3,rfl,d,Hm,rfl,hK⟩:=Pe tmps w hw
 have iI:=ht.knows ⟨c.fn,c.kind,c.ro,c.n,mark++c.defers,c.cs⟩ (.inRangeFunc l::k)
 have hv:ai P (do let d ← resolve (aU ⟨c.fn,c.kind,c.ro,c.n,mark++c.defers,c.cs⟩ tmps (.inRangeFunc l::k)).eval { callee:=.value x,args:=#[.const (.func (.yield l) #[] #[])],argTypes:=#[] } 0; invoke d.target d.args) (.enter iu (first++#[.func (.yield l) #[] #[]]++cap)):=by
  obtain ⟨fn,e1,e2,e3⟩:=he.ex
  simp only [resolve,iI x _ hx,Deferred.ofValue]
  refine ai.bH (a:=⟨.fn (.func iu) cap,first++#[.func (.yield l) #[] #[]]⟩) (by simpa [Frame.eval] using ai.bD _) ?_
  simp only [invoke]
  exact ET e1 e2 e3
 have hj:=h l mark d Hm tmps ht hK
 refine ⟨_,w',seen P c.fn ((Instr.enterLoop c.fn tmps #[t] assign jW c.ro).events P w #[]),R',_,?_,λ e J5=>h2 e (mem_seen J5),h3,hj⟩
 have KO:=hv w'
 simp only [aU] at KO
 have dI:(c.kind == CallKind.early)=false:=hk
 simp [stepG,stepG.exec,stepG.apply,aV,aU,h1,KO.1,KO.2,GStep.after,dI,seen]
theorem U.aeC{l:Nat}{r:Loop}{Hs T:ah}{pend:Option Code}(hb:(r.state == .busy)=false)(hp:r.pending=pend)(h:U ab c R (Hs++T) st ((pend.map Item.code).toList++k)):U ab c R (Hs++(l,.loop r)::T) st (.endRangeFunc l::k):=λ tmps ht=>by
 subst hp
 refine ab.step rfl λ w hw=>?_
 obtain ⟨v,w',R',H',h1,h2,h3,rfl,rfl,rfl⟩:=aI6 (P:=P) hb w hw
 refine ⟨aV (aU c tmps ((r.pending.map Item.code).toList++k)) c.cs,w',seen P c.fn ((Instr.endLoop l).events P w #[]),R',_,?_,λ e he=>h2 e (mem_seen he),h3,J.drop ?_ (h tmps ht)⟩
 ·simp [stepG,stepG.exec,aV,aU,h1,GStep.after]
 ·exact (List.sublist_cons_self _ _).append_left _
theorem ar2{tmps:Array Value}{l:Nat}{w:Value}:(aU c tmps (.inRangeFunc l::k)).finish w=aU c tmps (.endRangeFunc l::k):=rfl
theorem U.aiI{ρ:Type}{tO:(α→(S ⊕ O)→Option ((S ⊕ O) × Bool))→(S ⊕ O)→Option (S ⊕ O)}{cont:S ⊕ O→Option ρ}{s0:S}{rr:ρ}{x:Operand}{iu:FuncId}{first cap:Array Value}{H1:ah}
  (hM:(tO (gm body) (.inl s0)).bind cont=some rr) (hx:bj st x=some (.func (.func iu) first cap)) (he:bn P iu) (hk:(c.kind == CallKind.early)=false) (kH:c.ro=none) (hd:Nat.blt t c.n=true)
  (I:S→az→ah→ah→Prop) (E:O→az→ah→ah→Prop) (jc:O→Code) (uW:∀ s,Shape (I s)) (CV:∀ o,Shape (E o))
  (Ky:∀ v Inv Hy z,mg ab R A v (gm body) Inv→Inv (.inl s0) R Hy→tO (gm body) (.inl s0)=some z→bg ab iu (first++#[v]++cap) R Hy λ _ R' H'=>aO R R'∧Inv z R' H')
  (h0:I s0 R H H1)
  (ha:∀ r s R' H',aO R R'→I s R' ((r,.deferred (some []))::H) H'→cont (.inl s)=some rr→U ab ⟨c.fn,c.kind,none,c.n,⟨.collected r,#[]⟩::c.defers,c.cs⟩ R' H' st k)
  (hz:∀ r o R' H',aO R R'→E o R' ((r,.deferred (some []))::H) H'→cont (.inr o)=some rr→U ab ⟨c.fn,c.kind,none,c.n,⟨.collected r,#[]⟩::c.defers,c.cs⟩ R' H' st (.code (jc o)::k))
  (hb:acP I E jc ab c R H st A body t assign jW) :
  U ab c R H1 st (.code (.rangeFunc x #[t] assign jW)::k):=by
 obtain ⟨z,hm,hc⟩:=ag hM
 refine U.aqk hx he hk (K:=λ q R' Hm=>∃ r,q.2=[⟨.collected r,#[]⟩]∧Hm=(r,.deferred (some []))::H1) (λ tmps=>?_) ?_
 ·rw [kH]
  exact aI8.mono λ q R' H' ⟨h1,r,h2,h3⟩=>⟨h1,r,_,h3,r,h2,rfl⟩
 rintro l mark d Hm tmps ht ⟨r,W2,rfl⟩
 have W2:mark=[⟨.collected r,#[]⟩]:=W2
 subst W2
 obtain ⟨Hs,rfl,bp⟩:=uW s0 _ _ _ h0
 have auN:mg ab R A (.func (.yield l) #[] #[]) (gm body) (RInv I E jc R l (vy c.fn tmps t assign jW d) ((r,.deferred (some []))::H)):=as6 uW CV ht hd (List.sublist_cons_self _ _) hb
 refine J.perm (H':=Hs++(l,.loop (vy c.fn tmps t assign jW d))::(r,.deferred (some []))::H) ?_ ?_
 ·exact List.perm_middle.trans (List.Perm.cons _ List.perm_middle)
 refine Ky _ _ _ z auN ⟨aO.refl R,bp R _ (aO.refl R)⟩ hm _ _ λ v R' H' hv=>?_
 rw [ar2]
 obtain ⟨hR,hI⟩:=hv
 cases z with
 | inl s =>
  obtain ⟨_,hI⟩:=hI
  obtain ⟨dV,rfl,Di⟩:=uW s _ _ _ hI
  rw [kH]
  exact U.aeC (c:=⟨c.fn,c.kind,none,c.n,⟨.collected r,#[]⟩::c.defers,c.cs⟩) rfl rfl (ha r s R' _ hR (Di R' _ (aO.refl R')) hc) tmps ht
 | inr o =>
  obtain ⟨_,hI⟩:=hI
  obtain ⟨dV,rfl,Di⟩:=CV o _ _ _ hI
  rw [kH]
  exact U.aeC (c:=⟨c.fn,c.kind,none,c.n,⟨.collected r,#[]⟩::c.defers,c.cs⟩) rfl rfl (hz r o R' _ hR (Di R' _ (aO.refl R')) hc) tmps ht
theorem U.aa9{ρ:Type}{body:α→S→Option (S ⊕ Empty)}(tO:(α→(S ⊕ Empty)→Option ((S ⊕ Empty) × Bool))→(S ⊕ Empty)→Option (S ⊕ Empty)){f:S→Option ρ}{g:Empty→Option ρ}{s0:S}{rr:ρ}{x:Operand}{iu:FuncId}{first cap:Array Value}{H1:ah}
  (hM:(tO (gm body) (.inl s0)).bind (Sum.elim f g)=some rr) (hx:bj st x=some (.func (.func iu) first cap)) (he:bn P iu) (hk:(c.kind == CallKind.early)=false) (kH:c.ro=none) (hd:Nat.blt t c.n=true)
  (I:S→az→ah→ah→Prop) (uW:∀ s,Shape (I s))
  (Ky:∀ v Inv Hy z,mg ab R A v (gm body) Inv→Inv (.inl s0) R Hy→tO (gm body) (.inl s0)=some z→bg ab iu (first++#[v]++cap) R Hy λ _ R' H'=>aO R R'∧Inv z R' H')
  (h0:I s0 R H H1)
  (ha:∀ r s R' H',aO R R'→I s R' ((r,.deferred (some []))::H) H'→f s=some rr→U ab ⟨c.fn,c.kind,none,c.n,⟨.collected r,#[]⟩::c.defers,c.cs⟩ R' H' st k)
  (hb:∀ (va:Value) (x:α) (s:S) (R':az) (T H':ah) (l:Nat) (ld:Loop) (cs:List Frame),aO R R'→List.Sublist H T→A R' x va→I s R' ((l,.loop ld)::T) H'→ld.state = .ready→∀ z,body x s=some z →
   (∀ s',z = .inl s'→∀ cN dY oL,aO R' cN→I s' cN ((l,.loop { ld with state:=.busy })::T) dY→U ab ⟨c.fn,.normal,some l,c.n,[],cs⟩ cN dY oL []) →
   U ab ⟨c.fn,.normal,some l,c.n,[],cs⟩ R' H' ((t,va)::st) [.code assign,.beginRound,.code jW]) :
  U ab c R H1 st (.code (.rangeFunc x #[t] assign jW)::k) :=
 U.aiI (tO:=tO) hM hx he hk kH hd I (λ o=>o.elim) (λ o=>o.elim) uW (λ o=>o.elim) Ky h0 ha (λ _ o=>o.elim)
  (λ va x s z R' T H' l ld cs h1 h2 h3 h4 h5 h6 h7 _=>hb va x s R' T H' l ld cs h1 h2 h3 h4 h5 z h6 λ s' hz cN dY oL=>h7 s' cN dY oL hz)
theorem U.aba{ρ:Type}(tO:(α→(S ⊕ O)→Option ((S ⊕ O) × Bool))→(S ⊕ O)→Option (S ⊕ O)){f:S→Option ρ}{g:O→Option ρ}{s0:S}{rr:ρ}{x:Operand}{iu:FuncId}{first cap:Array Value}{H1:ah}(jc:Code)
  (hM:(tO (gm body) (.inl s0)).bind (Sum.elim f g)=some rr) (hx:bj st x=some (.func (.func iu) first cap)) (he:bn P iu) (hk:(c.kind == CallKind.early)=false) (kH:c.ro=none) (hd:Nat.blt t c.n=true)
  (I:S→az→ah→ah→Prop) (E:O→az→ah→ah→Prop) (uW:∀ s,Shape (I s)) (CV:∀ s,Shape (E s))
  (Ky:∀ v Inv Hy z,mg ab R A v (gm body) Inv→Inv (.inl s0) R Hy→tO (gm body) (.inl s0)=some z→bg ab iu (first++#[v]++cap) R Hy λ _ R' H'=>aO R R'∧Inv z R' H')
  (h0:I s0 R H H1)
  (ha:∀ r s R' H',aO R R'→I s R' ((r,.deferred (some []))::H) H'→f s=some rr→U ab ⟨c.fn,c.kind,none,c.n,⟨.collected r,#[]⟩::c.defers,c.cs⟩ R' H' st k)
  (hz:∀ r o R' H',aO R R'→E o R' ((r,.deferred (some []))::H) H'→g o=some rr→U ab ⟨c.fn,c.kind,none,c.n,⟨.collected r,#[]⟩::c.defers,c.cs⟩ R' H' st (.code jc::k))
  (hb:∀ (va:Value) (x:α) (s:S) (R':az) (T H':ah) (l:Nat) (ld:Loop) (cs:List Frame),aO R R'→List.Sublist H T→A R' x va→I s R' ((l,.loop ld)::T) H'→ld.state = .ready→∀ z,body x s=some z →
   (∀ s',z = .inl s'→∀ cN dY oL,aO R' cN→I s' cN ((l,.loop { ld with state:=.busy })::T) dY→U ab ⟨c.fn,.normal,some l,c.n,[],cs⟩ cN dY oL []) →
   (∀ o,z = .inr o→∀ cN dY oL Bt,aO R' cN→E o cN ((l,.loop { ld with state:=.busy })::T) dY→Leaves (.code jc::Bt) (some jc)→U ab ⟨c.fn,.normal,some l,c.n,[],cs⟩ cN dY oL (.code jc::Bt)) →
   U ab ⟨c.fn,.normal,some l,c.n,[],cs⟩ R' H' ((t,va)::st) [.code assign,.beginRound,.code jW]) :
  U ab c R H1 st (.code (.rangeFunc x #[t] assign jW)::k) :=
 U.aiI (tO:=tO) hM hx he hk kH hd I E (λ _=>jc) uW CV Ky h0 ha hz
  (λ va x s z R' T H' l ld cs h1 h2 h3 h4 h5 h6 h7 h8=>hb va x s R' T H' l ld cs h1 h2 h3 h4 h5 z h6 (λ s' hz cN dY oL=>h7 s' cN dY oL hz) (λ o hz cN dY oL Bt=>h8 o cN dY oL Bt hz))
theorem aJa{r:Nat}{H':ah}(hs:fl H r (.deferred (some [])) (.deferred none) H'):aQ P B R H (Instr.takeDeferred r) λ v cN dY=>v=[]∧cN=R∧dY=H':=by
 unfold Instr.takeDeferred
 exact aQ.du (aQ.getObj rfl (.inr hs.mem) (aQ.du (aQ.setObj rfl rfl hs (aQ.dT ⟨rfl,rfl,rfl⟩))))
theorem aIA{fr:Frame}{cs:List Frame}{f:FuncId}{n r:Nat}{H':ah}{tmps:Array Value}{todo:List Item}(hs:fl H r (.deferred (some [])) (.deferred none) H')
  (h:ab.J R H' (aV { (aU ⟨f,.normal,none,n,[],fr::cs⟩ tmps todo) with mode:=.returning } (fr::cs))) :
  ab.J R H (aV { (aU ⟨f,.normal,none,n,[⟨.collected r,#[]⟩],fr::cs⟩ tmps todo) with mode:=.returning } (fr::cs)):=by
 refine ab.step rfl λ w hw=>?_
 obtain ⟨v,w',R',H',h1,h2,h3,rfl,rfl,rfl⟩:=aJa (P:=P) hs w hw
 refine ⟨_,w',seen P f ((Instr.takeDeferred r).events P w #[]),R',_,?_,λ e he=>h2 e (mem_seen he),h3,h⟩
 simp [stepG,unwind,aV,aU,h1,GStep.after]
theorem aIz{fr:Frame}{cs:List Frame}{f:FuncId}{n:Nat}{fn:Func}{vs:List Value}{tmps:Array Value}{todo:List Item}(hf:P.funcs[f]? = some fn)(ht:cX n st tmps)(hr:pP P R H st fn.results.toList vs)(hj:ab.J R H (aV (fr.finish (iM vs)) cs)) :
  ab.J R H (aV { (aU ⟨f,.normal,none,n,[],fr::cs⟩ tmps todo) with mode:=.returning } (fr::cs)):=by
 refine ab.step rfl λ w hw=>?_
 obtain ⟨v,w',R',H',h1,h2,h3,rfl,rfl,rfl⟩:=Rz (P:=P) ht hr w hw
 refine ⟨aV (fr.finish (iM vs)) cs,w',seen P f ((results fn tmps).events P w #[]),R',H',?_,λ e he=>h2 e (mem_seen he),h3,hj⟩
 simp [stepG,unwind,doReturn,aV,aU,hf,h1,GStep.after]
theorem U.zE{fr:Frame}{cs:List Frame}{f:FuncId}{n r:Nat}{H':ah}{fn:Func}{vs:List Value}(hs:fl H r (.deferred (some [])) (.deferred none) H')(hf:P.funcs[f]? = some fn)(hr:pP P R H' st fn.results.toList vs)(hj:ab.J R H' (aV (fr.finish (iM vs)) cs)) :
  U ab ⟨f,.normal,none,n,[⟨.collected r,#[]⟩],fr::cs⟩ R H st (.code .ret::k):=λ tmps ht=>by
 refine Jd.ctl (g':=aV { (aU ⟨f,.normal,none,n,[⟨.collected r,#[]⟩],fr::cs⟩ tmps (.code .ret::k)) with mode:=.returning } (fr::cs)) rfl (λ w=>by simp [stepG,stepG.exec,aV,aU]) ?_
 exact aIA hs (aIz hf ht hr hj)
end
theorem bg.hole{f:FuncId}{args:Array Value}{G:ah→ah}{Hs:ah}(hG:lE G){Q:Value→az→ah→Prop}(h:bg ab f args R (Hs++G []) λ v R' H'=>∃ dV,Q v R' dV∧H'=dV++G []) :
  bg ab f args R (G Hs) λ v R' H'=>∃ dV,Q v R' dV∧H'=G dV:=by
 obtain ⟨A,D,hG⟩:=hG
 have key:∀ X:ah,List.Perm (X++G []) (G X):=λ X=>by
  rw [hG,hG,List.nil_append,← List.append_assoc,← List.append_assoc]
  exact List.perm_append_comm.append_right D
 intro fr cs hk
 refine J.perm (key Hs) (h fr cs λ v R' H' hv=>?_)
 obtain ⟨dV,hq,rfl⟩:=hv
 exact J.perm (key dV).symm (hk v R' _ ⟨dV,hq,rfl⟩)
theorem Ox.wX{x y:Operand}{t u e:TypeId}{o:Oper}{C:az→ah→St→Prop}{A:Option Addr}{n cap:Nat}{b:Bool}{st':St}(au:o.op = .binOp .eql t x y u)(hx:bj st x=some (.slice A n cap))(hy:bj st y=some (.slice none 0 0))(ht:P.underlying t=some (.slice e))(hb:A.isNone=b)
  (hd:cj o.dst c.n) (hs:aI (cx o.dst (.bool b) st) st') (h:C R H st'):aZ P B c o R H st C :=
 Ox.mP (s:=λ ρ=>do eqGuard .eql t x y (ρ x) (ρ y); binOp .eql t (ρ x) (ρ y)) (by rw [au]; rfl) hd (λ ρ=>by simp only [execOp,au]) (λ ρ bl=>by
  rw [bl x _ hx,bl y _ hy]
  refine ai.bH (a:=()) (ai.bD _) ?_
  simp only [binOp]
  refine ai.bH (a:=b) ?_ (ai.bD _)
  unfold Op.equal Op.maxDepth Op.equalIn
  refine ai.bH (ai.underlying ht) ?_
  cases A with
  | none=>subst hb; exact ai.bD _
  | some a=>subst hb; exact ai.bD _) hs h
theorem cV.Mv{α:Type}{K:cG α}{k:Nat}{v:Value}{xs:List α}(h:cV K k R H v xs):(∃ cap,v = .slice none 0 cap∧xs=[])∨∃ a n cap,v = .slice (some a) n cap:=by
 obtain ⟨A,cap,es,rfl,h2,h3,h4⟩:=h
 cases A with
 | some a=>exact .inr ⟨a,_,cap,rfl⟩
 | none =>
  cases xs with
  | nil=>exact .inl ⟨cap,rfl,rfl⟩
  | cons x xs =>
   obtain ⟨b,o,g,_⟩:=h4 (by simp)
   cases g
theorem Ox.DR{x y:Operand}{t e len:Nat}{cs:Array Value}{v:Value}{kd:IntKind}{i:Int}{o:Oper}{C:az→ah→St→Prop}{st':St}(au:o.op = .index t x y)(hx:bj st x=some (.agg cs))(hy:bj st y=some (.int kd i))(ht:wG P t len e 1)(he:ai P (isAgg e) false)(hi:0≤i∧i < len)(hv:cs[i.toNat * 1]? = some v)
  (hd:cj o.dst c.n) (hs:aI (cx o.dst v st) st') (h:C R H st'):aZ P B c o R H st C :=
 Ox.mP (s:=λ ρ=>Instr.index t (ρ x) (ρ y)) (by rw [au]; rfl) hd (λ ρ=>by simp only [execOp,au]) (λ ρ bl=>by
  rw [bl x _ hx,bl y _ hy]
  unfold Instr.index
  refine ai.bH (a:=(kd,i)) (ai.bD _) (ai.bH (ai.underlying ht.1) ?_)
  simp only [hi,and_self,if_true]
  refine ai.bH ht.2 ?_
  unfold part
  refine ai.bH he ?_
  simp only [hv]
  exact ai.bD _) hs h
theorem U.qU{todo:List Item}{b:Nat}{cs:Array Value}{e:TypeId}{fz:Nat × Nat}(G:ah→ah)(hG:lE G){H2:ah}(h2:G []=H2)(h:∀ R',aO R R'→aS R' [] b 0 cs.toList→U ab c R' H2 st todo):U ab c R (G [(b,.cells cs e fz)]) st todo:=by
 obtain ⟨A,D,hG⟩:=hG
 refine U.perm (H':=(b,.cells cs e fz)::(A++D)) ?_ (U.freeze λ R' hR hb=>?_)
 ·rw [hG]; exact List.perm_middle.symm
 ·have e2:A++D=H2:=by rw [← h2,hG]; rfl
  rw [e2]
  exact h R' hR (aS.known (n:=cs.toList.length) hb (by rw [List.drop_zero,List.take_length]))
def Cp(ab:Jd P B main)(R:az){α S:Type}(A:od α)(v:Value)(q:(α→S→Option (S × Bool))→S→Option S):Prop :=
 ∃ iu first cap,v = .func (.func iu) first cap∧bn P iu∧∀ R',aO R R'→∀ (w:Value) (y:α→S→Option (S × Bool)) (Inv:S→az→ah→Prop) (Hy:ah) (s z:S),mg ab R' A w y Inv→Inv s R' Hy→q y s=some z →
  bg ab iu (first++#[w]++cap) R' Hy λ _ cN H'=>aO R' cN∧Inv z cN H'
theorem Cp.mono{R':az}{α S:Type}{A:od α}{v:Value}{q:(α→S→Option (S × Bool))→S→Option S}(h:Cp ab R A v q)(hR:aO R R'):Cp ab R' A v q:=by
 obtain ⟨iu,first,cap,h1,h2,h3⟩:=h
 exact ⟨iu,first,cap,h1,h2,λ cN Jz=>h3 cN (hR.trans Jz)⟩
theorem mg.frame{α S:Type}{A:od α}{v:Value}{y:α→S→Option (S × Bool)}{Inv:S→az→ah→Prop}(h:mg ab R A v y Inv)(Hf:ah):mg ab R A v y λ s R' H'=>∃ Hy,Inv s R' Hy∧H'=Hf++Hy where
 fn:=h.fn
 mono:=λ h1 h2 ⟨Hy,hi,e⟩=>⟨Hy,h.mono h1 h2 hi,e⟩
 call:=by
  intro H2 R' Hy s x va z hR hI hA hy
  obtain ⟨Hy,hI,rfl⟩:=hI
  have:=h.call (H2++Hf) hR hI hA hy
  rw [List.append_assoc] at this
  refine this.mono λ w cN dY ⟨h1,h2,Ay,h3,h4⟩=>⟨h1,h2,Hf++Ay,⟨Ay,h3,rfl⟩,by rw [h4,List.append_assoc]⟩
def many(a:ah):List (Nat × ah)→Nat→ah
 | [],_=>a
 | (q,l)::r,j=>if j=q then l else many a r j
section
variable {a N:ah} {ex:List (Nat × ah)} {rem D:List Nat} {i q:Nat} {l H':ah}
theorem kM(ha:∀ p∈N,p∈a):∀ j∈rem,j≠i→j ∉ D→∀ p∈N,p∈many a [] j:=λ _ _ _ _ p hp=>ha p hp
theorem fQ(hd:(D.contains q || q == i || !rem.contains q)=true)(h:∀ j∈rem,j≠i→j ∉ D→∀ p∈N,p∈many a ex j):∀ j∈rem,j≠i→j ∉ D→∀ p∈N,p∈many a ((q,l)::ex) j:=by
 intro j hj gw rZ p hp
 unfold many
 split
 ·subst_vars
  simp only [Bool.or_eq_true,Bool.not_eq_true',List.contains_iff_mem,beq_iff_eq] at hd
  rcases hd with (x | x) | x
  ·exact absurd x rZ
  ·exact absurd x gw
  ·have:rem.contains j=true:=List.contains_iff_mem.2 hj
   rw [this] at x; cases x
 ·exact h j hj gw rZ p hp
theorem ahO(hl:∀ p∈N,p∈l)(h:∀ j∈rem,j≠i→j ∉ D→∀ p∈N,p∈many a ex j):∀ j∈rem,j≠i→j ∉ D→∀ p∈N,p∈many a ((q,l)::ex) j:=by
 intro j hj gw rZ p hp
 unfold many
 split
 ·exact hl p hp
 ·exact h j hj gw rZ p hp
theorem ia(he:many a ex i=l)(h:∀ p∈l,p∈H'):∀ p∈many a ex i,p∈H→p∈H':=by
 rw [he]; exact λ p hp _=>h p hp
end
end
def gk(p:Int):Value:=.int .i64 p
theorem Qd{p p':Int}(h:gk p=gk p'):p=p':=by
 simpa [gk] using h
def mM(m:Int→Int)(p z:Int):Int→Int:=λ a=>if a=p then z else m a
structure Au (es:List MapEntry) (m:Int→Int) (clock:Nat):Prop where
 Oo:∀ e∈es,∃ p,e.key=gk p∧e.val = .int .i64 (m p)
 zero:∀ p,(∀ e∈es,e.key≠gk p)→m p=0
 keys:∀ (i j:Nat) (a b:MapEntry),es[i]? = some a→es[j]? = some b→a.key=b.key→i=j
 old:∀ e∈es,e.born < clock
 adM:∀ (i j:Nat) (a b:MapEntry),es[i]? = some a→es[j]? = some b→a.born=b.born→i=j
def Cj(v:Value)(m:Int→Int)(Hs:ah):Prop:=∃ b es clock,v = .map (some b)∧Hs=[(b,.map es clock)]∧Au es.toList m clock
structure NG (P:Program) (t kt et:TypeId):Prop where
 ty:P.underlying t=some (.map kt et)
 key:P.underlying kt=some (.int .i64)
 pW:∀ (e:Bool) (a:Int),ai P (Instr.checkKey e 10000 kt (gk a)) ()
 zero:ai P (zeroValue et) (.int .i64 0)
section
variable {P:Program} {B:Base} {main:Bool} {ab:Jd P B main} {c:Ctx} {R:az} {H:ah} {st st':St} {o:Oper} {C:az→ah→St→Prop}
def alo(es:List MapEntry)(p:Int)(r:Option (Nat × Value)):Prop :=
 (r=none∧∀ e∈es,e.key≠gk p)∨∃ (i:Nat) (e:MapEntry),es[i]? = some e∧e.key=gk p∧r=some (i,e.val)
theorem aft(p:Int):∀ (es:List MapEntry) (i:Nat),(∀ e∈es,∃ p,e.key=gk p)→∃ r,Instr.findNow (.int .i64) (gk p) es i=some r∧((r=none∧∀ e∈es,e.key≠gk p)∨∃ (j:Nat) (e:MapEntry),es[j]? = some e∧e.key=gk p∧r=some (i+j,e.val))
 | [],i,h=>⟨none,rfl,.inl ⟨rfl,λ e he=>(by cases he)⟩⟩
 | e::es,i,h=>by
  obtain ⟨p',hk⟩:=h e (by simp)
  by_cases heq:p=p'
  ·subst heq
   refine ⟨some (i,e.val),?_,.inr ⟨0,e,rfl,hk,rfl⟩⟩
   unfold Instr.findNow
   rw [hk]
   simp [gk,Instr.sameNow]
  ·obtain ⟨r,hr,hc⟩:=aft p es (i+1) (λ e he=>h e (by simp [he]))
   refine ⟨r,?_,?_⟩
   ·unfold Instr.findNow
    rw [hk]
    simp only [gk] at hr ⊢
    have hb:(p == p')=false:=by simpa using heq
    simp [Instr.sameNow,hb,hr]
   ·rcases hc with ⟨rfl,hc⟩ | ⟨j,e',h1,h2,rfl⟩
    ·refine .inl ⟨rfl,λ x hx=>?_⟩
     rcases fa.1 hx with rfl | hx
     ·intro e2
      exact heq (Qd (hk.symm.trans e2)).symm
     ·exact hc x hx
    ·exact .inr ⟨j+1,e',by simpa using h1,h2,by simp; omega⟩
theorem ajD{t kt et:TypeId}(ht:NG P t kt et)(p:Int){es:List MapEntry}{m:Int→Int}{cl:Nat}(h:Au es m cl):∃ r,ai P (Instr.findKey kt (gk p) es) r∧alo es p r:=by
 obtain ⟨r,hr,hc⟩:=aft p es 0 (λ e he=>let ⟨p,hk,_⟩:=h.Oo e he; ⟨p,hk⟩)
 refine ⟨r,?_,?_⟩
 ·unfold Instr.findKey
  refine ai.bH (ai.underlying ht.key) ?_
  rw [hr]
  exact ai.bD _
 ·rcases hc with hc | ⟨j,e',h1,h2,h3⟩
  ·exact .inl hc
  ·exact .inr ⟨j,e',h1,h2,by simpa using h3⟩
theorem Ox.aGH{t:TypeId}(au:o.op = .makeMap t none)(hd:cj o.dst c.n)
  (hC:∀ v Hs,Cj v (λ _=>0) Hs→∃ st',aI (cx o.dst v st) st'∧C R (Hs++H) st'):aZ P B c o R H st C :=
 Ox.mem (s:=λ ρ=>Instr.makeMap t none) (by rw [au]; rfl) hd (λ ρ=>by simp only [execOp,au]; rfl) (λ ρ bl=>by
  unfold Instr.makeMap
  refine aQ.du (aQ.new λ b _ _=>aQ.dT ?_)
  exact hC (.map (some b)) [(b,.map #[] 0)] ⟨b,#[],0,rfl,rfl,⟨λ e he=>(by cases he),λ _ _=>rfl,λ i j a b ha=>(by simp at ha),λ e he=>(by cases he),λ i j a b ha=>(by simp at ha)⟩⟩)
theorem Ox.ag8{x y:Operand}{t kt et:TypeId}{v:Value}{m:Int→Int}{p:Int}{Hs:ah}(au:o.op = .lookup t x y false)(hx:bj st x=some v)(hy:bj st y=some (gk p))(ht:NG P t kt et)(hm:Cj v m Hs)(hH:∀ q∈Hs,q∈H)
  (hd:cj o.dst c.n) (hs:aI (cx o.dst (.int .i64 (m p)) st) st') (h:C R H st'):aZ P B c o R H st C :=
 Ox.mem (s:=λ ρ=>Instr.lookup t (ρ x) (ρ y) false) (by rw [au]; rfl) hd (λ ρ=>by simp only [execOp,au]) (λ ρ bl=>by
  rw [bl x _ hx,bl y _ hy]
  unfold Instr.lookup
  refine ai.fe (ai.underlying ht.ty) ?_
  obtain ⟨b,es,cl,rfl,rfl,he⟩:=hm
  refine aQ.du (aQ.getObj rfl (.inr (hH (b,.map es cl) (by simp))) ?_)
  refine aQ.du (aQ.dT ?_)
  obtain ⟨r,hr,hf⟩:=ajD ht p he
  refine ai.fe (ht.pW _ p) (ai.fe hr ?_)
  rcases hf with ⟨rfl,hn⟩ | ⟨i,e,h1,h2,rfl⟩
  ·refine ai.fe ht.zero (aQ.du (aQ.dT (aQ.dT ?_)))
   rw [he.zero p hn] at hs
   exact ⟨st',hs,h⟩
  ·obtain ⟨p',hk,hv⟩:=he.Oo e (List.mem_of_getElem? h1)
   obtain rfl:=Qd (hk.symm.trans h2)
   rw [hv]
   exact aQ.du (aQ.dT (aQ.dT ⟨st',hs,h⟩)))
theorem aI4(p:Int):Instr.sameBits 10000 (gk p) (gk p)=true:=by
 simp [Instr.sameBits,gk]
theorem Au.push{es:Array MapEntry}{m:Int→Int}{cl:Nat}{p z:Int}(h:Au es.toList m cl)(hn:∀ e∈es.toList,e.key≠gk p) :
  Au (es.push { key:=gk p,val:=.int .i64 z,born:=cl }).toList (mM m p z) (cl+1):=by
 rw [Array.toList_push]
 refine ⟨λ e he=>?_,λ p' eP=>?_,λ i j a b ha hb bP=>?_,λ e he=>?_,λ i j a b ha hb bP=>?_⟩
 ·rcases List.mem_append.1 he with he | he
  ·obtain ⟨p',h1,h2⟩:=h.Oo e he
   refine ⟨p',h1,?_⟩
   unfold mM
   rw [if_neg (λ e2=>hn e he (by rw [h1,e2])),h2]
  ·rcases List.mem_singleton.1 he with rfl
   exact ⟨p,rfl,by simp [mM]⟩
 ·have h1:=h.zero p' λ e he=>eP e (List.mem_append.2 (.inl he))
  unfold mM
  rw [if_neg,h1]
  rintro rfl
  exact eP { key:=gk p',val:=.int .i64 z,born:=cl } (List.mem_append.2 (.inr (by simp))) rfl
 ·rw [List.getElem?_append] at ha hb
  split at ha <;> split at hb
  ·exact h.keys i j a b ha hb bP
  ·have:b={ key:=gk p,val:=.int .i64 z,born:=cl }:=by
    have:=List.mem_of_getElem? hb; simpa using this
   subst this
   exact absurd bP (hn a (List.mem_of_getElem? ha))
  ·have:a={ key:=gk p,val:=.int .i64 z,born:=cl }:=by
    have:=List.mem_of_getElem? ha; simpa using this
   subst this
   exact absurd bP.symm (hn b (List.mem_of_getElem? hb))
  ·have h1:=(iC.1 ha).1
   have h2:=(iC.1 hb).1
   simp only [List.length_singleton,Array.length_toList] at *
   omega
 ·rcases List.mem_append.1 he with he | he
  ·have:=h.old e he; omega
  ·rcases List.mem_singleton.1 he with rfl
   exact Nat.lt_succ_self _
 ·rw [List.getElem?_append] at ha hb
  split at ha <;> split at hb
  ·exact h.adM i j a b ha hb bP
  ·have:b={ key:=gk p,val:=.int .i64 z,born:=cl }:=by
    have:=List.mem_of_getElem? hb; simpa using this
   subst this
   have:=h.old a (List.mem_of_getElem? ha)
   simp only at bP
   omega
  ·have:a={ key:=gk p,val:=.int .i64 z,born:=cl }:=by
    have:=List.mem_of_getElem? ha; simpa using this
   subst this
   have:=h.old b (List.mem_of_getElem? hb)
   simp only at bP
   omega
  ·have h1:=(iC.1 ha).1
   have h2:=(iC.1 hb).1
   simp only [List.length_singleton,Array.length_toList] at *
   omega
theorem Ju{α:Type}{a:Array α}{j:Nat}{x:α}(h:a.toList[j]? = some x):a[j]? = some x:=by rwa [Array.getElem?_toList] at h
theorem Au.uh{es:Array MapEntry}{m:Int→Int}{cl i:Nat}{p z:Int}{e:MapEntry}(he:Au es.toList m cl)(hi:es[i]? = some e)(hk:e.key=gk p) :
  Au (es.modify i λ e=>{ e with key:=gk p,val:=.int .i64 z }).toList (mM m p z) cl:=by
 have vb:∀ j a,(es.modify i λ e=>{ e with key:=gk p,val:=.int .i64 z })[j]? = some a→∃ a0,es[j]? = some a0∧a.key=a0.key∧a.born=a0.born∧a.val=if i=j then .int .i64 z else a0.val:=by
  intro j a ha
  rw [Array.getElem?_modify] at ha
  by_cases hj:i=j
  ·subst hj
   rw [hi] at ha
   simp only [if_true,Option.map_some,iS] at ha
   subst ha
   exact ⟨e,hi,hk.symm,rfl,by simp⟩
  ·simp only [hj,if_false] at ha
   exact ⟨a,ha,rfl,rfl,by simp [hj]⟩
 have ix:∀ a∈(es.modify i λ e=>{ e with key:=gk p,val:=.int .i64 z }).toList,∃ j,(es.modify i λ e=>{ e with key:=gk p,val:=.int .i64 z })[j]? = some a:=λ a ha=>by
  obtain ⟨j,hj⟩:=List.mem_iff_getElem?.1 ha
  exact ⟨j,Ju hj⟩
 refine ⟨λ a ha=>?_,λ p' eP=>?_,λ j k a b' ha hb bP=>?_,λ a ha=>?_,λ j k a b' ha hb bP=>?_⟩
 ·obtain ⟨j,hj⟩:=ix a ha
  obtain ⟨a0,h1,h2,h3,h4⟩:=vb j a hj
  obtain ⟨p',dI,KO⟩:=he.Oo a0 (by rw [← Array.mem_def]; exact Array.mem_of_getElem? h1)
  refine ⟨p',h2.trans dI,?_⟩
  rw [h4]
  by_cases rY:i=j
  ·subst rY
   rw [hi] at h1; cases h1
   obtain rfl:=Qd (hk.symm.trans dI)
   simp [mM]
  ·rw [if_neg rY,KO]
   unfold mM
   rw [if_neg]
   rintro rfl
   exact rY (he.keys i j e a0 (by simpa using hi) (by simpa using h1) (hk.trans dI.symm))
 ·unfold mM
  by_cases tv:p'=p
  ·subst tv
   exfalso
   obtain ⟨bK,u9⟩:=Array.getElem?_eq_some_iff.1 hi
   refine eP { e with key:=gk p',val:=.int .i64 z } ?_ rfl
   rw [← Array.mem_def]
   exact Array.mem_of_getElem? (i:=i) (by rw [Array.getElem?_modify]; simp [hi])
  ·rw [if_neg tv]
   refine he.zero p' λ a ha=>?_
   obtain ⟨j,hj⟩:=List.mem_iff_getElem?.1 ha
   have Bg:es[j]? = some a:=by simpa using hj
   by_cases rY:i=j
   ·subst rY
    rw [hi] at Bg; cases Bg
    intro e2
    exact tv (Qd (hk.symm.trans e2)).symm
   ·exact eP a (by rw [← Array.mem_def]; exact Array.mem_of_getElem? (i:=j) (by rw [Array.getElem?_modify]; simp [rY,Bg]))
 ·obtain ⟨a0,h1,h2,_⟩:=vb j a (Ju ha)
  obtain ⟨b0,k1,k2,_⟩:=vb k b' (Ju hb)
  exact he.keys j k a0 b0 (by simpa using h1) (by simpa using k1) (h2.symm.trans (bP.trans k2))
 ·obtain ⟨j,hj⟩:=ix a ha
  obtain ⟨a0,h1,h2,h3,h4⟩:=vb j a hj
  rw [h3]
  exact he.old a0 (by rw [← Array.mem_def]; exact Array.mem_of_getElem? h1)
 ·obtain ⟨a0,h1,_,h3,_⟩:=vb j a (Ju ha)
  obtain ⟨b0,k1,_,k3,_⟩:=vb k b' (Ju hb)
  exact he.adM j k a0 b0 (by simpa using h1) (by simpa using k1) (h3.symm.trans (bP.trans k3))
theorem Ox.aGJ{x y u:Operand}{t kt et:TypeId}{v:Value}{m:Int→Int}{p z:Int}{Hs:ah}(G:ah→ah)(au:o.op = .mapUpdate t x y u)(hx:bj st x=some v)(hy:bj st y=some (gk p))(hz:bj st u=some (.int .i64 z))(ht:NG P t kt et)(hG:lE G)(hm:Cj v m Hs)
  (hd:o.dst=none) (cU:aI st st') (hC:∀ dV,Cj v (mM m p z) dV→C R (G dV) st'):aZ P B c o R (G Hs) st C :=
 Ox.QK (s:=λ ρ=>Instr.mapUpdate t (ρ x) (ρ y) (ρ u)) (by rw [au]; rfl) hd (λ ρ=>by simp only [execOp,au]) cU (λ ρ bl=>by
  rw [bl x _ hx,bl y _ hy,bl u _ hz]
  unfold Instr.mapUpdate
  refine ai.fe (ai.underlying ht.ty) ?_
  obtain ⟨b,es,cl,rfl,rfl,he⟩:=hm
  refine aQ.du (aQ.getObj rfl (.inr (hG.set (o':=.map es cl)).mem) ?_)
  obtain ⟨r,hr,hf⟩:=ajD ht p he
  refine ai.fe (ht.pW _ p) (ai.fe hr ?_)
  rcases hf with ⟨rfl,hn⟩ | ⟨i,e,h1,h2,rfl⟩
  ·exact aQ.setObj rfl rfl hG.set (hC _ ⟨b,_,_,rfl,rfl,he.push hn⟩)
  ·have w5:es[i]? = some e:=by simpa using h1
   have cU:ai P (Instr.keyThatStays (((es[i]?).map (·.key)).getD (gk p)) (gk p)) (gk p):=by
    rw [w5]
    simp only [Option.map_some,oT,h2,Instr.keyThatStays,aI4,if_true]
    exact ai.bD _
   exact ai.fe cU (aQ.setObj rfl rfl hG.set (hC _ ⟨b,_,_,rfl,rfl,he.uh w5 h2⟩)))
end
def gT{α:Type}(m:Nat)(xs:List α)(i:Int):Option (List α):=if 0≤i∧i.toNat * m+m≤xs.length then some ((xs.drop (i.toNat * m)).take m) else none
def lB{α:Type}(m:Nat)(xs:List α)(i k:Int)(x:α):List α:=xs.set (i.toNat * m+k.toNat) x
def HK{α:Type}(m:Nat)(xs:List α)(i:Int)(r:List α):List α:=xs.take (i.toNat * m)++(r++xs.drop (i.toNat * m+m))
section
variable {α:Type} {m n:Nat} {xs r g:List α} {i k:Int} {x y:α}
theorem zH(h:gT m xs i=some r):0≤i∧i.toNat * m+m≤xs.length∧r=(xs.drop (i.toNat * m)).take m:=by
 unfold gT at h
 split at h
 ·rename_i hc; cases h; exact ⟨hc.1,hc.2,rfl⟩
 ·cases h
theorem px(h:gT m xs i=some r):r.length=m:=by
 obtain ⟨_,h2,rfl⟩:=zH h
 simp only [kT,List.length_drop]
 omega
theorem HL(h:xs.length=n):(lB m xs i k x).length=n:=by simpa [lB] using h
theorem aJb(h:gT m xs i=some r)(hx:xs.length=n)(hg:g.length=m):(HK m xs i g).length=n:=by
 obtain ⟨_,h2,_⟩:=zH h
 simp only [HK,lU,kT,List.length_drop]
 omega
theorem xC{P:Program}{t e len K b o:Nat}(ht:wG P t len e K)(hl:xs.length=len * m)(hm:0 < m)(h:gT m xs i=some r):yu P t (.pointer (some ⟨b,o,none⟩)) i b (o+i.toNat * K):=by
 obtain ⟨h1,h2,_⟩:=zH h
 refine agK ht ⟨h1,?_⟩
 rw [hl] at h2
 have h3:(i.toNat+1) * m≤len * m:=by rw [Nat.add_mul]; omega
 have:=Nat.le_of_mul_le_mul_right h3 hm
 omega
theorem aI0{pre post:List Value}{f:α→Value}{p:Nat}(h:gT m xs i=some r)(hp:pre.length=p):∃ a c,pre++(xs.map f++post)=a++(r.map f++c)∧a.length=p+i.toNat * m:=by
 obtain ⟨_,h2,rfl⟩:=zH h
 refine ⟨pre++(xs.take (i.toNat * m)).map f,(xs.drop (i.toNat * m+m)).map f++post,?_,by simp [hp]; omega⟩
 have e:xs=xs.take (i.toNat * m)++((xs.drop (i.toNat * m)).take m++xs.drop (i.toNat * m+m)):=by
  rw [← List.drop_drop,List.take_append_drop,List.take_append_drop]
 conv=>lhs; rw [e]
 simp
theorem aS.row{R:az}{H:ah}{b o p:Nat}{f:α→Value}{pre post:List Value}(hc:aS R H b o (pre++(xs.map f++post)))(h:gT m xs i=some r)(hp:pre.length=p):aS R H b (o+p+i.toNat * m) ([]++(r.map f++[])):=by
 obtain ⟨a,c,e,ha⟩:=aI0 (post:=post) (f:=f) h hp
 rw [e] at hc
 have:=hc.part (j:=a.length) (n:=(r.map f).length) (aJP rfl rfl)
 rw [ha] at this
 simpa [Nat.add_assoc] using this
theorem TU{pre post:List Value}{f:α→Value}{p:Nat}(h:gT m xs i=some r)(hk:idx r k=some y)(hp:pre.length=p):Nat.blt (p+i.toNat * m+k.toNat * 1) ((pre++(xs.map f++post)).toArray).size=true:=by
 obtain ⟨_,h2,_⟩:=zH h
 obtain ⟨_,h4,h5⟩:=vu hk
 have:=px h
 have:=(iC.1 h5).1
 rw [Nat.blt_eq]
 simp
 omega
theorem TW{pre post:List Value}{f:α→Value}{p:Nat}(h:gT m xs i=some r)(hk:idx r k=some y)(hp:pre.length=p):((pre++(xs.map f++post)).toArray).setIfInBounds (p+i.toNat * m+k.toNat * 1) (f x)=(pre++((lB m xs i k x).map f++post)).toArray:=by
 obtain ⟨_,h2,_⟩:=zH h
 obtain ⟨_,h4,h5⟩:=vu hk
 have:=px h
 have:=(iC.1 h5).1
 subst hp
 unfold lB
 simp only [Nat.mul_one,List.setIfInBounds_toArray,List.map_set]
 congr 1
 rw [List.set_append_right _ _ (by omega),show pre.length+i.toNat * m+k.toNat - pre.length=i.toNat * m+k.toNat by omega,List.set_append_left _ _ (by simp; omega)]
theorem aIX{pre post:List Value}{f:α→Value}{p:Nat}(h:gT m xs i=some r)(hp:pre.length=p):Nat.ble (p+i.toNat * m+m) ((pre++(xs.map f++post)).toArray).size=true:=by
 obtain ⟨_,h2,_⟩:=zH h
 rw [Nat.ble_eq]
 simp
 omega
theorem aH9{a c vs ws:List Value}{cs:Array Value}{off:Nat}(pb:cs=(a++(vs++c)).toArray)(ha:a.length=off)(hl:ws.length=vs.length):gl cs off ws=(a++(ws++c)).toArray:=by
 subst pb ha
 apply Array.ext_getElem?
 intro j
 rw [EG ws _ _ j (by simp; omega)]
 by_cases hj:a.length≤j∧j < a.length+ws.length
 ·rw [if_pos hj]
  simp only [List.getElem?_toArray]
  rw [pI hj.1,uF (by omega)]
 ·rw [if_neg hj]
  simp only [List.getElem?_toArray]
  by_cases h1:j < a.length
  ·rw [uF h1,uF h1]
  ·rw [pI (by omega),pI (by omega),pI (by omega),pI (by omega),hl]
theorem aI2{pre post:List Value}{f:α→Value}{p:Nat}(h:gT m xs i=some r)(hg:g.length=m)(hp:pre.length=p):gl ((pre++(xs.map f++post)).toArray) (p+i.toNat * m) (([]:List Value)++(g.map f++[]))=(pre++((HK m xs i g).map f++post)).toArray:=by
 obtain ⟨_,h2,_⟩:=zH h
 have hr:=px h
 have e:xs=xs.take (i.toNat * m)++(r++xs.drop (i.toNat * m+m)):=by
  obtain ⟨_,_,rfl⟩:=zH h
  rw [← List.drop_drop,List.take_append_drop,List.take_append_drop]
 have e2:(pre++(xs.map f++post)).toArray=((pre++(xs.take (i.toNat * m)).map f)++(r.map f++((xs.drop (i.toNat * m+m)).map f++post))).toArray:=by
  conv=>lhs; rw [e]
  simp
 have:=aH9 (ws:=([]:List Value)++(g.map f++[])) (off:=p+i.toNat * m) e2 (by simp [hp]; omega) (by simp [hg,hr])
 rw [this]
 simp [HK]
end
section
variable {P:Program} {B:Base} {main:Bool} {c:Ctx} {R:az} {H:ah} {st st':St} {o:Oper} {C:az→ah→St→Prop}
theorem Ox.Z3{α:Type}{x y:Operand}{t e len:Nat}{f:α→Value}{xs:List α}{a:α}{kd:IntKind}{i:Int}(au:o.op = .index t x y) (hx:bj st x=some (.agg (List.toArray ([]++(xs.map f++[]))))) (hy:bj st y=some (.int kd i)) (ht:wG P t len e 1) (he:ai P (isAgg e) false) (hl:xs.length=len) (hi:idx xs i=some a)
  (hd:cj o.dst c.n) (hs:aI (cx o.dst (f a) st) st') (h:C R H st'):aZ P B c o R H st C:=by
 obtain ⟨h1,h2,h3⟩:=vu hi
 exact Ox.DR au hx hy ht he ⟨h1,by omega⟩ (by simp [h3]) hd hs h
end
instance {n:Nat}:CM (ob Value.bool n):=⟨λ _ h=>h,λ ⟨_,h⟩ u hu=>by
 subst h
 simp only [List.nil_append,List.append_nil,List.mem_map] at hu
 obtain ⟨_,_,rfl⟩:=hu
 rfl⟩
instance {n:Nat} {kd:IntKind}:CM (ob (Value.int kd) n):=⟨λ _ h=>h,λ ⟨_,h⟩ u hu=>by
 subst h
 simp only [List.nil_append,List.append_nil,List.mem_map] at hu
 obtain ⟨_,_,rfl⟩:=hu
 rfl⟩
section
variable {P:Program} {B:Base} {main:Bool} {c:Ctx} {R:az} {H:ah} {st st':St} {o:Oper} {C:az→ah→St→Prop}
theorem Ox.aIf{t:TypeId}{x:Operand}{s:ByteArray}(au:o.op = .range t x)(hx:bj st x=some (.string s))(hu:P.underlying t=some .string)(hd:cj o.dst c.n)
  (hC:∀ b,R b=none→(∀ y,(b,y) ∉ H)→∃ st',aI (cx o.dst (.pointer (some ⟨b,0,none⟩)) st) st'∧C R ((b,.stringIter s 0)::H) st'):aZ P B c o R H st C :=
 Ox.mem (s:=λ ρ=>Instr.range t (ρ x)) (by rw [au]; rfl) hd (λ ρ=>by simp only [execOp,au]) (λ ρ bl=>by
  rw [bl x _ hx]
  unfold Instr.range
  refine ai.fe (ai.underlying hu) (ai.fe (ai.bD _) ?_)
  exact aQ.du (aQ.new λ b h1 h2=>aQ.dT (hC b h1 h2)))
theorem Ox.aGV{x:Operand}{b:Nat}{s:ByteArray}{pos:Nat}(au:o.op = .next x true)(hx:bj st x=some (.pointer (some ⟨b,0,none⟩)))(hb:(b,Obj.stringIter s pos)∈H)(hp:¬ pos < s.size)(hd:cj o.dst c.n)
  (hs:aI (cx o.dst (.tuple #[.bool false]) st) st') (h:C R H st'):aZ P B c o R H st C :=
 Ox.mem (s:=λ ρ=>Instr.next (ρ x) true o.type) (by rw [au]; rfl) hd (λ ρ=>by simp only [execOp,au]) (λ ρ bl=>by
  rw [bl x _ hx]
  unfold Instr.next
  refine aQ.du (aQ.getObj rfl (.inr hb) ?_)
  simp only [hp,if_false]
  exact aQ.dT ⟨st',hs,h⟩)
theorem Ox.aGW{x:Operand}{b:Nat}{s:ByteArray}{pos:Nat}{H':ah}(au:o.op = .next x true)(hx:bj st x=some (.pointer (some ⟨b,0,none⟩)))(hb:fl H b (.stringIter s pos) (.stringIter s (pos+(Utf8.decode s pos).2)) H')(hp:pos < s.size)(hd:cj o.dst c.n)
  (hs:aI (cx o.dst (.tuple #[.bool true,.int .i64 (pos:Int),.int .i32 ((Utf8.decode s pos).1:Int)]) st) st') (h:C R H' st'):aZ P B c o R H st C :=
 Ox.mem (s:=λ ρ=>Instr.next (ρ x) true o.type) (by rw [au]; rfl) hd (λ ρ=>by simp only [execOp,au]) (λ ρ bl=>by
  rw [bl x _ hx]
  unfold Instr.next
  refine aQ.du (aQ.getObj rfl (.inr hb.mem) ?_)
  simp only [hp,if_true]
  exact aQ.du (aQ.setObj rfl rfl hb (aQ.dT ⟨st',hs,h⟩)))
end
class mY (P:Program) where
 off:Nat→Nat→Option Nat
 ok:∀ s f n,off s f=some n→gN P s f n
def Rq(fo:Nat→Nat→Option Nat)(st:St)(o:Oper):Option Value :=
 match o.op with
 | .move x=>bj st x
 | .assign x=>bj st x
 | .pick x y z=>match bj st x with
  | some (.bool true)=>bj st y
  | some (.bool false)=>bj st z
  | _=>none
 | .extract x j=>match bj st x with
  | some (.tuple vs)=>vs[j]?
  | _=>none
 | .unOp .not _ x=>match bj st x with
  | some (.bool a)=>some (.bool (!a))
  | _=>none
 | .binOp bo _ x y _=>match bj st x,bj st y with
  | some (.int kd a),some (.int DT b)=>if kd=DT then (match Uy bo a b with
   | some r=>some (.bool r)
   | none=>match TS bo a b with
    | some z=>some (.int kd (kd.wrap z))
    | none=>none) else none
  | _,_=>none
 | .fieldAddr s x f=>match bj st x,fo s f with
  | some (.pointer (some ⟨b,n,none⟩)),some off=>some (.pointer (some ⟨b,n+off,none⟩))
  | _,_=>none
 | _=>none
section
variable {P:Program} [mY P] {B:Base} {main:Bool} {ab:Jd P B main} {c:Ctx} {R:az} {H:ah} {st st':St} {o:Oper} {C:az→ah→St→Prop} {k:List Item}
theorem aiH{v:Value}(h:Rq (mY.off P) st o=some v)(hd:cj o.dst c.n)(hs:aI (cx o.dst v st) st')(hC:C R H st'):aZ P B c o R H st C:=by
 unfold Rq at h
 split at h
 ·rename_i x au; exact Ox.move au h hd hs hC
 ·rename_i x au; exact Ox.assign au h hd hs hC
 ·rename_i x y z au
  split at h
  ·rename_i hx; exact Ox.aH3 au hx h hd hs hC
  ·rename_i hx; exact Ox.aH2 au hx h hd hs hC
  ·cases h
 ·rename_i x j au
  split at h
  ·rename_i hx; exact Ox.extract au hx h hd hs hC
  ·cases h
 ·rename_i t x au
  split at h
  ·rename_i hx; cases h; exact Ox.not au hx hd hs hC
  ·cases h
 ·rename_i bo t x y u au
  split at h
  ·rename_i kd a DT b hx hy
   split at h
   ·rename_i e; subst e
    split at h
    ·rename_i r hr; cases h; exact Ox.cmp au hx hy hr hd hs hC
    ·split at h
     ·rename_i z hz; cases h; exact Ox.ar au hx hy hz hd hs hC
     ·cases h
   ·cases h
  ·cases h
 ·rename_i s x f au
  split at h
  ·rename_i hx hf; cases h; exact Ox.fieldAddr au hx (mY.ok s f _ hf) hd hs hC
  ·cases h
 ·cases h
def abv(fo:Nat→Nat→Option Nat)(ops:Array Oper)(n:Nat)(st:St)(i:Nat):Option St :=
 match ops[i]? with
 | none=>none
 | some o=>match cM ops st o with
  | some true=>match Rq fo st o,o.dst with
   | some v,some d=>if Nat.blt d n=true then some ((d,v)::st) else none
   | _,_=>none
  | some false=>match ni o.op,o.dst with
   | false,some d=>if Nat.blt d n=true then some ((d,undef)::st) else none
   | false,none=>some st
   | _,_=>none
  | none=>none
def BR(fo:Nat→Nat→Option Nat)(ops:Array Oper)(n:Nat):List Nat→St→Option St
 | [],st=>some st
 | i::is,st=>match abv fo ops n st i with
  | some st'=>BR fo ops n is st'
  | none=>none
theorem ajd{ops:Array Oper}{n i:Nat}{fo:Nat→Nat→Option Nat}(h:abv fo ops n st i=some st'):∃ o,ops[i]? = some o ∧
  ((cM ops st o=some true∧∃ v d,Rq fo st o=some v∧o.dst=some d∧cj (some d) n∧st'=(d,v)::st) ∨
   (cM ops st o=some false∧ni o.op=false∧cj o.dst n∧st'=cx o.dst undef st)):=by
 unfold abv at h
 split at h
 ·cases h
 ·rename_i o ho
  refine ⟨o,ho,?_⟩
  split at h
  ·rename_i hw
   split at h
   ·rename_i v d hv hd
    split at h
    ·rename_i hl; cases h; exact .inl ⟨hw,v,d,hv,hd,hl,rfl⟩
    ·cases h
   ·cases h
  ·rename_i hw
   split at h
   ·rename_i d mB hd
    split at h
    ·rename_i hl; cases h; exact .inr ⟨hw,mB,by rw [hd]; exact hl,by rw [hd]; rfl⟩
    ·cases h
   ·rename_i mB hd
    cases h; exact .inr ⟨hw,mB,by rw [hd]; rfl,by rw [hd]; rfl⟩
   ·cases h
  ·cases h
theorem U.run{ops:Array Oper}(hk:(c.kind == CallKind.early)=false):∀ {is rest:List Nat} {st:St},BR (mY.off P) ops c.n is st=some st'→U ab c R H st' (.inRegion ops rest::k)→U ab c R H st (.inRegion ops (is++rest)::k)
 | [],rest,st,h,ha=>by cases h; exact ha
 | i::is,rest,st,h,ha=>by
  unfold BR at h
  split at h
  ·rename_i mK h1
   have ih:=U.run hk h ha
   obtain ⟨o,ho,⟨hw,v,d,hv,hd,hl,rfl⟩ | ⟨hw,mB,hl,rfl⟩⟩:=ajd h1
   ·exact U.iY ho hw hk (aiH hv (by rw [hd]; exact hl) (by rw [hd]; exact aI.refl _) ih)
   ·exact U.unwanted ho hw hl (aI.refl _) ih
  ·cases h
theorem U.vs(m:Nat){ops:Array Oper}{is sa:List Nat}(h:BR (mY.off P) ops c.n (is.take m) st=some st')(hr:is.drop m=sa)(ha:U ab c R H st' (.inRegion ops sa::k))(hk:(c.kind == CallKind.early)=false:=by rfl):U ab c R H st (.inRegion ops is::k):=by
 subst hr
 have:=U.run (rest:=is.drop m) hk h ha
 rwa [List.take_append_drop] at this
def aer(ops:Array Oper)(rem:List Nat)(i:Nat):Nat→List Nat→List Nat
 | 0,D=>D
 | n+1,D=>aer ops rem i n (rem.filter λ j=>j != i && (D.contains j || match ops[j]? with | some o=>o.after.any λ e=>Region.binds .any e && (e.on == i || D.contains e.on) | none=>false))
def Jh(ops:Array Oper)(rem:List Nat)(i:Nat):List Nat:=aer ops rem i rem.length []
def Og(ops:Array Oper):List Nat→List Nat→Bool
 | _,[]=>true
 | rem,i::is=>decide rem.Nodup && qA ops rem i (Jh ops rem i) && Og ops (rem.erase i) is
theorem Any.vs'{S:Nat→ah}{ops:Array Oper}{n:Nat}:∀ (is:List Nat) {rem:List Nat} {st:St},BR (mY.off P) ops c.n is st=some st'→Og ops rem is=true→Any ab c S ops k n (is.foldl List.erase rem) R H st'→Any ab c S ops k (n+is.length) rem R H st
 | [],rem,st,h,_,ha=>by cases h; exact ha
 | i::is,rem,st,h,hc,ha=>by
  unfold BR at h
  split at h
  ·rename_i mK h1
   simp only [Og,fy,decide_eq_true_eq] at hc
   obtain ⟨⟨di,jw⟩,hc⟩:=hc
   have ih:=Any.vs' is h hc ha
   obtain ⟨o,ho,⟨hw,v,d,hv,hd,hl,rfl⟩ | ⟨hw,mB,hl,rfl⟩⟩:=ajd h1
   ·exact Any.EN (N:=[]) _ ho hd hw jw (λ _ _ _ _ p hp=>by cases hp) (λ p hp=>by cases hp) (λ R' H' _ _=>aiH hv (by rw [hd]; exact hl) (.one hd) ⟨rfl,rfl,rfl⟩) (aI.refl _) di rfl ih
   ·exact Any.aJM _ ho jw mB hl hw (aI.refl _) di rfl ih
  ·cases h
theorem Any.vs{S:Nat→ah}{ops:Array Oper}{n:Nat}(m:Nat)(is:List Nat){rem:List Nat}{st:St}(h:BR (mY.off P) ops c.n is st=some st')(ha:Any ab c S ops k n (is.foldl List.erase rem) R H st')(hc:Og ops rem is=true:=by decide +kernel)(hm:is.length=m:=by rfl):Any ab c S ops k (n+m) rem R H st:=by
 subst hm
 exact Any.vs' is h hc ha
end
section
variable {P:Program} {B:Base} {main:Bool} {ab:Jd P B main} {c:Ctx} {R:az} {H:ah} {st st':St} {o:Oper} {C:az→ah→St→Prop} {k:List Item}
theorem U.rg(is:List Nat){id:Nat}{ops:Array Oper}(h:U ab c R H st (.inRegion ops is::k))(hn:ops.size=is.length:=by rfl)(mC:List.range is.length=is:=by rfl):U ab c R H st (.code (.region id ops false)::k):=U.aIv hn mC h
theorem U.dw(is:List Nat){id:Nat}{ops:Array Oper}(hm:P.follows .mixedOrders=true)(h:Any ab c (λ _=>H) ops k is.length is R H st)(hk:(c.kind == CallKind.early)=false:=by rfl)(hb:backward ops=true:=by decide +kernel)(hn:ops.size=is.length:=by rfl)(mC:List.range is.length=is:=by rfl):U ab c R H st (.code (.region id ops true)::k):=U.aoG hm hk hb hn mC h
theorem Any.tk(i:Nat){N:ah}{ops:Array Oper}{n d:Nat}{rem:List Nat}{v:Value}(ho:ops[i]? = some o)(hS:∀ p∈N,p∈H)(hf:∀ R' H',aO R R'→(∀ p∈N,p∈H')→aZ P B c o R' H' st λ R1 H1 mK=>R1=R'∧H1=H'∧mK=[(d,v)])
  (h:Any ab c (λ _=>N) ops k n (rem.erase i) R H ((d,v)::st)) (nU:o.dst=some d:=by rfl) (hw:cM ops st o=some true:=by rfl) (jw:qA ops rem i (Jh ops rem i)=true:=by decide +kernel) (di:rem.Nodup:=by decide):Any ab c (λ _=>N) ops k (n+1) rem R H st :=
 Any.EN _ ho nU hw jw (λ _ _ _ _ _ hp=>hp) hS hf (aI.refl _) di rfl h
theorem U.cv{ops:Array Oper}{i d:Nat}{rest:List Nat}{ca:Call}{x:Operand}{f:FuncId}{first captured:Array Value}{vs:List Value}{args:Array Value}{Post:Value→az→ah→Prop}(he:bn P f)(hf:bg ab f args R H Post)
  (h:∀ v R' H',Post v R' H'→U ab c R' H' ((d,v)::st) (.inRegion ops rest::k))
  (ho:ops[i]? = some o:=by rfl) (hw:cM ops st o=some true:=by rfl) (hk:(c.kind == CallKind.early)=false:=by rfl) (au:o.op = .call ca:=by rfl) (hc:ca.callee = .value x:=by rfl) (hx:bj st x=some (.func (.func f) first captured):=by rfl)
  (ha:ji st ca.args.toList=some vs:=by rfl) (JS:first++vs.toArray++captured=args:=by rfl) (hd:o.dst=some d:=by rfl) (hl:Nat.blt d c.n=true:=by rfl):U ab c R H st (.inRegion ops (i::rest)::k) :=
 U.step ho hw hk (Ox.gg au hc hx ha he JS (by rw [hd]; exact hl) (hf.mono λ v R' H' hp=>⟨_,.put hd,h v R' H' hp⟩))
theorem Any.cv(i:Nat){S:Nat→ah}{ops:Array Oper}{n d:Nat}{rem:List Nat}{ca:Call}{x:Operand}{f:FuncId}{first captured:Array Value}{vs:List Value}{args:Array Value}{Post:Value→az→ah→Prop}(he:bn P f)(hf:bg ab f args R H Post)
  (h:∀ v R' H',Post v R' H'→aO R R'∧(∀ p∈S i,p∈H→p∈H')∧Any ab c S ops k n (rem.erase i) R' H' ((d,v)::st))
  (ho:ops[i]? = some o:=by rfl) (hw:cM ops st o=some true:=by rfl) (au:o.op = .call ca:=by rfl) (hc:ca.callee = .value x:=by rfl) (hx:bj st x=some (.func (.func f) first captured):=by rfl)
  (ha:ji st ca.args.toList=some vs:=by rfl) (JS:first++vs.toArray++captured=args:=by rfl) (hd:o.dst=some d:=by rfl) (hl:Nat.blt d c.n=true:=by rfl) (ln:rem.filter (nz ops rem)=[i]:=by decide +kernel) (di:rem.Nodup:=by decide):Any ab c S ops k (n+1) rem R H st :=
 Any.one ho ln hw di rfl (Ox.gg au hc hx ha he JS (by rw [hd]; exact hl) (hf.mono λ v R' H' hp=>⟨_,.put hd,h v R' H' hp⟩))
theorem Any.on(i:Nat){S:Nat→ah}{ops:Array Oper}{n:Nat}{rem:List Nat}(ho:ops[i]? = some o)(hw:cM ops st o=some true)
  (h:pO ab c o R H st λ R' H' st'=>aO R R'∧(∀ p∈S i,p∈H→p∈H')∧Any ab c S ops k n (rem.erase i) R' H' st') (ln:rem.filter (nz ops rem)=[i]:=by decide +kernel) (di:rem.Nodup:=by decide):Any ab c S ops k (n+1) rem R H st:=Any.one ho ln hw di rfl h
theorem U.ld{ops:Array Oper}{i d:Nat}{rest:List Nat}{x:Operand}{t:TypeId}{b off:Nat}{v:Value}(ht:gP P t)(hc:Cell R H ⟨b,off,none⟩ v)(h:U ab c R H ((d,v)::st) (.inRegion ops rest::k))
  (ho:ops[i]? = some o:=by rfl) (hw:cM ops st o=some true:=by rfl) (hk:(c.kind == CallKind.early)=false:=by rfl) (au:o.op = .load t x:=by rfl) (hx:bj st x=some (.pointer (some ⟨b,off,none⟩)):=by rfl) (hd:o.dst=some d:=by rfl) (hl:Nat.blt d c.n=true:=by rfl):U ab c R H st (.inRegion ops (i::rest)::k) :=
 U.iY ho hw hk (Ox.sf au hx ht hc (by rw [hd]; exact hl) (.put hd) h)
theorem U.kn(t:Nat){x b:Bool}{todo:List Item}(hb:x=b)(h:U ab c R H ((t,.bool b)::st) todo)(hx:st.lookup t=some (.bool x):=by rfl):U ab c R H st todo:=U.known hx hb h
theorem U.s{ops:Array Oper}{i:Nat}{rest:List Nat}(ho:ops[i]? = some o)(hw:cM ops st o=some true)(h:aZ P B c o R H st λ R' H' st'=>U ab c R' H' st' (.inRegion ops rest::k))(hk:(c.kind == CallKind.early)=false:=by rfl):U ab c R H st (.inRegion ops (i::rest)::k):=U.iY ho hw hk h
end
abbrev aN:List Nat:=[0]
abbrev aP:List Nat:=[0,1]
abbrev bc:List Nat:=[0,1,2]
abbrev b8:List Nat:=[0,1,2,3]
abbrev cC:List Nat:=[0,1,2,3,4]
abbrev ic:List Nat:=[0,1,2,3,4,5]
abbrev dH:List Nat:=[0,1,2,3,4,5,6]
abbrev ie:List Nat:=[0,1,2,3,4,5,6,7]
abbrev mc:List Nat:=[0,1,2,3,4,5,6,7,8]
abbrev oF:List Nat:=[0,1,2,3,4,5,6,7,8,9]
abbrev BO:List Nat:=[0,1,2,3,4,5,6,7,8,9,10]
abbrev BP:List Nat:=[0,1,2,3,4,5,6,7,8,9,10,11]
abbrev HC:List Nat:=[0,1,2,3,4,5,6,7,8,9,10,11,12]
abbrev Rs:List Nat:=[0,1,2,3,4,5,6,7,8,9,10,11,12,13]
abbrev MK:List Nat:=[0,1,2,3,4,5,6,7,8,9,10,11,12,13,14]
abbrev ML:List Nat:=[0,1,2,3,4,5,6,7,8,9,10,11,12,13,14,15]
abbrev aiM:List Nat:=[0,1,2,3,4,5,6,7,8,9,10,11,12,13,14,15,16]
abbrev abd:List Nat:=[0,1,2,3,4,5,6,7,8,9,10,11,12,13,14,15,16,17]
abbrev aiN:List Nat:=[0,1,2,3,4,5,6,7,8,9,10,11,12,13,14,15,16,17,18]
abbrev aIB:List Nat:=[0,1,2,3,4,5,6,7,8,9,10,11,12,13,14,15,16,17,18,19,20,21,22,23]
abbrev aiO:List Nat:=[0,1,2,3,4,5,6,7,8,9,10,11,12,13,14,15,16,17,18,19,20,21,22,23,24]
abbrev aIC:List Nat:=[0,1,2,3,4,5,6,7,8,9,10,11,12,13,14,15,16,17,18,19,20,21,22,23,24,25]
abbrev abe:List Nat:=[0,1,2,3,4,5,6,7,8,9,10,11,12,13,14,15,16,17,18,19,20,21,22,23,24,25,26]
abbrev aID:List Nat:=[0,1,2,3,4,5,6,7,8,9,10,11,12,13,14,15,16,17,18,19,20,21,22,23,24,25,26,27]
abbrev aIE:List Nat:=[0,1,2,3,4,5,6,7,8,9,10,11,12,13,14,15,16,17,18,19,20,21,22,23,24,25,26,27,28]
abbrev aIF:List Nat:=[0,1,2,3,4,5,6,7,8,9,10,11,12,13,14,15,16,17,18,19,20,21,22,23,24,25,26,27,28,29,30,31]
abbrev aIG:List Nat:=[0,1,2,3,4,5,6,7,8,9,10,11,12,13,14,15,16,17,18,19,20,21,22,23,24,25,26,27,28,29,30,31,32,33,34,35,36,37]
abbrev aIH:List Nat:=[0,1,2,3,4,5,6,7,8,9,10,11,12,13,14,15,16,17,18,19,20,21,22,23,24,25,26,27,28,29,30,31,32,33,34,35,36,37,38,39,40,41]
abbrev aII:List Nat:=[0,1,2,3,4,5,6,7,8,9,10,11,12,13,14,15,16,17,18,19,20,21,22,23,24,25,26,27,28,29,30,31,32,33,34,35,36,37,38,39,40,41,42]
abbrev aIJ:List Nat:=[0,1,2,3,4,5,6,7,8,9,10,11,12,13,14,15,16,17,18,19,20,21,22,23,24,25,26,27,28,29,30,31,32,33,34,35,36,37,38,39,40,41,42,43,44]
abbrev aIK:List Nat:=[0,1,2,3,4,5,6,7,8,9,10,11,12,13,14,15,16,17,18,19,20,21,22,23,24,25,26,27,28,29,30,31,32,33,34,35,36,37,38,39,40,41,42,43,44,45,46,47,48,49,50,51]
section
variable {α:Type} {a N6 T7 adY aog aSf aSg aSh aSi x:α} {l l₁ vA:List α}
theorem so(h:List.Sublist l₁ vA):List.Sublist l₁ (a::vA):=h.cons a
theorem sk(h:List.Sublist l₁ vA):List.Sublist (a::l₁) (a::vA):=List.Sublist.cons_cons a h
theorem sr:List.Sublist l l:=.refl _
theorem sn:List.Sublist [] l:=List.nil_sublist _
theorem su(h:List.Sublist l₁ vA):∀ p∈l₁,p∈vA:=λ _ hp=>h.subset hp
theorem pp:∀ p∈l,p∈l:=λ _ h=>h
theorem z0:x∈x::l:=.head _
theorem z1:x∈a::x::l:=.tail _ z0
theorem z2:x∈a::N6::x::l:=.tail _ z1
theorem z3:x∈a::N6::T7::x::l:=.tail _ z2
theorem z4:x∈a::N6::T7::adY::x::l:=.tail _ z3
theorem z5:x∈a::N6::T7::adY::aog::x::l:=.tail _ z4
end
section
variable {P:Program} {B:Base} {main:Bool} {ab:Jd P B main} {c:Ctx} {R:az} {H:ah} {st st':St} {o:Oper} {k:List Item}
theorem sq{x y:Code}(h:U ab c R H st (.code x :: .code y::k)):U ab c R H st (.code (.seq x y)::k):=U.seq h
theorem er{ops:Array Oper}(h:U ab c R H st k):U ab c R H st (.inRegion ops []::k):=U.aT h
theorem es{ops:Array Oper}{x y:Code}(h:U ab c R H st (.code x :: .code y::k)):U ab c R H st (.inRegion ops [] :: .code (.seq x y)::k):=U.aT (U.seq h)
theorem sg(is:List Nat){id:Nat}{ops:Array Oper}{y:Code}(h:U ab c R H st (.inRegion ops is :: .code y::k))(hn:ops.size=is.length:=by rfl)(mC:List.range is.length=is:=by rfl):U ab c R H st (.code (.seq (.region id ops false) y)::k):=U.seq (U.rg is h hn mC)
theorem nx(is:List Nat){id:Nat}{os ops:Array Oper}{y:Code}(h:U ab c R H st (.inRegion ops is :: .code y::k))(hn:ops.size=is.length:=by rfl)(mC:List.range is.length=is:=by rfl):U ab c R H st (.inRegion os [] :: .code (.seq (.region id ops false) y)::k):=U.aT (sg is h hn mC)
theorem sp(h:U ab c R H st k):U ab c R H st (.code .skip::k):=U.skip h
theorem vs[mY P](m:Nat){ops:Array Oper}{is sa:List Nat}(ha:U ab c R H st' (.inRegion ops sa::k))(h:BR (mY.off P) ops c.n (is.take m) st=some st':=by rfl)(hr:is.drop m=sa:=by rfl)(hk:(c.kind == CallKind.early)=false:=by rfl):U ab c R H st (.inRegion ops is::k):=U.vs m h hr ha hk
theorem ld(j:Nat){ops:Array Oper}{i d:Nat}{rest:List Nat}{x:Operand}{t e:TypeId}{b:Nat}{fz:Nat × Nat}{L:List Value}{v:Value}(ht:gP P t)(hm:(b,Obj.cells L.toArray e fz)∈H)(h:U ab c R H ((d,v)::st) (.inRegion ops rest::k))(hj:L[j]? = some v:=by rfl)
  (ho:ops[i]? = some o:=by rfl) (hw:cM ops st o=some true:=by rfl) (hk:(c.kind == CallKind.early)=false:=by rfl) (au:o.op = .load t x:=by rfl) (hx:bj st x=some (.pointer (some ⟨b,0+j,none⟩)):=by rfl) (hd:o.dst=some d:=by rfl) (hl:Nat.blt d c.n=true:=by rfl):U ab c R H st (.inRegion ops (i::rest)::k) :=
 U.ld ht ((aS.box hm).one hj) h ho hw hk au hx hd hl
theorem lN(vs:List Value)(j n:Nat){ops:Array Oper}{i d:Nat}{rest:List Nat}{x:Operand}{t e:TypeId}{b:Nat}{fz:Nat × Nat}{L:List Value}{m:Nat}(ht:mX P t m)(hm:(b,Obj.cells L.toArray e fz)∈H)(h:U ab c R H ((d,.agg vs.toArray)::st) (.inRegion ops rest::k))(hv:(L.drop j).take n=vs:=by rfl)
  (ho:ops[i]? = some o:=by rfl) (hw:cM ops st o=some true:=by rfl) (hk:(c.kind == CallKind.early)=false:=by rfl) (au:o.op = .load t x:=by rfl) (hx:bj st x=some (.pointer (some ⟨b,0+j,none⟩)):=by rfl) (hn:vs.length=m:=by rfl) (hd:o.dst=some d:=by rfl) (hl:Nat.blt d c.n=true:=by rfl):U ab c R H st (.inRegion ops (i::rest)::k) :=
 U.s ho hw (Ox.cu au hx ht hn ((aS.box hm).part hv) (by rw [hd]; exact hl) (.put hd) h) hk
theorem bx{ops:Array Oper}{i d:Nat}{rest:List Nat}{x:Operand}{t:TypeId}{vs:Array Value}(h:∀ b,U ab c R ((b,.cells vs t)::H) ((d,.pointer (some ⟨b,0,none⟩))::st) (.inRegion ops rest::k))
  (ho:ops[i]? = some o:=by rfl) (hw:cM ops st o=some true:=by rfl) (hk:(c.kind == CallKind.early)=false:=by rfl) (au:o.op = .box t x:=by rfl) (hx:bj st x=some (.agg vs):=by rfl) (hd:o.dst=some d:=by rfl) (hl:Nat.blt d c.n=true:=by rfl):U ab c R H st (.inRegion ops (i::rest)::k) :=
 U.s ho hw (Ox.adN au hx (by rw [hd]; exact hl) λ b _ _=>⟨_,.put hd,h b⟩) hk
theorem sc{α:Type}{t:Bool}{a b:Option α}{r:α}{x:Operand}{th el:Code}(hM:af t a b=some r)(h1:t=true→a=some r→U ab c R H st (.code th::k))(h2:t=false→b=some r→U ab c R H st (.code el::k))(hx:bj st x=some (.bool t):=by rfl):U ab c R H st (.code (.cond x th el)::k) :=
 bQ hM (λ h hM=>U.fI hx h (h1 h hM)) (λ h hM=>U.eF hx h (h2 h hM))
theorem ls{α:Type}{K:cG α}{n:Nat}{ops:Array Oper}{i d:Nat}{rest:List Nat}{x:Operand}{t e:TypeId}{v:Value}{xs:List α}(hl:aa K n R v xs)(ht:P.underlying t=some (.slice e))(h:U ab c R H ((d,.int .i64 (xs.length:Int))::st) (.inRegion ops rest::k))
  (ho:ops[i]? = some o:=by rfl) (hw:cM ops st o=some true:=by rfl) (hk:(c.kind == CallKind.early)=false:=by rfl) (au:o.op = .call ⟨.builtin .len,#[x],#[t]⟩:=by rfl) (hx:bj st x=some v:=by rfl) (hd:o.dst=some d:=by rfl) (hn:Nat.blt d c.n=true:=by rfl):U ab c R H st (.inRegion ops (i::rest)::k) :=
 U.s ho hw (Ox.re au hx hl ht (by rw [hd]; exact hn) (.put hd) h) hk
theorem lr{α:Type}{K:cG α}{n:Nat}{ops:Array Oper}{i d:Nat}{rest:List Nat}{x:Operand}{t e:TypeId}{v:Value}{xs:List α}{H0:ah}(hl:cV K n R H0 v xs)(ht:P.underlying t=some (.slice e))(h:U ab c R H ((d,.int .i64 (xs.length:Int))::st) (.inRegion ops rest::k))
  (ho:ops[i]? = some o:=by rfl) (hw:cM ops st o=some true:=by rfl) (hk:(c.kind == CallKind.early)=false:=by rfl) (au:o.op = .call ⟨.builtin .len,#[x],#[t]⟩:=by rfl) (hx:bj st x=some v:=by rfl) (hd:o.dst=some d:=by rfl) (hn:Nat.blt d c.n=true:=by rfl):U ab c R H st (.inRegion ops (i::rest)::k) :=
 U.s ho hw (Ox.aad au hx hl ht (by rw [hd]; exact hn) (.put hd) h) hk
theorem rt{fr:Frame}{cs:List Frame}{f:FuncId}{n:Nat}{fn:Func}{vs:List Value}{H':ah}(hf:P.funcs[f]? = some fn)(hr:pP P R H st fn.results.toList vs)(hs:List.Sublist H' H)(hj:ab.J R H' (aV (fr.finish (iM vs)) cs)):U ab ⟨f,.normal,none,n,[],fr::cs⟩ R H st (.code .ret::k) :=
 U.EH hf hr (J.drop hs hj)
theorem ts(i:Nat){ops:Array Oper}{n d:Nat}{rem:List Nat}{S:Nat→ah}{v:Value}{N:ah}(D:List Nat)(ho:ops[i]? = some o)(yJ:∀ j∈rem,j≠i→j ∉ D→∀ p∈N,p∈S j)(hS:∀ p∈N,p∈H)
  (hf:∀ R' H',aO R R'→(∀ p∈N,p∈H')→aZ P B c o R' H' st λ R1 H1 mK=>R1=R'∧H1=H'∧mK=[(d,v)]) (h:Any ab c S ops k n (rem.erase i) R H ((d,v)::st))
  (nU:o.dst=some d:=by rfl) (hw:cM ops st o=some true:=by rfl) (jw:qA ops rem i D=true:=by decide +kernel) (di:rem.Nodup:=by decide):Any ab c S ops k (n+1) rem R H st :=
 Any.EN D ho nU hw jw yJ hS hf (aI.refl _) di rfl h
theorem tl(i j:Nat){ops:Array Oper}{n d:Nat}{rem:List Nat}{x:Operand}{t e:TypeId}{b:Nat}{fz:Nat × Nat}{L:List Value}{v:Value}(ht:gP P t)(hm:(b,Obj.cells L.toArray e fz)∈H)(h:Any ab c (λ _=>H) ops k n (rem.erase i) R H ((d,v)::st))(hj:L[j]? = some v:=by rfl)
  (ho:ops[i]? = some o:=by rfl) (au:o.op = .load t x:=by rfl) (hx:bj st x=some (.pointer (some ⟨b,0+j,none⟩)):=by rfl) (nU:o.dst=some d:=by rfl) (hl:Nat.blt d c.n=true:=by rfl) (hw:cM ops st o=some true:=by rfl) (jw:qA ops rem i (Jh ops rem i)=true:=by decide +kernel) (di:rem.Nodup:=by decide):Any ab c (λ _=>H) ops k (n+1) rem R H st :=
 Any.tk i ho pp (λ _ _ _ hS=>Ox.sf au hx ht ((aS.box (hS _ hm)).one hj) (by rw [nU]; exact hl) (.one nU) ⟨rfl,rfl,rfl⟩) h nU hw jw di
theorem tN(i:Nat)(vs:List Value)(j m:Nat){ops:Array Oper}{n d:Nat}{rem:List Nat}{x:Operand}{t e:TypeId}{b:Nat}{fz:Nat × Nat}{L:List Value}{q:Nat}(ht:mX P t q)(hm:(b,Obj.cells L.toArray e fz)∈H)(h:Any ab c (λ _=>H) ops k n (rem.erase i) R H ((d,.agg vs.toArray)::st))(hv:(L.drop j).take m=vs:=by rfl)
  (ho:ops[i]? = some o:=by rfl) (au:o.op = .load t x:=by rfl) (hx:bj st x=some (.pointer (some ⟨b,0+j,none⟩)):=by rfl) (hq:vs.length=q:=by rfl) (nU:o.dst=some d:=by rfl) (hl:Nat.blt d c.n=true:=by rfl) (hw:cM ops st o=some true:=by rfl) (jw:qA ops rem i (Jh ops rem i)=true:=by decide +kernel) (di:rem.Nodup:=by decide):Any ab c (λ _=>H) ops k (n+1) rem R H st :=
 Any.tk i ho pp (λ _ _ _ hS=>Ox.cu au hx ht hq ((aS.box (hS _ hm)).part hv) (by rw [nU]; exact hl) (.one nU) ⟨rfl,rfl,rfl⟩) h nU hw jw di
theorem tw(i j:Nat){S:Nat→ah}{ops:Array Oper}{n:Nat}{rem:List Nat}{a b:Oper}(h1:pO ab c a R H st λ R' H' st'=>aO R R'∧(∀ p∈S i,p∈H→p∈H')∧Any ab c S ops k n (rem.erase i) R' H' st')
  (h2:pO ab c b R H st λ R' H' st'=>aO R R'∧(∀ p∈S j,p∈H→p∈H')∧Any ab c S ops k n (rem.erase j) R' H' st') (ha:ops[i]? = some a:=by rfl) (hb:ops[j]? = some b:=by rfl) (ln:rem.filter (nz ops rem)=[i,j]:=by decide +kernel) (KP:cM ops st a=some true:=by rfl) (KQ:cM ops st b=some true:=by rfl) (di:rem.Nodup:=by decide):Any ab c S ops k (n+1) rem R H st :=
 Any.aJX ha hb ln KP KQ di rfl rfl h1 h2
theorem ka{H X:ah}:∀ p∈H,p∈X→p∈H:=λ _ h _=>h
theorem kp{R:az}{H X:ah}{C:Prop}(h:C):aO R R∧(∀ p∈H,p∈X→p∈H)∧C:=⟨aO.refl _,ka,h⟩
theorem ku{H H' X:ah}(h:List.Sublist H H'):∀ p∈H,p∈X→p∈H':=λ _ hp _=>h.subset hp
theorem rr{R:az}:aO R R:=aO.refl _
end
abbrev CZ:cG Int:=CI .i64
def um(v:Value)(lo k:Nat):Value:=match v with | .slice A n cap=>.slice (if cap=lo then A else A.map (·.add (lo * k))) (n - lo) (cap - lo) | v=>v
def AM(xs:List Int)(lo:Nat):List Int:=xs.take lo++List.replicate (xs.length - lo) 0
theorem aow{α:Type}{xs ys:List α}{lo hi:Int}(h:kF xs lo hi=some ys):lo.toNat≤xs.length:=by
 obtain ⟨h1,h2,h3,_⟩:=Jf h
 omega
section
variable {P:Program} {B:Base} {main:Bool} {ab:Jd P B main} {c:Ctx} {R:az} {H H':ah} {st st':St} {o:Oper} {C:az→ah→St→Prop}
theorem bz.view{α:Type}{K:cG α}{k e:Nat}{v:Value}{xs:List α}{Hs:ah}{lo:Nat}(h:bz K k e R v xs Hs)(hs:∀ p∈Hs,p∈H):cV K k R H (um v lo k) (xs.drop lo):=by
 obtain ⟨A,cap,es,rfl,hE,yK,hm⟩:=h.rd hs
 refine ⟨if cap=lo then A else A.map (·.add (lo * k)),cap - lo,es.drop (lo * k),by simp [um],hE.drop,by simp; omega,λ eP=>?_⟩
 have bK:lo < xs.length:=by
  apply Classical.byContradiction
  intro hn
  exact eP (List.drop_eq_nil_of_le (by omega))
 obtain ⟨b,o',rfl,g2⟩:=hm (by rintro rfl; simp at bK)
 refine ⟨b,o'+lo * k,?_,λ j w hj=>?_⟩
 ·rw [if_neg (by omega)]; simp [s7]
 ·rw [List.getElem?_drop] at hj
  have:=g2 _ _ hj
  simpa [Nat.add_assoc] using this
theorem bz.ajI{α:Type}{K:cG α}{k t e e':Nat}{v:Value}{xs ys:List α}{Hs:ah}{lo:Int}(h:bz K k e R v xs Hs)(ht:mZ P t e' k)(hc:kF xs lo (xs.length:Int)=some ys):Fl P t k v (xs.length:Int) lo (xs.length:Int) (um v lo.toNat k):=by
 obtain ⟨h1,h2,h3,_⟩:=Jf hc
 obtain ⟨A,cap,es,rfl,hE,yK,hm⟩:=h.rd (H:=Hs) (λ _ h=>h)
 intro ρ st x lo' hi bl hx hl hh
 rw [n9] at hh
 rw [hx]
 unfold Instr.sliceAt
 refine ai.bH (ai.underlying ht.1) ?_
 unfold Instr.slice
 refine ai.bH (ai.underlying ht.1) (ai.bH (Sj bl hl hh ⟨h1,h2,h3⟩ yK) (ai.bH ht.2 ?_))
 simp only [um,n9]
 exact ai.bD _
theorem bz.front{α:Type}{K:cG α}{k t e e':Nat}{v:Value}{xs ys:List α}{Hs:ah}{hi:Int}(h:bz K k e R v xs Hs)(ht:mZ P t e' k)(hc:kF xs 0 hi=some ys):∃ v',bz K k e R v' ys Hs∧Fl P t k v (xs.length:Int) 0 hi v':=by
 obtain ⟨h1,h2,h3,rfl⟩:=Jf hc
 have key:∀ A cap,v = .slice A xs.length cap→xs.length≤cap→Fl P t k v (xs.length:Int) 0 hi (.slice (if cap=0 then A else A.map (·.add (0 * k))) (hi.toNat - 0) (cap - 0)):=by
  rintro A cap rfl yK ρ st x lo' qb bl hx hl hh
  rw [n9] at hh
  rw [hx]
  unfold Instr.sliceAt
  refine ai.bH (ai.underlying ht.1) ?_
  unfold Instr.slice
  exact ai.bH (ai.underlying ht.1) (ai.bH (Sj bl hl hh ⟨h1,h2,h3⟩ yK) (ai.bH ht.2 (ai.bD _)))
 rcases h with ⟨A,rfl,rfl,rfl⟩ | ⟨b,cap,cs,es,rfl,rfl,g3,g4,g5,g6⟩
 ·have:=key A 0 rfl (eR _)
  have h0:hi.toNat=0:=by simp at h3; omega
  rw [h0] at this
  exact ⟨_,.inl ⟨A,rfl,by simp,rfl⟩,by simpa using this⟩
 ·refine ⟨_,?_,key _ cap rfl g4⟩
  have Bi:((xs.take hi.toNat).drop (0:Int).toNat).length=hi.toNat:=by simp; omega
  refine .inr ⟨b,cap,cs,es.take (hi.toNat * k),?_,rfl,g3,by rw [Bi]; omega,by simpa using g5.take,λ j w hj=>?_⟩
  ·rw [Bi]
   congr 1
   split <;> simp [s7]
  ·rw [List.getElem?_take] at hj
   split at hj
   ·exact g6 _ _ hj
   ·cases hj
theorem Ox.aD8{α:Type}{K:cG α}{k e' lo:Nat}{x:Operand}{t e:TypeId}{v:Value}{xs:List α}{Hs:ah}(au:o.op = .call ⟨.builtin .len,#[x],#[t]⟩)(hx:bj st x=some (um v lo k))(hl:bz K k e' R v xs Hs)(ht:P.underlying t=some (.slice e))
  (hd:cj o.dst c.n) (hs:aI (cx o.dst (.int .i64 ((xs.drop lo).length:Int)) st) st') (h:C R H st'):aZ P B c o R H st C :=
 Ox.aad au hx (hl.view (H:=Hs) (λ _ h=>h)) ht hd hs h
theorem Ox.aol{t e lo:Nat}(G:ah→ah){x:Operand}{v:Value}{xs:List Int}{Hs:ah}(au:o.op = .call ⟨.builtin .clear,#[x],#[t]⟩)(hx:bj st x=some (um v lo 1))(ht:mZ P t e 1)(hz:jF P e #[.int .i64 0])(hG:lE G)
  (hO:bz (CI .i64) 1 e R v xs Hs) (hlo:lo≤xs.length) (hd:cj o.dst c.n) (hC:∀ dV,bz (CI .i64) 1 e R v (AM xs lo) dV→∃ st',aI (cx o.dst (.tuple #[]) st) st'∧C R (G dV) st'):aZ P B c o R (G Hs) st C:=by
 refine ⟨by rw [au]; rfl,hd,λ ρ bl=>?_⟩
 simp only [execOp,au]
 refine ai.fe (a:=⟨.builtin .clear #[t] o.type (#[x].map λ | .const _=>true | _=>false),#[x].map ρ⟩) (ai.bD _) ?_
 simp only [invoke,builtin]
 have e1:(#[x].map ρ)=#[um v lo 1]:=by simp [bl x _ hx]
 rw [e1]
 have fin:∀ dV,bz (CI .i64) 1 e R v (AM xs lo) dV→aQ P B R (G dV) (pure (Value.tuple #[])) λ a R' H'=>aQ P B R' H' (pure (Next.value a)) λ nx R' H'=>∃ v,(nx = .value v∨(nx = .skip∧v=undef))∧∃ st',aI (cx o.dst v st) st'∧C R' H' st':=λ dV h=>by
  obtain ⟨st',hs,hC'⟩:=hC dV h
  exact aQ.dT (aQ.dT ⟨_,.inl rfl,st',hs,hC'⟩)
 refine aQ.du ?_
 unfold Builtin.clear_
 refine ai.fe (ai.underlying ht.1) ?_
 by_cases hn:xs.length - lo=0
 ·have hv:∃ A cap,um v lo 1 = .slice A 0 cap:=by
   obtain ⟨A,cap,es,rfl,_⟩:=hO.rd (H:=Hs) (λ _ h=>h)
   exact ⟨_,_,by simp only [um,hn]; rfl⟩
  obtain ⟨A,cap,hv⟩:=hv
  rw [hv]
  have JY:AM xs lo=xs:=by
   unfold AM
   rw [hn,List.replicate_zero,List.append_nil,List.take_of_length_le (by omega)]
  rw [JY] at fin
  cases A with
  | none=>exact aQ.du (aQ.dT (fin Hs hO))
  | some a=>exact aQ.du (aQ.dT (fin Hs hO))
 ·rcases hO with ⟨A,rfl,rfl,rfl⟩ | ⟨b,cap,cs,es,rfl,rfl,g3,g4,g5,g6⟩
  ·simp at hn
  ·have hv:um (.slice (some ⟨b,0,none⟩) xs.length cap) lo 1 = .slice (some ⟨b,lo,none⟩) (xs.length - lo) (cap - lo):=by
    simp only [um]
    rw [if_neg (by omega)]
    simp [s7]
   rw [hv]
   obtain ⟨m,hm⟩:∃ m,xs.length - lo=m+1:=⟨xs.length - lo - 1,by omega⟩
   rw [hm]
   dsimp only
   obtain ⟨z0,hz0,hzc⟩:=hz
   refine ai.fe hz0 (aQ.du ?_)
   have Xo:(Builtin.zeroCells z0.cells (m+1)).toList=List.replicate (m+1) (Value.int .i64 0):=by
    rw [hzc]
    apply List.ext_getElem?
    intro j
    simp only [Builtin.zeroCells]
    by_cases hj:j < m+1
    ·simp [hj,Nat.mod_one]
    ·simp [hj]
   rw [Xo]
   have fX:lo+(m+1)≤cs.size:=by omega
   refine aQ.given λ di=>aQ.RF _ cs lo 0 (G [(b,.cells cs e (0,0))]) (G [(b,.cells (gl cs lo (List.replicate (m+1) (Value.int .i64 0))) e (0,0))]) (λ u hu=>by rw [List.eq_of_mem_replicate hu]; rfl) (by simp; omega) (by simpa using lE.set hG) di ?_
   have afW:(AM xs lo).length=xs.length:=by simp [AM]; omega
   refine fin _ (.inr ⟨b,cap,gl cs lo (List.replicate (m+1) (Value.int .i64 0)),es.take lo++List.replicate (m+1) (Value.int .i64 0),by rw [afW],rfl,by rw [MF]; exact g3,by rw [afW]; exact g4,?_,λ j w hj=>?_⟩)
   ·have h1:=g5.take (n:=lo)
    rw [Nat.mul_one] at h1
    unfold AM
    rw [hm]
    refine h1.append ?_
    refine ⟨by simp,λ i x hx=>?_⟩
    rw [List.getElem?_replicate] at hx
    split at hx
    ·rename_i hi
     cases hx
     refine ⟨[.int .i64 0],rfl,rfl,λ j w hj=>?_⟩
     have hj1:=(iC.1 hj).1
     have hj0:j=0:=by simp at hj1; omega
     subst hj0
     rw [Nat.mul_one,List.getElem?_replicate,if_pos (by omega)]
     exact hj
    ·cases hx
   ·have l6:=g5.len
    rw [Nat.mul_one] at l6
    rw [EG _ _ _ _ (by simp; omega)]
    rcases Nat.lt_or_ge j lo with yP | yP
    ·rw [uF (by simp; omega),List.getElem?_take,if_pos yP] at hj
     rw [if_neg (by omega)]
     exact g6 _ _ hj
    ·rw [pI (by simp; omega)] at hj
     have qc:(es.take lo).length=lo:=by simp; omega
     rw [qc] at hj
     have bK:=(iC.1 hj).1
     rw [if_pos ⟨yP,by simp at bK ⊢; omega⟩]
     exact hj
end
def ae{α:Type}(a b:Option α):Prop:=∀ r,a=some r→b=some r
theorem ae.bR{α:Type}(a:Option α):ae a a:=λ _ h=>h
theorem ae.none{α:Type}{b:Option α}:ae none b:=λ _ h=>by cases h
theorem ae.bZ{α β:Type}{a a':Option α}{f f':α→Option β}(h:ae a a')(hf:∀ x,ae (f x) (f' x)):ae (a.bind f) (a'.bind f'):=by
 intro r hr
 obtain ⟨x,hx,hr⟩:=ag hr
 rw [h x hx]
 exact hf x r hr
theorem ae.af{α:Type}{t:Bool}{a a' b b':Option α}(h:ae a a')(h':ae b b'):ae (af t a b) (af t a' b'):=by
 cases t
 ·exact h'
 ·exact h
def qg{S O:Type}(body:S→Option (S ⊕ O))(s:S):Option O:=nk body 200 s
theorem ae.nk{S O:Type}{body I5:S→Option (S ⊕ O)}(h:∀ s,ae (body s) (I5 s)):∀ (n:Nat) (s:S),ae (Go.Lg.nk body n s) (bE I5 s)
 | 0,_=>λ _ hr=>by cases hr
 | n+1,s=>λ r hr=>by
  simp only [Go.Lg.nk] at hr
  cases hb:body s with
  | none=>rw [hb] at hr; cases hr
  | some x =>
   rw [hb] at hr
   have gE:=h s x hb
   cases x with
   | inl s'=>rw [DW gE]; exact ae.nk h n s' r hr
   | inr o=>cases hr; exact vx gE
theorem ae.gK{S O:Type}{body I5:S→Option (S ⊕ O)}{s:S}(h:∀ s,ae (body s) (I5 s)):ae (qg body s) (bE I5 s):=ae.nk h 200 s
theorem ae.kE{α β γ:Type}{f f':α→Option γ}{g g':β→Option γ}(h:∀ x,ae (f x) (f' x))(h':∀ x,ae (g x) (g' x))(x:α ⊕ β):ae (Sum.elim f g x) (Sum.elim f' g' x):=by
 cases x
 ·exact h _
 ·exact h' _
theorem ae.gm{α S O:Type}{f f':α→S→Option (S ⊕ O)}(h:∀ x s,ae (f x s) (f' x s))(x:α)(s:S ⊕ O):ae (Go.Lg.gm f x s) (Go.Lg.gm f' x s):=by
 intro r hr
 cases s with
 | inr s=>cases hr
 | inl s =>
  simp only [Go.Lg.gm] at hr ⊢
  cases hf:f x s with
  | none=>rw [hf] at hr; cases hr
  | some z=>rw [hf] at hr; rw [h x s z hf]; exact hr
theorem ae.mapM{α β:Type}{f f':α→Option β}(h:∀ x,ae (f x) (f' x)):∀ l:List α,ae (l.mapM f) (l.mapM f')
 | []=>ae.bR _
 | a::l=>by
  intro r hr
  rw [List.mapM_cons] at hr ⊢
  cases ha:f a with
  | none=>rw [ha] at hr; simp at hr
  | some b =>
   cases hl:l.mapM f with
   | none=>rw [ha,hl] at hr; simp at hr
   | some bs =>
    rw [ha,hl] at hr
    rw [h a b ha,ae.mapM h l bs hl]
    exact hr
abbrev ax:Value:=.slice none 0 0
theorem b9{α β:Sort _}{a:α}{b:β}:a=a∧b=b:=⟨rfl,rfl⟩
theorem ba{α β γ:Sort _}{a:α}{b:β}{d:γ}:a=a∧b=b∧d=d:=⟨rfl,rfl,rfl⟩
theorem av{st st':St}(h:cc st st'):aI st st':=cc.sub h
theorem nq{a0:Option Value}:a0=a0∧True:=⟨rfl,trivial⟩
theorem dP{a0 a1:Option Value}:a0=a0∧a1=a1∧True:=⟨rfl,rfl,trivial⟩
theorem eY{a0 a1 a2:Option Value}:a0=a0∧a1=a1∧a2=a2∧True:=⟨rfl,rfl,rfl,trivial⟩
theorem cK{a0 a1 a2 a3:Option Value}:a0=a0∧a1=a1∧a2=a2∧a3=a3∧True:=⟨rfl,rfl,rfl,rfl,trivial⟩
theorem eu{a0 a1 a2 a3 a4:Option Value}:a0=a0∧a1=a1∧a2=a2∧a3=a3∧a4=a4∧True:=⟨rfl,rfl,rfl,rfl,rfl,trivial⟩
theorem gx{a0 a1 a2 a3 a4 a5:Option Value}:a0=a0∧a1=a1∧a2=a2∧a3=a3∧a4=a4∧a5=a5∧True:=⟨rfl,rfl,rfl,rfl,rfl,rfl,trivial⟩
theorem kr{a0 a1 a2 a3 a4 a5 a6:Option Value}:a0=a0∧a1=a1∧a2=a2∧a3=a3∧a4=a4∧a5=a5∧a6=a6∧True:=⟨rfl,rfl,rfl,rfl,rfl,rfl,rfl,trivial⟩
theorem pr{a0 a1 a2 a3 a4 a5 a6 a7:Option Value}:a0=a0∧a1=a1∧a2=a2∧a3=a3∧a4=a4∧a5=a5∧a6=a6∧a7=a7∧True:=⟨rfl,rfl,rfl,rfl,rfl,rfl,rfl,rfl,trivial⟩
theorem vG{a0 a1 a2 a3 a4 a5 a6 a7 a8:Option Value}:a0=a0∧a1=a1∧a2=a2∧a3=a3∧a4=a4∧a5=a5∧a6=a6∧a7=a7∧a8=a8∧True:=⟨rfl,rfl,rfl,rfl,rfl,rfl,rfl,rfl,rfl,trivial⟩
theorem zt{a0 a1 a2 a3 a4 a5 a6 a7 a8 a9:Option Value}:a0=a0∧a1=a1∧a2=a2∧a3=a3∧a4=a4∧a5=a5∧a6=a6∧a7=a7∧a8=a8∧a9=a9∧True:=⟨rfl,rfl,rfl,rfl,rfl,rfl,rfl,rfl,rfl,rfl,trivial⟩
theorem QP{a0 a1 a2 a3 a4 a5 a6 a7 a8 a9 wK:Option Value}:a0=a0∧a1=a1∧a2=a2∧a3=a3∧a4=a4∧a5=a5∧a6=a6∧a7=a7∧a8=a8∧a9=a9∧wK=wK∧True:=⟨rfl,rfl,rfl,rfl,rfl,rfl,rfl,rfl,rfl,rfl,rfl,trivial⟩
theorem ahY{a0 a1 a2 a3 a4 a5 a6 a7 a8 a9 wK IN:Option Value}:a0=a0∧a1=a1∧a2=a2∧a3=a3∧a4=a4∧a5=a5∧a6=a6∧a7=a7∧a8=a8∧a9=a9∧wK=wK∧IN=IN∧True:=⟨rfl,rfl,rfl,rfl,rfl,rfl,rfl,rfl,rfl,rfl,rfl,rfl,trivial⟩
theorem vF{a0 a1 a2 a3 a4 a5 a6 a7 a8 a9 wK IN a12 a13:Option Value}:a0=a0∧a1=a1∧a2=a2∧a3=a3∧a4=a4∧a5=a5∧a6=a6∧a7=a7∧a8=a8∧a9=a9∧wK=wK∧IN=IN∧a12=a12∧a13=a13∧True:=⟨rfl,rfl,rfl,rfl,rfl,rfl,rfl,rfl,rfl,rfl,rfl,rfl,rfl,rfl,trivial⟩
section
variable {P:Program} {B:Base} {main:Bool} {ab:Jd P B main} {c:Ctx} {R:az} {H:ah} {st st':St} {o:Oper} {k:List Item} {ops:Array Oper} {i d:Nat} {rest:List Nat} {t e:TypeId}
theorem cI{x y:Operand}{v:Value}{kd:IntKind}{j:Int}{b n:Nat}(hv:yu P t v j b n)(h:U ab c R H ((d,.pointer (some ⟨b,n,none⟩))::st) (.inRegion ops rest::k))(ho:ops[i]? = some o:=by rfl)(hw:cM ops st o=some true:=by rfl)(hk:(c.kind == CallKind.early)=false:=by rfl)
  (au:o.op = .indexAddr t x y:=by rfl) (hx:bj st x=some v:=by rfl) (hy:bj st y=some (.int kd j):=by rfl) (hd:o.dst=some d:=by rfl) (hl:Nat.blt d c.n=true:=by rfl):U ab c R H st (.inRegion ops (i::rest)::k) :=
 U.s ho hw (Ox.Qf au hx hy hv (by rw [hd]; exact hl) (.put hd) h) hk
theorem cZ(cs:Array Value)(ht:jF P t cs)(h:∀ b,U ab c R ((b,.cells cs t)::H) ((d,.pointer (some ⟨b,0,none⟩))::st) (.inRegion ops rest::k))(ho:ops[i]? = some o:=by rfl)(hw:cM ops st o=some true:=by rfl)(hk:(c.kind == CallKind.early)=false:=by rfl)
  (au:o.op = .alloc t:=by rfl) (hd:o.dst=some d:=by rfl) (hl:Nat.blt d c.n=true:=by rfl):U ab c R H st (.inRegion ops (i::rest)::k) :=
 U.s ho hw (Ox.alloc au ht (by rw [hd]; exact hl) λ b _ _=>⟨_,.put hd,h b⟩) hk
theorem fu(cells:Array Value){parts:Array (Nat × Operand)}{ps:List (Nat × Value)}{places:List (Nat × Nat)}{z:Array Value}(ht:wJ P t places z)(h:U ab c R H ((d,.agg cells)::st) (.inRegion ops rest::k))(ho:ops[i]? = some o:=by rfl)(hw:cM ops st o=some true:=by rfl)(hk:(c.kind == CallKind.early)=false:=by rfl)
  (au:o.op = .build t parts:=by rfl) (hp:BN st parts.toList=some ps:=by rfl) (hf:Instr.fill (places.toArray[·]?) z ps=some cells:=by repeat first | refine jY rfl rfl rfl rfl ?_ | exact jj) (hd:o.dst=some d:=by rfl) (hl:Nat.blt d c.n=true:=by rfl):U ab c R H st (.inRegion ops (i::rest)::k) :=
 U.s ho hw (Ox.build au ht hp hf (by rw [hd]; exact hl) (.put hd) h) hk
theorem fR(cells:Array Value){n len:Nat}{parts:Array (Nat × Operand)}{ps:List (Nat × Value)}{z base:Array Value}(ht:s5 P t e n z)(hb:(Array.range (len * n)).map (z[· % z.size]!)=base)(h:∀ b,U ab c R ((b,.cells cells e)::H) ((d,.slice (some ⟨b,0,none⟩) len len)::st) (.inRegion ops rest::k))
  (ho:ops[i]? = some o:=by rfl) (hw:cM ops st o=some true:=by rfl) (hk:(c.kind == CallKind.early)=false:=by rfl) (au:o.op = .buildSlice t len parts:=by rfl) (hp:BN st parts.toList=some ps:=by rfl) (hlen:len * n≤16777216:=by decide) (hf:Instr.fill (λ j=>some (j * n,n)) base ps=some cells:=by repeat first | refine jY rfl rfl rfl rfl ?_ | exact jj) (hd:o.dst=some d:=by rfl) (hl:Nat.blt d c.n=true:=by rfl):U ab c R H st (.inRegion ops (i::rest)::k) :=
 U.s ho hw (Ox.buildSlice au ht hp hlen hb hf (by rw [hd]; exact hl) λ b _ _=>⟨_,.put hd,h b⟩) hk
theorem nX(cs':Array Value){x y:Operand}{b off:Nat}{v:Value}{cs:Array Value}{H':ah}(ht:gP P t)(hs:fl H b (.cells cs e (0,0)) (.cells cs' e (0,0)) H')(h:U ab c R H' st (.inRegion ops rest::k))(ho:ops[i]? = some o:=by rfl)(hw:cM ops st o=some true:=by rfl)(hk:(c.kind == CallKind.early)=false:=by rfl)
  (au:o.op = .store t x y:=by rfl) (hx:bj st x=some (.pointer (some ⟨b,off,none⟩)):=by rfl) (hy:bj st y=some v:=by rfl) (hv:v.oneCell'=true:=by rfl) (hl:Nat.blt off cs.size=true:=by rfl) (pb:cs.setIfInBounds off v=cs':=by rfl) (hd:o.dst=none:=by rfl):U ab c R H st (.inRegion ops (i::rest)::k) :=
 U.s ho hw (Ox.kD au hx hy ht hv hs hl pb hd (.refl _) h) hk
theorem eT(cs':Array Value){x y:Operand}{b off n:Nat}{vs cs:Array Value}{H':ah}(ht:mX P t n)(hs:fl H b (.cells cs e (0,0)) (.cells cs' e (0,0)) H')(h:U ab c R H' st (.inRegion ops rest::k))(ho:ops[i]? = some o:=by rfl)(hw:cM ops st o=some true:=by rfl)(hk:(c.kind == CallKind.early)=false:=by rfl)
  (au:o.op = .store t x y:=by rfl) (hx:bj st x=some (.pointer (some ⟨b,off,none⟩)):=by rfl) (hy:bj st y=some (.agg vs):=by rfl) (hn:vs.size=n:=by rfl) (h1:∀ u∈vs.toList,u.oneCell'=true:=by repeat first | exact dn | refine cD rfl ?_ | refine cD (aa.one (by assumption)) ?_ | refine cD (cV.one (by assumption)) ?_ | refine cD (bz.one (by assumption)) ?_ | refine cD (aNl.one (by assumption)) ?_ | refine cD (aNm.one (by assumption)) ?_ | refine cD (mg.one (by assumption)) ?_) (hl:Nat.ble (off+n) cs.size=true:=by rfl) (pb:gl cs off vs.toList=cs':=by rfl) (hd:o.dst=none:=by rfl):U ab c R H st (.inRegion ops (i::rest)::k) :=
 U.s ho hw (Ox.fT au hx hy ht hn h1 hs hl pb hd (.refl _) h) hk
theorem Mr{x:Operand}{u:TypeId}{kd ks k0:IntKind}{a:Int}(ht:P.underlying t=some (.int k0))(hu:P.underlying u=some (.int kd))(h:U ab c R H ((d,.int kd (kd.wrap a))::st) (.inRegion ops rest::k))(ho:ops[i]? = some o:=by rfl)(hw:cM ops st o=some true:=by rfl)(hk:(c.kind == CallKind.early)=false:=by rfl)
  (au:o.op = .convert t u x:=by rfl) (hx:bj st x=some (.int ks a):=by rfl) (hd:o.dst=some d:=by rfl) (hl:Nat.blt d c.n=true:=by rfl):U ab c R H st (.inRegion ops (i::rest)::k) :=
 U.s ho hw (Ox.aon au hx ht hu (by rw [hd]; exact hl) (.put hd) h) hk
end
abbrev pT(b:Nat):Value:=.pointer (some ⟨b,0,none⟩)
abbrev bW(l:List Bool):Array Value:=List.toArray ([]++(l.map Value.bool++[]))
abbrev f16:List Bool:=[false,false,false,false,false,false,false,false,false,false,false,false,false,false,false,false]
theorem ay{α:Type}{a b:α}(h:some a=some b):b=a:=(lV h).symm
theorem vK{α:Type}{P:Program}{s:Sem α}{a:α}(h:∀ w,(s.run P w,s.events P w #[])=(.ok a w,#[])):ai P s a:=λ w=>⟨congrArg Prod.fst (h w),congrArg Prod.snd (h w)⟩
section
variable {A1:Type} {K1:cG A1} [CM K1] {k1:Nat} {v1:Value} {x1:List A1} {A2:Type} {K2:cG A2} [CM K2] {k2:Nat} {v2:Value} {x2:List A2} {A3:Type} {K3:cG A3} [CM K3] {k3:Nat} {v3:Value} {x3:List A3} {A4:Type} {K4:cG A4} [CM K4] {k4:Nat} {v4:Value} {x4:List A4} {A5:Type} {K5:cG A5} [CM K5] {k5:Nat} {v5:Value} {x5:List A5} {A6:Type} {K6:cG A6} [CM K6] {k6:Nat} {v6:Value} {x6:List A6} {A7:Type} {K7:cG A7} [CM K7] {k7:Nat} {v7:Value} {x7:List A7} {A8:Type} {K8:cG A8} [CM K8] {k8:Nat} {v8:Value} {x8:List A8} {A9:Type} {K9:cG A9} [CM K9] {k9:Nat} {v9:Value} {x9:List A9} {R R':az}
theorem qn(h:aO R R')(a1:aa K1 k1 R v1 x1)(a2:aa K2 k2 R v2 x2):aa K1 k1 R' v1 x1∧aa K2 k2 R' v2 x2:=⟨a1.mono h,a2.mono h⟩
theorem Eu(h:aO R R')(a1:aa K1 k1 R v1 x1)(a2:aa K2 k2 R v2 x2)(a3:aa K3 k3 R v3 x3):aa K1 k1 R' v1 x1∧aa K2 k2 R' v2 x2∧aa K3 k3 R' v3 x3:=⟨a1.mono h,a2.mono h,a3.mono h⟩
theorem BG(h:aO R R')(a1:aa K1 k1 R v1 x1)(a2:aa K2 k2 R v2 x2)(a3:aa K3 k3 R v3 x3)(a4:aa K4 k4 R v4 x4):aa K1 k1 R' v1 x1∧aa K2 k2 R' v2 x2∧aa K3 k3 R' v3 x3∧aa K4 k4 R' v4 x4:=⟨a1.mono h,a2.mono h,a3.mono h,a4.mono h⟩
theorem dm(h:aO R R')(a1:aa K1 k1 R v1 x1)(a2:aa K2 k2 R v2 x2)(a3:aa K3 k3 R v3 x3)(a4:aa K4 k4 R v4 x4)(a5:aa K5 k5 R v5 x5):aa K1 k1 R' v1 x1∧aa K2 k2 R' v2 x2∧aa K3 k3 R' v3 x3∧aa K4 k4 R' v4 x4∧aa K5 k5 R' v5 x5:=⟨a1.mono h,a2.mono h,a3.mono h,a4.mono h,a5.mono h⟩
theorem ma(h:aO R R')(a1:aa K1 k1 R v1 x1)(a2:aa K2 k2 R v2 x2)(a3:aa K3 k3 R v3 x3)(a4:aa K4 k4 R v4 x4)(a5:aa K5 k5 R v5 x5)(a6:aa K6 k6 R v6 x6):aa K1 k1 R' v1 x1∧aa K2 k2 R' v2 x2∧aa K3 k3 R' v3 x3∧aa K4 k4 R' v4 x4∧aa K5 k5 R' v5 x5∧aa K6 k6 R' v6 x6:=⟨a1.mono h,a2.mono h,a3.mono h,a4.mono h,a5.mono h,a6.mono h⟩
theorem QL(h:aO R R')(a1:aa K1 k1 R v1 x1)(a2:aa K2 k2 R v2 x2)(a3:aa K3 k3 R v3 x3)(a4:aa K4 k4 R v4 x4)(a5:aa K5 k5 R v5 x5)(a6:aa K6 k6 R v6 x6)(a7:aa K7 k7 R v7 x7):aa K1 k1 R' v1 x1∧aa K2 k2 R' v2 x2∧aa K3 k3 R' v3 x3∧aa K4 k4 R' v4 x4∧aa K5 k5 R' v5 x5∧aa K6 k6 R' v6 x6∧aa K7 k7 R' v7 x7:=⟨a1.mono h,a2.mono h,a3.mono h,a4.mono h,a5.mono h,a6.mono h,a7.mono h⟩
theorem kN(h:aO R R')(a1:aa K1 k1 R v1 x1)(a2:aa K2 k2 R v2 x2)(a3:aa K3 k3 R v3 x3)(a4:aa K4 k4 R v4 x4)(a5:aa K5 k5 R v5 x5)(a6:aa K6 k6 R v6 x6)(a7:aa K7 k7 R v7 x7)(a8:aa K8 k8 R v8 x8)(a9:aa K9 k9 R v9 x9):aa K1 k1 R' v1 x1∧aa K2 k2 R' v2 x2∧aa K3 k3 R' v3 x3∧aa K4 k4 R' v4 x4∧aa K5 k5 R' v5 x5∧aa K6 k6 R' v6 x6∧aa K7 k7 R' v7 x7∧aa K8 k8 R' v8 x8∧aa K9 k9 R' v9 x9:=⟨a1.mono h,a2.mono h,a3.mono h,a4.mono h,a5.mono h,a6.mono h,a7.mono h,a8.mono h,a9.mono h⟩
end
section
variable {P:Program} {B:Base} {main:Bool} {ab:Jd P B main} {c:Ctx} {R:az} {H:ah} {st st':St} {o:Oper} {k:List Item} {ops:Array Oper} {i d n:Nat} {rest rem:List Nat} {t e:TypeId}
theorem br{f:FuncId}{fn:Func}{body:Code}{args:List Value}{Post:Value→az→ah→Prop}(hf:P.funcs[f]? = some fn)(n:Nat)
  (h:∀ fr cs,(∀ v R' H',Post v R' H'→ab.J R' H' (aV (fr.finish v) cs))→U ab ⟨f,.normal,none,n,[],fr::cs⟩ R H (uL 0 args) [.code body]) (hb:fn.body=some body:=by rfl) (qd:fn.ntmps=n:=by rfl) (hn:Nat.ble args.length n=true:=by rfl):bg ab f args.toArray R H Post:=bg.oC hf hb qd hn h
theorem kI{N:ah}{x y:Operand}{v:Value}{kd:IntKind}{j:Int}{b m:Nat}(hv:yu P t v j b m)(au:o.op = .indexAddr t x y:=by rfl)(hx:bj st x=some v:=by rfl)(hy:bj st y=some (.int kd j):=by rfl)(hd:o.dst=some d:=by rfl)(hl:Nat.blt d c.n=true:=by rfl) :
  ∀ R' H',aO R R'→(∀ p∈N,p∈H')→aZ P B c o R' H' st λ R1 H1 mK=>R1=R'∧H1=H'∧mK=[(d,.pointer (some ⟨b,m,none⟩))] :=
 λ _ _ _ _=>Ox.Qf au hx hy hv (by rw [hd]; exact hl) (.one hd) ⟨rfl,rfl,rfl⟩
theorem kA{N N':ah}{x:Operand}{b q:Nat}{v:Value}{L:List Value}(ht:gP P t)(j:Nat)(hc:aS R N' b q L)(hN:∀ p∈N',p∈N)(hj:L[j]? = some v:=by rfl)(au:o.op = .load t x:=by rfl)(hx:bj st x=some (.pointer (some ⟨b,q+j,none⟩)):=by rfl)(hd:o.dst=some d:=by rfl)(hl:Nat.blt d c.n=true:=by rfl) :
  ∀ R' H',aO R R'→(∀ p∈N,p∈H')→aZ P B c o R' H' st λ R1 H1 mK=>R1=R'∧H1=H'∧mK=[(d,v)] :=
 λ _ _ hR hS=>Ox.sf au hx ht (((hc.le hR).sub λ p h=>hS p (hN p h)).one hj) (by rw [hd]; exact hl) (.one hd) ⟨rfl,rfl,rfl⟩
theorem kU{N:ah}{x:Operand}{b q:Nat}{v:Value}{L:List Value}(ht:gP P t)(j:Nat)(hc:aS R [] b q L)(hj:L[j]? = some v:=by rfl)(au:o.op = .load t x:=by rfl)(hx:bj st x=some (.pointer (some ⟨b,q+j,none⟩)):=by rfl)(hd:o.dst=some d:=by rfl)(hl:Nat.blt d c.n=true:=by rfl) :
  ∀ R' H',aO R R'→(∀ p∈N,p∈H')→aZ P B c o R' H' st λ R1 H1 mK=>R1=R'∧H1=H'∧mK=[(d,v)] :=
 λ _ _ hR _=>Ox.sf au hx ht ((hc.up hR).one hj) (by rw [hd]; exact hl) (.one hd) ⟨rfl,rfl,rfl⟩
theorem kX{N:ah}{x:Operand}{b:Nat}{v:Value}{L:List Value}{fz:Nat × Nat}(ht:gP P t)(j:Nat)(hm:(b,Obj.cells L.toArray e fz)∈N)(hj:L[j]? = some v:=by rfl)(au:o.op = .load t x:=by rfl)(hx:bj st x=some (.pointer (some ⟨b,0+j,none⟩)):=by rfl)(hd:o.dst=some d:=by rfl)(hl:Nat.blt d c.n=true:=by rfl) :
  ∀ R' H',aO R R'→(∀ p∈N,p∈H')→aZ P B c o R' H' st λ R1 H1 mK=>R1=R'∧H1=H'∧mK=[(d,v)] :=
 λ _ _ _ hS=>Ox.sf au hx ht ((aS.box (hS _ hm)).one hj) (by rw [hd]; exact hl) (.one hd) ⟨rfl,rfl,rfl⟩
section
variable {N:ah} {m:Nat} {v:Value}
theorem tQ(i:Nat)(ho:ops[i]? = some o)(hf:∀ R' H',aO R R'→(∀ p∈N,p∈H')→aZ P B c o R' H' st λ R1 H1 mK=>R1=R'∧H1=H'∧mK=[(d,v)])(h:Any ab c (λ _=>N) ops k m (rem.erase i) R N ((d,v)::st))
  (nU:o.dst=some d:=by rfl) (hw:cM ops st o=some true:=by rfl) (jw:qA ops rem i (Jh ops rem i)=true:=by decide +kernel) (di:rem.Nodup:=by decide):Any ab c (λ _=>N) ops k (m+1) rem R N st:=Any.tk i ho pp hf h nU hw jw di
end
theorem oW(i:Nat){S:Nat→ah}{m n b:Nat}{x y:Operand}{l:List Bool}{cs:Array Value}{H':ah}(ht:mX P t n)(hl:l.length=n)(hs:fl H b (.cells cs e (0,0)) (.cells (bW l) e (0,0)) H')(hK:∀ p∈S i,p∈H→p∈H')(h:Any ab c S ops k m (rem.erase i) R H' st)(ho:ops[i]? = some o:=by rfl)(hw:cM ops st o=some true:=by rfl)
  (au:o.op = .store t x y:=by rfl) (hx:bj st x=some (.pointer (some ⟨b,0,none⟩)):=by rfl) (hy:bj st y=some (.agg (bW l)):=by rfl) (hz:cs.size=n:=by simp) (hd:o.dst=none:=by rfl) (ln:rem.filter (nz ops rem)=[i]:=by decide +kernel) (di:rem.Nodup:=by decide):Any ab c S ops k (m+1) rem R H st :=
 Any.on i ho hw (aZ.to (Ox.fT au hx hy ht (by simp [hl]) (fi dn (fi (lQ λ _=>rfl) dn)) hs (by simp [hz]) (lz (by simp [hl,hz])) hd (.refl _) ⟨rr,hK,h⟩)) ln di
theorem oS(i:Nat)(cs':Array Value){S:Nat→ah}{m b off:Nat}{x y:Operand}{v:Value}{cs:Array Value}{H':ah}(ht:gP P t)(hs:fl H b (.cells cs e (0,0)) (.cells cs' e (0,0)) H')(hK:∀ p∈S i,p∈H→p∈H')(h:Any ab c S ops k m (rem.erase i) R H' st)(ho:ops[i]? = some o:=by rfl)(hw:cM ops st o=some true:=by rfl)
  (au:o.op = .store t x y:=by rfl) (hx:bj st x=some (.pointer (some ⟨b,off,none⟩)):=by rfl) (hy:bj st y=some v:=by rfl) (hv:v.oneCell'=true:=by rfl) (hl:Nat.blt off cs.size=true:=by rfl) (pb:cs.setIfInBounds off v=cs':=by rfl) (hd:o.dst=none:=by rfl) (ln:rem.filter (nz ops rem)=[i]:=by decide +kernel) (di:rem.Nodup:=by decide):Any ab c S ops k (m+1) rem R H st :=
 Any.on i ho hw (aZ.to (Ox.kD au hx hy ht hv hs hl pb hd (.refl _) ⟨rr,hK,h⟩)) ln di
theorem mi{α:Type}{K:cG α}{q cap b:Nat}{es:List Value}{cs:Array Value}{fz:Nat × Nat}{tl:ah}(x:α)(hK:K R x es)(hq:es.length=q:=by rfl)(he:es++[]=cs.toList:=by rfl):pJ K q R ((b,Obj.cells cs e fz)::tl) (.slice (some ⟨b,0,none⟩) 1 cap) [x] :=
 pJ.lit z0 (bf.le (bf.cons hK hq bf.nil) he) rfl
end
end Go.Lg
